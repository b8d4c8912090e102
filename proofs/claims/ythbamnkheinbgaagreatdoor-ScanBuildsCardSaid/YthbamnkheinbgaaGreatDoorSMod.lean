import Derived.Test.YthbamnkheinbgaaGreatDoorYa6
set_option linter.unusedVariables false
set_option linter.unusedSimpArgs false
namespace Go.SL
namespace Saw
structure qA where
 X:Int
 Y:Int
instance : Inhabited qA:=⟨⟨0,0⟩⟩
def qB (r:qA):List C:=[ci r.X,ci r.Y]
structure qE where
 P:qA
 Ok:Bool
instance : Inhabited qE:=⟨⟨dd,false⟩⟩
def qG (r:qE):List C:=[ci r.P.X,ci r.P.Y,cb r.Ok]
structure Ring where
 Z:Int
 Read:List qE
instance : Inhabited Ring:=⟨⟨0,[]⟩⟩
def qN (r:Ring):List C:=[ci r.Z,tl qG dd r.Read]
structure Span where
 A:Int
 B:Int
instance : Inhabited Span:=⟨⟨0,0⟩⟩
def qF (r:Span):List C:=[ci r.A,ci r.B]
structure Box where
 X:Span
 Y:Span
 Z:Span
instance : Inhabited Box:=⟨⟨dd,dd,dd⟩⟩
def OA (r:Box):List C:=[ci r.X.A,ci r.X.B,ci r.Y.A,ci r.Y.B,ci r.Z.A,ci r.Z.B]
structure qL where
 Kind:Int
 Box:Box
instance : Inhabited qL:=⟨⟨0,dd⟩⟩
def qR (r:qL):List C:=[ci r.Kind,ci r.Box.X.A,ci r.Box.X.B,ci r.Box.Y.A,ci r.Box.Y.B,ci r.Box.Z.A,ci r.Box.Z.B]
structure Scan where
 Rings:List Ring
 Defects:List qL
instance : Inhabited Scan:=⟨⟨[],[]⟩⟩
def qZ (r:Scan):List C:=[tl qN dd r.Rings,tl qR dd r.Defects]
structure qC where
 Low:Int
 Rows:List Span
instance : Inhabited qC:=⟨⟨0,[]⟩⟩
def qJ (r:qC):List C:=[ci r.Low,tl qF dd r.Rows]
structure Rect where
 X:Span
 Y:Span
instance : Inhabited Rect:=⟨⟨dd,dd⟩⟩
def JV (r:Rect):List C:=[ci r.X.A,ci r.X.B,ci r.Y.A,ci r.Y.B]
structure qO where
 Len:Int
 Sec:qC
instance : Inhabited qO:=⟨⟨0,dd⟩⟩
def qQ (r:qO):List C:=[ci r.Len,ci r.Sec.Low,tl qF dd r.Sec.Rows]
structure qI where
 s:ByteArray
 at_:Int
 e:Int
instance : Inhabited qI:=⟨⟨⟨#[]⟩,0,0⟩⟩
def qK (r:qI):List C:=[cs r.s,ci r.at_,ci r.e]
structure qNc where
 S:ByteArray
 At:Int
 E:Int
instance : Inhabited qNc:=⟨⟨⟨#[]⟩,0,0⟩⟩
def qCo :List Int:=[(-1),1]
def globs :List (Nat×C):=[(0,.aptr 2 1 (rf qM qCo))]
def WN (a1:Scan):Nat->Int->Option (Bool⊕Unit)
 |0,_=>none
 |n+1,x5=> bif decide (x5<(a1.Rings.length:Int)) then bif inb x5 a1.Rings.length then bif decide (((((a1.Rings.getD x5.toNat dd).Read).length:Nat):Int)>60) then some (Sum.inl false) else (WN a1 n) (w64 (x5+1)) else none else some (Sum.inr ())
def FY (a1:Scan) (x3:Bool):Option Bool:= bif x3 then some false else (WN a1 FUEL 0).bind λu11=>Sum.elim (λv12=>some v12) (λo9=> some true) u11
def AB (a1:Scan):Option Bool:= bif decide ((a1.Rings.length:Int)>40) then FY a1 true else FY a1 (decide ((a1.Defects.length:Int)>100))
def RS :Nat->Int->(List qE)->Option (List qE)
 |0,_,_=>none
 |n+1,x4,l5=> bif decide (x4<((8:Nat):Int)) then bif inb x4 8 then bif room (l5.length+1) 24 then (RS n) (w64 (x4+1)) (l5++([(qE.mk (qA.mk (([(-50),0,50,50,50,0,(-50),(-50)]:List Int).getD x4.toNat dd) (([(-20),(-20),(-20),0,20,20,20,0]:List Int).getD x4.toNat dd)) true)]:List qE)) else none else none else some l5
def VH (x3:Bool):Option Bool:= some x3
def PZ (a1:Int):Option Bool:= bif decide (a1≥(-600)) then VH (decide (a1<=600)) else VH false
def DP (x7:Int) (R:Int->Option (Int⊕Unit)) (x19:Bool):Option (Int⊕Unit):= bif x19 then some (Sum.inl 19) else R (w64 (x7+1))
def PQ (a1:Ring) (x7:Int) (R:Int->Option (Int⊕Unit)) (x16:Bool):Option (Int⊕Unit):= bif x16 then some (Sum.inl 9) else bif !((a1.Read.getD x7.toNat dd).Ok) then DP x7 R (!(((((a1.Read.getD x7.toNat dd).P).X)==0)&&(((((a1.Read.getD x7.toNat dd).P).Y)==0)&&true))) else DP x7 R false
def jI (a1:Ring):Nat->Int->Option (Int⊕Unit)
 |0,_=>none
 |n+1,x7=> bif decide (x7<(a1.Read.length:Int)) then bif inb x7 a1.Read.length then bif (a1.Read.getD x7.toNat dd).Ok then (PZ (((a1.Read.getD x7.toNat dd).P).X)).bind λv11=> bif !v11 then PQ a1 x7 (jI a1 n) true else (PZ (((a1.Read.getD x7.toNat dd).P).Y)).bind λv14=> PQ a1 x7 (jI a1 n) (!v14) else PQ a1 x7 (jI a1 n) false else none else some (Sum.inr ())
def DV (a1:Ring) (x5:Bool):Option Int:= bif x5 then some 9 else (jI a1 FUEL 0).bind λu23=>Sum.elim (λv24=>some v24) (λo21=> some 0) u23
def KU (a1:Ring):Option Int:= bif decide ((a1.Read.length:Int)<8) then some 3 else bif decide ((a1.Read.length:Int)>32) then some 4 else bif decide (a1.Z<0) then DV a1 true else DV a1 (decide (a1.Z>20000))
def WG (a1:Span):Option Bool:= some (decide (a1.A≥a1.B))
def KV (x5:Bool):Option Bool:= some x5
def ZI (a1:Span) (a2:Int) (a3:Int):Option Bool:= bif decide ((imin a1.A a1.B)≥a2) then KV (decide ((imax a1.A a1.B)<=a3)) else KV false
def YA (x23:Bool):Option Int:= bif x23 then some 9 else some 0
def YK (a1:qL) (x13:Bool):Option Int:= bif x13 then some 19 else (ZI a1.Box.X (-600) 600).bind λv15=> bif !v15 then YA true else (ZI a1.Box.Y (-600) 600).bind λv18=> bif !v18 then YA true else (ZI a1.Box.Z 0 20000).bind λv21=> YA (!v21)
def RP (a1:qL) (x3:Bool):Option Int:= bif x3 then some 10 else (WG a1.Box.X).bind λv5=> bif v5 then YK a1 true else (WG a1.Box.Y).bind λv8=> bif v8 then YK a1 true else (WG a1.Box.Z).bind λv11=> YK a1 v11
def UB (a1:qL):Option Int:= bif decide (a1.Kind<1) then RP a1 true else RP a1 (decide (a1.Kind>6))
def yQ (a1:List qL):Nat->Int->Option (Int⊕Unit)
 |0,_=>none
 |n+1,x3=> bif decide (x3<(a1.length:Int)) then bif inb x3 a1.length then (UB (a1.getD x3.toNat dd)).bind λv6=> bif v6 !=0 then some (Sum.inl v6) else (yQ a1 n) (w64 (x3+1)) else none else some (Sum.inr ())
def UI (a1:List qL):Option Int:= bif decide ((a1.length:Int)>64) then some 4 else (yQ a1 FUEL 0).bind λu11=>Sum.elim (λv12=>some v12) (λo9=> some 0) u11
def ZJ (a1:Scan) (x4:Int) (R:Int->Option (Int⊕Unit)) (x16:Bool):Option (Int⊕Unit):= bif x16 then some (Sum.inl 11) else bif inb 0 a1.Rings.length then bif ((((a1.Rings.getD x4.toNat dd).Read).length:Nat):Int) !=((((a1.Rings.getD (0:Int).toNat dd).Read).length:Nat):Int) then some (Sum.inl 19) else R (w64 (x4+1)) else none
def wF (a1:Scan):Nat->Int->Option (Int⊕Unit)
 |0,_=>none
 |n+1,x4=> bif decide (x4<(a1.Rings.length:Int)) then bif inb x4 a1.Rings.length then (KU (a1.Rings.getD x4.toNat dd)).bind λv7=> bif v7 !=0 then some (Sum.inl v7) else bif x4==0 then bif ((a1.Rings.getD x4.toNat dd).Z) !=0 then ZJ a1 x4 (wF a1 n) true else bif decide (x4>0) then bif inb (w64 (x4-1)) a1.Rings.length then ZJ a1 x4 (wF a1 n) (decide (((a1.Rings.getD x4.toNat dd).Z)<=((a1.Rings.getD (w64 (x4-1)).toNat dd).Z))) else none else ZJ a1 x4 (wF a1 n) false else bif decide (x4>0) then bif inb (w64 (x4-1)) a1.Rings.length then ZJ a1 x4 (wF a1 n) (decide (((a1.Rings.getD x4.toNat dd).Z)<=((a1.Rings.getD (w64 (x4-1)).toNat dd).Z))) else none else ZJ a1 x4 (wF a1 n) false else none else some (Sum.inr ())
def JE (a1:Scan):Nat->Int->Option (Int⊕Unit)
 |0,_=>none
 |n+1,x28=> bif decide (x28<(a1.Defects.length:Int)) then bif inb x28 a1.Defects.length then bif decide (((((a1.Defects.getD x28.toNat dd).Box).Z).B)>((a1.Rings.getD (w64 ((a1.Rings.length:Int)-1)).toNat dd).Z)) then some (Sum.inl 9) else (JE a1 n) (w64 (x28+1)) else none else some (Sum.inr ())
def ZT (a1:Scan):Option Int:= bif decide ((a1.Rings.length:Int)<2) then some 3 else bif decide ((a1.Rings.length:Int)>24) then some 4 else (wF a1 FUEL 0).bind λu22=>Sum.elim (λv23=>some v23) (λo20=> (UI a1.Defects).bind λv24=> bif v24 !=0 then some v24 else bif inb (w64 ((a1.Rings.length:Int)-1)) a1.Rings.length then (JE a1 FUEL 0).bind λu34=>Sum.elim (λv35=>some v35) (λo32=> some 0) u34 else none) u22
def QY (a1:List qE):Option (List qE):= bif room a1.length 24 then some a1 else none
def LJ (a1:Ring):Option Ring:= (QY a1.Read).bind λv2=> some (Ring.mk a1.Z v2)
def KW (x3:Int) (R:(List Int)->Int->Option (List Int)) (l8:List Int):Option (List Int):= R l8 (w64 (x3+1))
def jH (a1:Ring):Nat->(List Int)->Int->Option (List Int)
 |0,_,_=>none
 |n+1,l2,x3=> bif decide (x3<(a1.Read.length:Int)) then bif inb x3 a1.Read.length then bif (a1.Read.getD x3.toNat dd).Ok then bif room (l2.length+1) 8 then KW x3 (jH a1 n) (l2++[x3]) else none else KW x3 (jH a1 n) l2 else none else some l2
def ZN (a1:Ring):Option (List Int):= (jH a1 FUEL [] 0).bind λo10=> some o10
def SB (x5:Bool):Option Bool:= some x5
def OR (a1:qA) (a2:qA) (a3:Int):Option Bool:= bif decide ((imax (w64 (a1.X-a2.X)) (w64 (a2.X-a1.X)))>a3) then SB true else SB (decide ((imax (w64 (a1.Y-a2.Y)) (w64 (a2.Y-a1.Y)))>a3))
def BF (x18:Int) (R:Bool->Int->Option Bool) (x28:Bool):Option Bool:= R x28 (w64 (x18+1))
def wQ (a1:Ring) (a2:Int) (v5:(List Int)) (x13:Int):Nat->Bool->Int->Option Bool
 |0,_,_=>none
 |n+1,x17,x18=> bif decide (x18<2) then bif inb x18 2 then bif nz (v5.length:Int) then bif inb (Int.tmod (w64 ((w64 (x13+(v5.length:Int)))+(([(-1),1]:List Int).getD x18.toNat 0))) (v5.length:Int)) v5.length then bif inb (v5.getD ((Int.tmod (w64 ((w64 (x13+(v5.length:Int)))+(([(-1),1]:List Int).getD x18.toNat 0))) (v5.length:Int)).toNat) dd) a1.Read.length then bif x17 then bif inb (v5.getD x13.toNat dd) a1.Read.length then (OR ((a1.Read.getD (v5.getD x13.toNat dd).toNat dd).P) ((a1.Read.getD (v5.getD ((Int.tmod (w64 ((w64 (x13+(v5.length:Int)))+(([(-1),1]:List Int).getD x18.toNat 0))) (v5.length:Int)).toNat) dd).toNat dd).P) a2).bind λv26=> BF x18 (wQ a1 a2 v5 x13 n) v26 else none else BF x18 (wQ a1 a2 v5 x13 n) false
 else none else none else none else none else some x17
def DZ (x13:Int) (R:Int->(List qE)->Option (List qE)) (l34:List qE):Option (List qE):= R (w64 (x13+1)) l34
def yY (a1:Ring) (a2:Int) (v5:(List Int)):Nat->Int->(List qE)->Option (List qE)
 |0,_,_=>none
 |n+1,x13,l14=> bif decide (x13<(v5.length:Int)) then bif inb x13 v5.length then (wQ a1 a2 v5 x13 FUEL true 0).bind λo30=> bif o30 then bif inb (v5.getD x13.toNat dd) l14.length then DZ x13 (yY a1 a2 v5 n) (l14.set ((v5.getD x13.toNat dd).toNat) (qE.mk (qA.mk 0 0) false)) else none else DZ x13 (yY a1 a2 v5 n) l14 else none else some l14
def PI (a1:Ring) (a2:Int) (v3:Ring) (v5:(List Int)) (x11:Bool):Option Ring:= bif x11 then some (Ring.mk v3.Z v3.Read) else (yY a1 a2 v5 FUEL 0 v3.Read).bind λo36=> some (Ring.mk v3.Z o36)
def LS (a1:Ring) (a2:Int):Option Ring:= (LJ a1).bind λv3=> (ZN a1).bind λv5=> bif decide (a2<0) then PI a1 a2 v3 v5 true else bif decide ((v5.length:Int)<2) then PI a1 a2 v3 v5 true else (KU a1).bind λv9=> PI a1 a2 v3 v5 (v9 !=0)
def RE (a1:Ring) (a2:List Int) (a3:Int):Option Int:= bif decide ((w64 (a3+1))<(a2.length:Int)) then bif inb (w64 (a3+1)) a2.length then bif inb a3 a2.length then some (w64 ((w64 ((a2.getD (w64 (a3+1)).toNat dd)-(a2.getD a3.toNat dd)))-1)) else none else none else bif inb 0 a2.length then bif inb a3 a2.length then some (w64 ((w64 ((w64 ((a2.getD (0:Int).toNat dd)+(a1.Read.length:Int)))-(a2.getD a3.toNat dd)))-1)) else none else none
def XD (a1:Ring) (v2:(List Int)):Nat->Int->Int->Option Int
 |0,_,_=>none
 |n+1,x5,x6=> bif decide (x6<(v2.length:Int)) then (RE a1 v2 x6).bind λv8=> (XD a1 v2 n) (imax x5 v8) (w64 (x6+1)) else some x5
def FC (a1:Ring):Option (Int×Int):= (ZN a1).bind λv2=> bif (v2.length:Int)==0 then some (w64 ((a1.Read.length:Int)-(v2.length:Int)),w64 ((a1.Read.length:Int)-(v2.length:Int))) else (XD a1 v2 FUEL 0 0).bind λo11=> some (w64 ((a1.Read.length:Int)-(v2.length:Int)),o11)
def BJ (x5:Int):Option Int:= some x5
def VN (a1:Int) (a2:Int):Option Int:= bif nz a2 then bif decide ((Int.tmod a1 a2)<0) then BJ (w64 ((w64 (Int.tdiv a1 a2))-1)) else BJ (w64 (Int.tdiv a1 a2)) else none
def WD (a1:Ring) (v6:(List Int)) (x16:Int) (v24:Int):Nat->(List qA)->Int->Option (List qA)
 |0,_,_=>none
 |n+1,l26,x27=> bif decide (x27<=v24) then bif nz (l26.length:Int) then (VN (w64 ((w64 ((((a1.Read.getD (v6.getD ((Int.tmod (w64 (x16+1)) (v6.length:Int)).toNat) dd).toNat dd).P).X)-(((a1.Read.getD (v6.getD x16.toNat dd).toNat dd).P).X)))*x27)) (w64 (v24+1))).bind λv30=> (VN (w64 ((w64 ((((a1.Read.getD (v6.getD ((Int.tmod (w64 (x16+1)) (v6.length:Int)).toNat) dd).toNat dd).P).Y)-(((a1.Read.getD (v6.getD x16.toNat dd).toNat dd).P).Y)))*x27)) (w64 (v24+1))).bind λv32=> bif inb (Int.tmod (w64 ((v6.getD x16.toNat dd)+x27)) (l26.length:Int)) l26.length then (WD a1 v6 x16 v24 n) (l26.set ((Int.tmod (w64 ((v6.getD x16.toNat dd)+x27)) (l26.length:Int)).toNat) (qA.mk (w64 ((((a1.Read.getD (v6.getD x16.toNat dd).toNat dd).P).X)+v30)) (w64 ((((a1.Read.getD (v6.getD x16.toNat dd).toNat dd).P).Y)+v32)))) (w64 (x27+1))
 else none else none else some l26
def QR (a1:Ring) (v6:(List Int)):Nat->(List qA)->Int->Option (List qA)
 |0,_,_=>none
 |n+1,l15,x16=> bif decide (x16<(v6.length:Int)) then bif inb x16 v6.length then bif inb (v6.getD x16.toNat dd) a1.Read.length then bif nz (v6.length:Int) then bif inb (Int.tmod (w64 (x16+1)) (v6.length:Int)) v6.length then bif inb (v6.getD ((Int.tmod (w64 (x16+1)) (v6.length:Int)).toNat) dd) a1.Read.length then bif inb (v6.getD x16.toNat dd) l15.length then (RE a1 v6 x16).bind λv24=> (WD a1 v6 x16 v24 FUEL (l15.set ((v6.getD x16.toNat dd).toNat) ((a1.Read.getD (v6.getD x16.toNat dd).toNat dd).P)) 1).bind λo36=> (QR a1 v6 n) o36 (w64 (x16+1)) else none else none else none else none else none else none else some l15
def XG (a1:Ring) (v6:(List Int)) (x12:Bool):Option ((List qA)×Int):= bif x12 then some ([],30) else bif mkOk (a1.Read.length:Int) 16 then (QR a1 v6 FUEL (List.replicate ((a1.Read.length:Int).toNat) (qA.mk 0 0)) 0).bind λo39=> some (o39,0) else none
def DB (a1:Ring) (a2:Int):Option ((List qA)×Int):= (KU a1).bind λv3=> bif v3 !=0 then some ([],v3) else (ZN a1).bind λv6=> (FC a1).bind λv8=> bif decide ((v6.length:Int)<3) then XG a1 v6 true else bif decide (v8.1>0) then XG a1 v6 (decide (v8.2>a2)) else XG a1 v6 false
def VM (x3:Bool):Option Bool:= some x3
def RD (a1:Int):Option Bool:= bif decide (a1≥(-600)) then VM (decide (a1<=600)) else VM false
def TD (x2:Int) (R:Int->Option (Bool⊕Unit)) (x10:Bool):Option (Bool⊕Unit):= bif x10 then some (Sum.inl false) else R (w64 (x2+1))
def yN (a1:List qA):Nat->Int->Option (Bool⊕Unit)
 |0,_=>none
 |n+1,x2=> bif decide (x2<(a1.length:Int)) then bif inb x2 a1.length then (RD ((a1.getD x2.toNat dd).X)).bind λv5=> bif !v5 then TD x2 (yN a1 n) true else (RD ((a1.getD x2.toNat dd).Y)).bind λv8=> TD x2 (yN a1 n) (!v8) else none else some (Sum.inr ())
def WJ (a1:List qA):Option Bool:= (yN a1 FUEL 0).bind λu14=>Sum.elim (λv15=>some v15) (λo12=> some true) u14
def JC (a1:List qA):Nat->Int->Int->Option Int
 |0,_,_=>none
 |n+1,x7,x8=> bif decide (x8<(a1.length:Int)) then bif inb x8 a1.length then bif nz (a1.length:Int) then bif inb (Int.tmod (w64 (x8+1)) (a1.length:Int)) a1.length then (JC a1 n) (w64 (x7+(w64 ((w64 (((a1.getD x8.toNat dd).X)*((a1.getD (Int.tmod (w64 (x8+1)) (a1.length:Int)).toNat dd).Y)))-(w64 (((a1.getD (Int.tmod (w64 (x8+1)) (a1.length:Int)).toNat dd).X)*((a1.getD x8.toNat dd).Y))))))) (w64 (x8+1)) else none else none else none else some x7
def DX (a1:List qA) (x5:Bool):Option Int:= bif x5 then some 0 else (JC a1 FUEL 0 0).bind λo14=> some o14
def FR (a1:List qA):Option Int:= bif decide ((a1.length:Int)>32) then DX a1 true else (WJ a1).bind λv3=> DX a1 (!v3)
def LV (a1:List qA):Option Int:= bif decide ((a1.length:Int)<3) then some 3 else bif decide ((a1.length:Int)>32) then some 4 else (WJ a1).bind λv4=> bif !v4 then some 9 else (FR a1).bind λv7=> bif v7==0 then some 19 else some 0
def RR (a1:Int) (a2:Int):Option Span:= some (Span.mk (w64 (10*a1)) (w64 (10*a2)))
def QG (a1:List qA):Option (List qA):= bif room a1.length 16 then some a1 else none
def PO (a1:Int):Option Bool:= some (a1 !=a1)
def QZ (a1:Int) (a2:Int):Option Int:= (PO a1).bind λv3=> (PO a2).bind λv5=> bif v3 then bif v5 then some 0 else some (-1) else bif v5 then some 1 else bif decide (a1<a2) then some (-1) else bif decide (a1>a2) then some 1 else some 0
def WH (a1:List Int):Nat->Int->Option (Int⊕Unit)
 |0,_=>none
 |n+1,x2=> bif decide (x2<(a1.length:Int)) then bif inb x2 a1.length then bif (a1.getD x2.toNat dd) !=0 then some (Sum.inl (a1.getD x2.toNat dd)) else (WH a1 n) (w64 (x2+1)) else none else some (Sum.inr ())
def DL (a1:List Int):Option Int:= (WH a1 FUEL 0).bind λu8=>Sum.elim (λv9=>some v9) (λo6=> some 0) u8
def poly_Hull_1 (a1:qA) (a2:qA):Option Int:= (QZ a1.X a2.X).bind λv3=> (QZ a1.Y a2.Y).bind λv5=> (DL [v3,v5]).bind λv7=> some v7
def jR (a1:List qA):Option (List qA):= bif qDP a1.length then some (PK poly_Hull_1 a1) else none
def yJ (x12:Int) (R:(List qA)->Int->Int->Option ((List qA)×Int)) (l19:List qA) (x20:Int):Option ((List qA)×Int):= R l19 x20 (w64 (x12+1))
def zU (l3:List qA) (x4:Int):Nat->(List qA)->Int->Int->Option ((List qA)×Int)
 |0,_,_,_=>none
 |n+1,l10,x11,x12=> bif decide (x12<(((l3.length-x4.toNat):Nat):Int)) then bif inb x12 (l3.length-x4.toNat) then bif Nat.ble (x4.toNat+(l3.length-x4.toNat)) l10.length then bif inb (w64 (x12-1)) (l3.length-x4.toNat) then bif !((((l10.getD (x4.toNat+x12.toNat) dd).X)==((l10.getD (x4.toNat+((w64 (x12-1)).toNat)) dd).X))&&((((l10.getD (x4.toNat+x12.toNat) dd).Y)==((l10.getD (x4.toNat+((w64 (x12-1)).toNat)) dd).Y))&&true)) then bif inb x11 l10.length then yJ x12 (zU l3 x4 n) (l10.set x11.toNat (l10.getD (x4.toNat+x12.toNat) dd)) (w64 (x11+1)) else none else yJ x12 (zU l3 x4 n) l10 x11 else none else none else none else some (l10,x11)
def wH :Nat->(List qA)->Int->Option (((List qA)×(List qA))⊕(List qA))
 |0,_,_=>none
 |n+1,l3,x4=> bif decide (x4<(l3.length:Int)) then bif inb x4 l3.length then bif inb (w64 (x4-1)) l3.length then bif ((((l3.getD x4.toNat dd).X)==((l3.getD ((w64 (x4-1)).toNat) dd).X))&&((((l3.getD x4.toNat dd).Y)==((l3.getD ((w64 (x4-1)).toNat) dd).Y))&&true)) then bif slOk x4 (l3.length:Int) l3.length then (zU l3 x4 FUEL l3 x4 1).bind λo23=> bif slOk o23.2 (o23.1.length:Int) o23.1.length then bif slOk 0 o23.2 o23.1.length then some (Sum.inl ((o23.1.take o23.2.toNat),(o23.1.take o23.2.toNat))) else none else none else none else (wH n) l3 (w64 (x4+1)) else none else none else some (Sum.inr l3)
def jA (a1:List qA):Option ((List qA)×(List qA)):= bif decide ((a1.length:Int)<2) then some (a1,a1) else (wH FUEL a1 1).bind λu30=>Sum.elim (λv31=>some v31) (λo28=> some (o28,o28)) u30
def LM (a1:qA) (a2:qA) (a3:qA):Option Int:= some (w64 ((w64 ((w64 (a2.X-a1.X))*(w64 (a3.Y-a1.Y))))-(w64 ((w64 (a3.X-a1.X))*(w64 (a2.Y-a1.Y))))))
def BE (l6:List qA) (R:(List qA)->Option (List qA)) (x12:Bool):Option (List qA):= bif x12 then bif slOk 0 (w64 ((l6.length:Int)-1)) l6.length then R (l6.take ((w64 ((l6.length:Int)-1)).toNat)) else none else some l6
def ZH (a1:List qA) (x3:Int):Nat->(List qA)->Option (List qA)
 |0,_=>none
 |n+1,l6=> bif decide ((l6.length:Int)≥2) then bif inb (w64 ((l6.length:Int)-2)) l6.length then bif inb (w64 ((l6.length:Int)-1)) l6.length then (LM (l6.getD ((w64 ((l6.length:Int)-2)).toNat) dd) (l6.getD ((w64 ((l6.length:Int)-1)).toNat) dd) (a1.getD x3.toNat dd)).bind λv10=> BE l6 (ZH a1 x3 n) (decide (v10<=0)) else none else none else BE l6 (ZH a1 x3 n) false
def PD (a1:List qA):Nat->(List qA)->Int->Option (List qA)
 |0,_,_=>none
 |n+1,l2,x3=> bif decide (x3<(a1.length:Int)) then bif inb x3 a1.length then (ZH a1 x3 FUEL l2).bind λo16=> bif room (o16.length+1) 16 then (PD a1 n) (o16++[(a1.getD x3.toNat dd)]) (w64 (x3+1)) else none else none else some l2
def UN (a1:List qA):Option (List qA):= (PD a1 FUEL [] 0).bind λo20=> bif slOk 0 (w64 ((o20.length:Int)-1)) o20.length then some (o20.take ((w64 ((o20.length:Int)-1)).toNat)) else none
def jF :Nat->(List qA)->Int->Int->Option (List qA)
 |0,_,_,_=>none
 |n+1,l2,x3,x4=> bif decide (x3<x4) then bif inb x4 l2.length then bif inb x3 l2.length then (jF n) ((l2.set x3.toNat (l2.getD x4.toNat dd)).set x4.toNat (l2.getD x3.toNat dd)) (w64 (x3+1)) (w64 (x4-1)) else none else none else some l2
def yC (a1:List qA):Option (List qA):= (jF FUEL a1 0 (w64 ((a1.length:Int)-1))).bind λo9=> some o9
def TH (a1:List qA) (x6:Bool):Option (List qA):= bif x6 then some ([]:List qA) else (QG a1).bind λv8=> (jR v8).bind λv10=> bif v10.length==v8.length then (jA v10).bind λv13=> (UN v13.2).bind λv15=> (yC v13.2).bind λv17=> bif v17.length==v13.2.length then (UN v17).bind λv20=> bif room (v15.length+v20.length) 16 then bif decide ((((v15.length+v20.length):Nat):Int)<3) then some ([]:List qA) else some (v15++v20) else none else none else none
def SZ (a1:List qA):Option (List qA):= bif decide ((a1.length:Int)<3) then TH a1 true else bif decide ((a1.length:Int)>32) then TH a1 true else (WJ a1).bind λv4=> TH a1 (!v4)
def XN (a1:List qA):Nat->Int->Rect->Option Rect
 |0,_,_=>none
 |n+1,x4,x5=> bif decide (x4<(a1.length:Int)) then bif inb x4 a1.length then (XN a1 n) (w64 (x4+1)) (Rect.mk (Span.mk (imin x5.X.A ((a1.getD x4.toNat dd).X)) (imax x5.X.B ((a1.getD x4.toNat dd).X))) (Span.mk (imin x5.Y.A ((a1.getD x4.toNat dd).Y)) (imax x5.Y.B ((a1.getD x4.toNat dd).Y)))) else none else some x5
def DC (a1:List qA):Option Rect:= bif (a1.length:Int)==0 then some (Rect.mk (Span.mk 0 0) (Span.mk 0 0)) else bif inb 0 a1.length then (XN a1 FUEL 0 (Rect.mk (Span.mk ((a1.getD (0:Int).toNat dd).X) ((a1.getD (0:Int).toNat dd).X)) (Span.mk ((a1.getD (0:Int).toNat dd).Y) ((a1.getD (0:Int).toNat dd).Y)))).bind λo9=> some o9 else none
def DO (x5:Int):Option Int:= some x5
def VP (a1:Int) (a2:Int):Option Int:= bif nz a2 then bif decide ((Int.tmod a1 a2)<0) then DO (w64 ((w64 (Int.tdiv a1 a2))-1)) else DO (w64 (Int.tdiv a1 a2)) else none
def JZ (x6:Int) (R:Int->Int->Int->Option (Int×Int)) (x23:Int) (x24:Int):Option (Int×Int):= R x23 x24 (w64 (x6+1))
def JX (a1:Int) (a3:List qA) (x4:Int) (x5:Int) (x6:Int) (R:Int->Int->Int->Option (Int×Int)) (x19:Bool):Option (Int×Int):= bif x19 then (VP (w64 ((w64 (((a3.getD ((Int.tmod (w64 (x6+1)) (a3.length:Int)).toNat) dd).X)-((a3.getD x6.toNat dd).X)))*(w64 (a1-((a3.getD ((Int.tmod (w64 (x6+1)) (a3.length:Int)).toNat) dd).Y))))) (w64 (((a3.getD x6.toNat dd).Y)-((a3.getD ((Int.tmod (w64 (x6+1)) (a3.length:Int)).toNat) dd).Y)))).bind λv21=> JZ x6 R (w64 (((a3.getD ((Int.tmod (w64 (x6+1)) (a3.length:Int)).toNat) dd).X)-v21)) x5 else JZ x6 R x4 x5
def YL (a1:Int) (a3:List qA) (x4:Int) (x5:Int) (x6:Int) (R:Int->Int->Int->Option (Int×Int)) (x13:Bool):Option (Int×Int):= bif x13 then (VP (w64 ((w64 (((a3.getD ((Int.tmod (w64 (x6+1)) (a3.length:Int)).toNat) dd).X)-((a3.getD x6.toNat dd).X)))*(w64 (a1-((a3.getD x6.toNat dd).Y))))) (w64 (((a3.getD ((Int.tmod (w64 (x6+1)) (a3.length:Int)).toNat) dd).Y)-((a3.getD x6.toNat dd).Y)))).bind λv15=> JZ x6 R x4 (w64 (((a3.getD x6.toNat dd).X)+v15)) else bif decide (((a3.getD x6.toNat dd).Y)>((a3.getD ((Int.tmod (w64 (x6+1)) (a3.length:Int)).toNat) dd).Y)) then bif decide (((a3.getD ((Int.tmod (w64 (x6+1)) (a3.length:Int)).toNat) dd).Y)<=a1) then JX a1 a3 x4 x5 x6 R (decide (a1<=((a3.getD x6.toNat dd).Y)))
 else JX a1 a3 x4 x5 x6 R false else JX a1 a3 x4 x5 x6 R false
def wC (a1:Int) (a3:List qA):Nat->Int->Int->Int->Option (Int×Int)
 |0,_,_,_=>none
 |n+1,x4,x5,x6=> bif decide (x6<(a3.length:Int)) then bif inb x6 a3.length then bif nz (a3.length:Int) then bif inb (Int.tmod (w64 (x6+1)) (a3.length:Int)) a3.length then bif decide (((a3.getD x6.toNat dd).Y)<((a3.getD ((Int.tmod (w64 (x6+1)) (a3.length:Int)).toNat) dd).Y)) then bif decide (((a3.getD x6.toNat dd).Y)<=a1) then YL a1 a3 x4 x5 x6 (wC a1 a3 n) (decide (a1<=((a3.getD ((Int.tmod (w64 (x6+1)) (a3.length:Int)).toNat) dd).Y))) else YL a1 a3 x4 x5 x6 (wC a1 a3 n) false else YL a1 a3 x4 x5 x6 (wC a1 a3 n) false else none else none else none else some (x4,x5)
def XM (a1:Int) (a2:Rect) (a3:List qA):Option (Int×Int):= (wC a1 a3 FUEL a2.X.A a2.X.B 0).bind λo27=> some (o27.1,o27.2)
def JG (a2:Int) (a3:Int) (v4:(List qA)) (v6:Rect) (x11:Bool):Option Span:= bif x11 then some (Span.mk 0 0) else (XM a2 v6 v4).bind λv13=> (XM a3 v6 v4).bind λv15=> bif decide ((imax v13.1 v15.1)≥(imin v13.2 v15.2)) then some (Span.mk 0 0) else some (Span.mk (imax v13.1 v15.1) (imin v13.2 v15.2))
def MA (a1:List qA) (a2:Int) (a3:Int):Option Span:= (SZ a1).bind λv4=> (DC v4).bind λv6=> bif (v4.length:Int)==0 then JG a2 a3 v4 v6 true else bif decide (a2≥a3) then JG a2 a3 v4 v6 true else bif decide (a2<v6.Y.A) then JG a2 a3 v4 v6 true else JG a2 a3 v4 v6 (decide (a3>v6.Y.B))
def TV (a1:Int) (a2:List qA):Option Span:= (RR a1 (w64 (a1+1))).bind λv3=> (MA a2 v3.A v3.B).bind λv5=> some v5
def jQ (a1:Span):Option Bool:= some (decide (a1.A≥a1.B))
def WR (x3:Int) (R:Int->Int->Int->(List Span)->Option (Int×Int×(List Span))) (x17:Int) (x18:Int) (l19:List Span):Option (Int×Int×(List Span)):= R x17 (w64 (x3+1)) x18 l19
def KZ (x3:Int) (l5:List Span) (R:Int->Int->Int->(List Span)->Option (Int×Int×(List Span))) (v7:Span) (x13:Int):Option (Int×Int×(List Span)):= bif room (l5.length+1) 16 then WR x3 R (((l5.length+1):Nat):Int) x13 (l5++[v7]) else none
def zV (a1:List qA):Nat->Int->Int->Int->(List Span)->Option (Int×Int×(List Span))
 |0,_,_,_,_=>none
 |n+1,x2,x3,x4,l5=> bif decide (x3<60) then (TV x3 a1).bind λv7=> (jQ v7).bind λv9=> bif !v9 then bif x2==0 then KZ x3 l5 (zV a1 n) v7 x3 else KZ x3 l5 (zV a1 n) v7 x4 else bif decide (x2>0) then bif room (l5.length+1) 16 then WR x3 (zV a1 n) x2 x4 (l5++[(Span.mk 0 0)]) else none else WR x3 (zV a1 n) x2 x4 l5 else some (x2,x4,l5)
def PH (a1:List qA):Option qC:= (zV a1 FUEL 0 (-60) 0 []).bind λo23=> bif slOk 0 o23.1 o23.2.2.length then some (qC.mk o23.2.1 (o23.2.2.take o23.1.toNat)) else none
def MC (a1:List qA):Option (qC×Int):= (LV a1).bind λv2=> bif v2 !=0 then some ((qC.mk 0 []),v2) else (PH a1).bind λv5=> bif (v5.Rows.length:Int)==0 then some ((qC.mk 0 []),18) else some ((qC.mk v5.Low v5.Rows),0)
def KB (a1:Ring) (a2:Int) (a3:Int):Option (qC×Int):= (LS a1 a2).bind λv4=> (DB (Ring.mk v4.Z v4.Read) a3).bind λv6=> bif v6.2 !=0 then some ((qC.mk 0 []),v6.2) else (MC v6.1).bind λv9=> some ((qC.mk v9.1.Low v9.1.Rows),v9.2)
def JU (x3:Bool):Option Bool:= some x3
def JP (a1:Span):Option Bool:= bif decide ((imin a1.A a1.B)≥(-600)) then JU (decide ((imax a1.A a1.B)<=600)) else JU false
def jW (a1:qC):Nat->Int->Option (Int⊕Unit)
 |0,_=>none
 |n+1,x6=> bif decide (x6<(a1.Rows.length:Int)) then bif inb x6 a1.Rows.length then (JP (a1.Rows.getD x6.toNat dd)).bind λv9=> bif !v9 then some (Sum.inl 9) else (jW a1 n) (w64 (x6+1)) else none else some (Sum.inr ())
def KL (x27:Int) (R:Int->Option (Int⊕Unit)) (x33:Bool):Option (Int⊕Unit):= bif x33 then some (Sum.inl 19) else R (w64 (x27+1))
def wN (a1:qC):Nat->Int->Option (Int⊕Unit)
 |0,_=>none
 |n+1,x27=> bif decide (x27<(a1.Rows.length:Int)) then bif inb x27 a1.Rows.length then (jQ (a1.Rows.getD x27.toNat dd)).bind λv30=> bif v30 then KL x27 (wN a1 n) (!((((a1.Rows.getD x27.toNat dd).A)==0)&&((((a1.Rows.getD x27.toNat dd).B)==0)&&true))) else KL x27 (wN a1 n) false else none else some (Sum.inr ())
def KK (a1:qC) (x25:Bool):Option Int:= bif x25 then some 19 else (wN a1 FUEL 0).bind λu37=>Sum.elim (λv38=>some v38) (λo35=> some 0) u37
def KT (a1:qC) (x4:Bool):Option Int:= bif x4 then some 9 else (jW a1 FUEL 0).bind λu14=>Sum.elim (λv15=>some v15) (λo12=> bif (a1.Rows.length:Int)==0 then bif a1.Low !=0 then some 19 else some 0 else bif inb 0 a1.Rows.length then (jQ (a1.Rows.getD (0:Int).toNat dd)).bind λv19=> bif v19 then KK a1 true else bif inb (w64 ((a1.Rows.length:Int)-1)) a1.Rows.length then (jQ (a1.Rows.getD (w64 ((a1.Rows.length:Int)-1)).toNat dd)).bind λv23=> KK a1 v23 else none else none) u14
def JD (a1:qC):Option Int:= bif decide ((a1.Rows.length:Int)>120) then some 4 else bif decide (a1.Low<(-60)) then KT a1 true else KT a1 (decide (a1.Low>(w64 (60-(a1.Rows.length:Int)))))
def ZG (a1:qC):Option qC:= (JD a1).bind λv2=> bif v2 !=0 then some (qC.mk 0 []) else some a1
def BA (a1:qC) (a2:Int) (x4:Bool):Option Span:= bif x4 then some (Span.mk 0 0) else bif inb (w64 (a2-a1.Low)) a1.Rows.length then some (a1.Rows.getD (w64 (a2-a1.Low)).toNat dd) else none
def VL (a1:qC) (a2:Int):Option Span:= bif decide (a2<a1.Low) then BA a1 a2 true else BA a1 a2 (decide (a2≥(w64 (a1.Low+(a1.Rows.length:Int)))))
def EJ (a1:Span) (a2:Span):Option Span:= bif decide ((imax a1.A a2.A)≥(imin a1.B a2.B)) then some (Span.mk 0 0) else some (Span.mk (imax a1.A a2.A) (imin a1.B a2.B))
def XH (a1:Int) (a2:qC) (a3:qC):Option Span:= (VL a2 a1).bind λv4=> (VL a3 a1).bind λv6=> (EJ v4 v6).bind λv8=> some v8
def QE (x4:Int) (R:Int->Int->Int->(List Span)->Option (Int×Int×(List Span))) (x18:Int) (x19:Int) (l20:List Span):Option (Int×Int×(List Span)):= R x18 (w64 (x4+1)) x19 l20
def WV (x4:Int) (l6:List Span) (R:Int->Int->Int->(List Span)->Option (Int×Int×(List Span))) (v8:Span) (x14:Int):Option (Int×Int×(List Span)):= bif room (l6.length+1) 16 then QE x4 R (((l6.length+1):Nat):Int) x14 (l6++[v8]) else none
def zN (a1:qC) (a2:qC):Nat->Int->Int->Int->(List Span)->Option (Int×Int×(List Span))
 |0,_,_,_,_=>none
 |n+1,x3,x4,x5,l6=> bif decide (x4<60) then (XH x4 a1 a2).bind λv8=> (jQ v8).bind λv10=> bif !v10 then bif x3==0 then WV x4 l6 (zN a1 a2 n) v8 x4 else WV x4 l6 (zN a1 a2 n) v8 x5 else bif decide (x3>0) then bif room (l6.length+1) 16 then QE x4 (zN a1 a2 n) x3 x5 (l6++[(Span.mk 0 0)]) else none else QE x4 (zN a1 a2 n) x3 x5 l6 else some (x3,x5,l6)
def WK (a1:qC) (a2:qC):Option qC:= (zN a1 a2 FUEL 0 (-60) 0 []).bind λo24=> bif slOk 0 o24.1 o24.2.2.length then some (qC.mk o24.2.1 (o24.2.2.take o24.1.toNat)) else none
def XI (a1:qC) (a2:qC):Option qC:= (ZG a1).bind λv3=> (ZG a2).bind λv5=> (WK v3 v5).bind λv7=> some (qC.mk v7.Low v7.Rows)
def JH (a1:Scan) (a2:Int) (a3:Int):Nat->(List qC)->Int->Option (((List qO)×Int)⊕(List qC))
 |0,_,_=>none
 |n+1,l8,x9=> bif decide (x9<(a1.Rings.length:Int)) then bif inb x9 a1.Rings.length then (KB (a1.Rings.getD x9.toNat dd) a2 a3).bind λv12=> bif v12.2 !=0 then some (Sum.inl ([],30)) else bif inb x9 l8.length then (JH a1 a2 a3 n) (l8.set x9.toNat v12.1) (w64 (x9+1)) else none else none else some (Sum.inr l8)
def JI (a1:Scan) (o17:(List qC)):Nat->(List qO)->Int->Option (((List qO)×Int)⊕(List qO))
 |0,_,_=>none
 |n+1,l22,x23=> bif decide (x23<(((w64 ((a1.Rings.length:Int)-1)).toNat:Nat):Int)) then bif inb x23 o17.length then bif inb (w64 (x23+1)) o17.length then (XI (o17.getD x23.toNat dd) (o17.getD ((w64 (x23+1)).toNat) dd)).bind λv27=> bif (v27.Rows.length:Int)==0 then some (Sum.inl ([],30)) else bif inb (w64 (x23+1)) a1.Rings.length then bif inb x23 a1.Rings.length then bif inb x23 l22.length then (JI a1 o17 n) (l22.set x23.toNat (qO.mk (w64 (((a1.Rings.getD (w64 (x23+1)).toNat dd).Z)-((a1.Rings.getD x23.toNat dd).Z))) v27)) (w64 (x23+1)) else none else none else none else none else none else some (Sum.inr l22)
def QT (a1:Scan) (a2:Int) (a3:Int):Option ((List qO)×Int):= (ZT a1).bind λv4=> bif v4 !=0 then some ([],v4) else bif mkOk (a1.Rings.length:Int) 32 then (JH a1 a2 a3 FUEL (List.replicate ((a1.Rings.length:Int).toNat) (qC.mk 0 [])) 0).bind λu19=>Sum.elim (λv20=>some v20) (λo17=> bif mkOk (w64 ((a1.Rings.length:Int)-1)) 40 then (JI a1 o17 FUEL (List.replicate ((w64 ((a1.Rings.length:Int)-1)).toNat) (qO.mk 0 (qC.mk 0 []))) 0).bind λu39=>Sum.elim (λv40=>some v40) (λo37=> some (o37,0)) u39 else none) u19 else none
def KO (x3:Int) (R:(List Int)->Int->Option (List Int)) (l9:List Int):Option (List Int):= R l9 (w64 (x3+1))
def yS (a1:List qE):Nat->(List Int)->Int->Option (List Int)
 |0,_,_=>none
 |n+1,l2,x3=> bif decide (x3<(a1.length:Int)) then bif inb x3 a1.length then bif (a1.getD x3.toNat dd).Ok then bif room (l2.length+3) 8 then KO x3 (yS a1 n) (l2++[1,((a1.getD x3.toNat dd).P).X,((a1.getD x3.toNat dd).P).Y]) else none else bif room (l2.length+1) 8 then KO x3 (yS a1 n) (l2++[0]) else none else none else some l2
def GL (a1:List qE):Option (List Int):= (yS a1 FUEL [] 0).bind λo11=> some o11
def CN :Nat->Int->(List Int)->Option (Int×(List Int))
 |0,_,_=>none
 |n+1,x2,l3=> bif decide (x2≥128) then bif room (l3.length+1) 1 then (CN n) (shrI .u64 x2 7) (l3++[orI .u8 (IntKind.u8.wrap (x2)) 128]) else none else some (x2,l3)
def NZ (a1:Int):Option ByteArray:= (CN FUEL a1 []).bind λo8=> bif room (o8.2.length+1) 1 then some (strTk (o8.2.length+1) (o8.2++[IntKind.u8.wrap (o8.1)])) else none
def qAn (a1:Int):Option ByteArray:= bif decide (a1<0) then (NZ (orI .u64 (shlI .u64 (notI .u64 (IntKind.u64.wrap (a1))) 1) 1)).bind λv3=> some v3 else (NZ (shlI .u64 (IntKind.u64.wrap (a1)) 1)).bind λv5=> some v5
def qA6 (a1:List Int):Option ByteArray:=intsM NZ qAn a1
def RH (a1:List qL):Nat->(List Int)->Int->Option (List Int)
 |0,_,_=>none
 |n+1,l2,x3=> bif decide (x3<(a1.length:Int)) then bif inb x3 a1.length then bif room (l2.length+7) 8 then (RH a1 n) (l2++[(a1.getD x3.toNat dd).Kind,(((a1.getD x3.toNat dd).Box).X).A,(((a1.getD x3.toNat dd).Box).X).B,(((a1.getD x3.toNat dd).Box).Y).A,(((a1.getD x3.toNat dd).Box).Y).B,(((a1.getD x3.toNat dd).Box).Z).A,(((a1.getD x3.toNat dd).Box).Z).B]) (w64 (x3+1)) else none else none else some l2
def BS (a1:List qL):Option (List Int):= (RH a1 FUEL [] 0).bind λo8=> some o8
def MT (a1:Scan):Nat->(List Int)->ByteArray->Int->Option ((List Int)×ByteArray)
 |0,_,_,_=>none
 |n+1,l5,x6,x7=> bif decide (x7<(a1.Rings.length:Int)) then bif inb x7 a1.Rings.length then bif room (l5.length+1) 8 then (GL ((a1.Rings.getD x7.toNat dd).Read)).bind λv11=> (qA6 v11).bind λv13=> bif qEX x6 v13 then (MT a1 n) (l5++[(a1.Rings.getD x7.toNat dd).Z]) (x6++v13) (w64 (x7+1)) else none else none else none else some (l5,x6)
def PY (a1:Scan):Option (ByteArray×Int):= (ZT a1).bind λv2=> bif v2 !=0 then some ((ByteArray.mk #[]),v2) else (MT a1 FUEL [] (ByteArray.mk #[]) 0).bind λo18=> (qA6 o18.1).bind λv20=> bif qEX v20 o18.2 then (BS a1.Defects).bind λv23=> (qA6 v23).bind λv25=> bif qEX (v20++o18.2) v25 then some ((v20++o18.2)++v25,0) else none else none
def HO (a1:ByteArray):Option qI:= some (qI.mk a1 0 0)
def RO (a1:qI):Option Bool:= some (a1.e !=0)
def XZ (a1:Int) (a2:qI) (x3:Int) (x4:Int) (x13:Bool):Option ((Int×Int×Int)⊕Unit):= bif x13 then some (Sum.inl (0,0,5)) else some (Sum.inl (orI .u64 x3 (shlI .u64 (IntKind.u64.wrap (andI .u8 (WW a2.s ((w64 (a1+x4)).toNat)) 127)) (w64 (7*x4))),w64 ((w64 (a1+x4))+1),0))
def XV (a1:Int) (a2:qI) (x3:Int) (x4:Int) (R:Int->Int->Option ((Int×Int×Int)⊕Unit)) (x8:Bool):Option ((Int×Int×Int)⊕Unit):= bif x8 then some (Sum.inl (0,0,5)) else bif nneg (w64 (7*x4)) then bif decide ((WW a2.s ((w64 (a1+x4)).toNat))≥128) then R (orI .u64 x3 (shlI .u64 (IntKind.u64.wrap (andI .u8 (WW a2.s ((w64 (a1+x4)).toNat)) 127)) (w64 (7*x4)))) (w64 (x4+1)) else bif (WW a2.s ((w64 (a1+x4)).toNat))==0 then XZ a1 a2 x3 x4 (decide (x4>0)) else XZ a1 a2 x3 x4 false else none
def yE (a1:Int) (a2:qI):Nat->Int->Int->Option ((Int×Int×Int)⊕Unit)
 |0,_,_=>none
 |n+1,x3,x4=> bif decide ((w64 (a1+x4))≥(a2.s.size:Int)) then some (Sum.inl (0,0,3)) else bif inb (w64 (a1+x4)) a2.s.size then bif x4==9 then XV a1 a2 x3 x4 (yE a1 a2 n) (decide ((WW a2.s ((w64 (a1+x4)).toNat))>1)) else XV a1 a2 x3 x4 (yE a1 a2 n) false else none
def JT (a1:Int) (a2:qI):Option (Int×Int×Int):= (yE a1 a2 FUEL 0 0).bind λu17=>Sum.elim (λv18=>some v18) (λo15=> none) u17
def YM (v4:Int×Int×Int) (x8:Bool):Option (Int×Int×Int):= bif x8 then some (0,0,4) else some (v4.1,v4.2.1,0)
def RN (a1:Int) (a2:Int) (a3:qI):Option (Int×Int×Int):= (JT a1 a3).bind λv4=> bif v4.2.2 !=0 then some (0,0,v4.2.2) else bif decide (a2<0) then YM v4 true else YM v4 (decide (v4.1>(IntKind.u64.wrap (a2))))
def XL (v5:Int×Int×Int) (x9:Int) (x11:Bool):Option (Int×Int×Int):= bif x11 then some (0,0,9) else some (x9,v5.2.1,0)
def KA (a2:Int) (a3:Int) (v5:Int×Int×Int) (x9:Int):Option (Int×Int×Int):= bif decide (x9<a2) then XL v5 x9 true else XL v5 x9 (decide (x9>a3))
def TR (a1:Int) (a2:Int) (a3:Int) (a4:qI):Option (Int×Int×Int):= (JT a1 a4).bind λv5=> bif v5.2.2 !=0 then some (0,0,v5.2.2) else bif (andI .u64 v5.1 1)==1 then KA a2 a3 v5 (notI .i64 (w64 (shrI .u64 v5.1 1))) else KA a2 a3 v5 (w64 (shrI .u64 v5.1 1))
def BY (a1:Int) (a2:Int) (a3:qI):Option (Int×Int):= bif a2 !=0 then some (a3.at_,a2) else some (a1,a3.e)
def RG (a2:Int) (a3:Int) (a4:qI) (x10:Int) (x11:Int) (l12:List Int) (x13:Int) (R:Int->Int->(List Int)->Int->Option (Int×Int×(List Int))) (x15:Bool):Option (Int×Int×(List Int)):= bif x15 then (TR x10 a2 a3 a4).bind λv17=> bif room (l12.length+1) 8 then R v17.2.1 v17.2.2 (l12++[v17.1]) (IntKind.u64.wrap (x13+1)) else none else some (x10,x11,l12)
def QI (a2:Int) (a3:Int) (a4:qI) (v8:Int×Int×Int):Nat->Int->Int->(List Int)->Int->Option (Int×Int×(List Int))
 |0,_,_,_,_=>none
 |n+1,x10,x11,l12,x13=> bif decide (x13<v8.1) then RG a2 a3 a4 x10 x11 l12 x13 (QI a2 a3 a4 v8 n) (x11==0) else RG a2 a3 a4 x10 x11 l12 x13 (QI a2 a3 a4 v8 n) false
def BL (a1:Int) (a2:Int) (a3:Int) (a4:qI):Option ((List Int)×Int×Int):= (RO a4).bind λv5=> bif v5 then some ([],a4.at_,a4.e) else (RN a4.at_ a1 a4).bind λv8=> (QI a2 a3 a4 v8 FUEL v8.2.1 v8.2.2 [] 0).bind λo23=> (BY o23.1 o23.2.1 a4).bind λv25=> bif o23.2.1 !=0 then some ([],v25.1,v25.2) else some (o23.2.2,v25.1,v25.2)
def TF (a1:Int) (a2:qI):Option ((List Int)×Int×Int):= (BL a1 (-1099511627776) 1099511627776 a2).bind λv3=> some (v3.1,v3.2.1,v3.2.2)
def TI (l2:List Int) (l3:List qE) (R:(List Int)->(List qE)->Option (((List qE)×Bool)⊕(List qE))) (x10:Bool):Option (((List qE)×Bool)⊕(List qE)):= bif x10 then bif inb 1 l2.length then bif inb 2 l2.length then bif room (l3.length+1) 24 then bif slOk 3 (l2.length:Int) l2.length then R (l2.drop ((3:Int).toNat)) (l3++[(qE.mk (qA.mk (l2.getD (1:Int).toNat dd) (l2.getD (2:Int).toNat dd)) true)]) else none else none else none else none else some (Sum.inl ([],false))
def yA :Nat->(List Int)->(List qE)->Option (((List qE)×Bool)⊕(List qE))
 |0,_,_=>none
 |n+1,l2,l3=> bif decide ((l2.length:Int)>0) then bif inb 0 l2.length then bif (l2.getD (0:Int).toNat dd)==0 then bif room (l3.length+1) 24 then bif slOk 1 (l2.length:Int) l2.length then (yA n) (l2.drop ((1:Int).toNat)) (l3++[(qE.mk (qA.mk 0 0) false)]) else none else none else bif (l2.getD (0:Int).toNat dd)==1 then TI l2 l3 (yA n) (decide ((l2.length:Int)≥3)) else TI l2 l3 (yA n) false else none else some (Sum.inr l3)
def FZ (a1:List Int):Option ((List qE)×Bool):= (yA FUEL a1 []).bind λu19=>Sum.elim (λv20=>some v20) (λo17=> some (o17,true)) u19
def GA :Nat->(List Int)->(List qL)->Option (List qL)
 |0,_,_=>none
 |n+1,l3,l4=> bif decide ((l3.length:Int)>0) then bif inb 1 l3.length then bif inb 2 l3.length then bif inb 3 l3.length then bif inb 4 l3.length then bif inb 5 l3.length then bif inb 6 l3.length then bif inb 0 l3.length then bif room (l4.length+1) 56 then bif slOk 7 (l3.length:Int) l3.length then (GA n) (l3.drop ((7:Int).toNat)) (l4++[(qL.mk (l3.getD (0:Int).toNat dd) (Box.mk (Span.mk (l3.getD (1:Int).toNat dd) (l3.getD (2:Int).toNat dd)) (Span.mk (l3.getD (3:Int).toNat dd) (l3.getD (4:Int).toNat dd)) (Span.mk (l3.getD (5:Int).toNat dd) (l3.getD (6:Int).toNat dd))))]) else none else none else none else none else none else none else none else none else none else some l4
def MZ (a1:List Int):Option ((List qL)×Bool):= bif (Int.tmod (a1.length:Int) 7) !=0 then some ([],false) else (GA FUEL a1 []).bind λo16=> some (o16,true)
def MB (a1:qI):Option Int:= some a1.e
def NM (a1:qI):Option Int:= some (w64 ((a1.s.size:Int)-a1.at_))
def LG (a1:qI):Option Int:= (MB a1).bind λv2=> bif v2 !=0 then some v2 else (NM a1).bind λv5=> bif decide (v5>0) then some 4 else some 0
def AH (v2:qI) (v4:(List Int)×Int×Int):Nat->Int->(List Ring)->Int->Int->Option ((Scan×Bool)⊕((List Ring)×qI))
 |0,_,_,_,_=>none
 |n+1,x6,l7,x8,x9=> bif decide (x6<(v4.1.length:Int)) then bif inb x6 v4.1.length then (TF 96 (qI.mk v2.s x8 x9)).bind λv12=> (FZ v12.1).bind λv14=> bif !v14.2 then some (Sum.inl ((Scan.mk [] []),false)) else bif room (l7.length+1) 32 then (AH v2 v4 n) (w64 (x6+1)) (l7++[(Ring.mk (v4.1.getD x6.toNat dd) v14.1)]) v12.2.1 v12.2.2 else none else none else some (Sum.inr (l7,(qI.mk v2.s x8 x9)))
def AJ (o20:(List Ring)×qI) (v26:(List qL)×Bool) (x31:Bool):Option (Scan×Bool):= bif x31 then some ((Scan.mk [] []),false) else some ((Scan.mk o20.1 v26.1),true)
def qCA (a1:ByteArray):Option (Scan×Bool):= (HO a1).bind λv2=> (TF 24 v2).bind λv4=> (AH v2 v4 FUEL 0 [] v4.2.1 v4.2.2).bind λu22=>Sum.elim (λv23=>some v23) (λo20=> (TF 448 o20.2).bind λv24=> (MZ v24.1).bind λv26=> bif !v26.2 then AJ o20 v26 true else (LG (qI.mk o20.2.s v24.2.1 v24.2.2)).bind λv29=> AJ o20 v26 (v29 !=0)) u22
def PW (a1:ByteArray):Option (Scan×Int):= (qCA a1).bind λv2=> bif !v2.2 then some ((Scan.mk [] []),5) else (ZT (Scan.mk v2.1.Rings v2.1.Defects)).bind λv5=> bif v5 !=0 then some ((Scan.mk [] []),v5) else some ((Scan.mk v2.1.Rings v2.1.Defects),0)
def WP (a1:List qE) (a2:List qE):Nat->Int->Option (Bool⊕Unit)
 |0,_=>none
 |n+1,x4=> bif decide (x4<(a1.length:Int)) then bif inb x4 a1.length then bif inb x4 a2.length then bif !((((((a1.getD x4.toNat dd).P).X)==(((a2.getD x4.toNat dd).P).X))&&(((((a1.getD x4.toNat dd).P).Y)==(((a2.getD x4.toNat dd).P).Y))&&true))&&((((a1.getD x4.toNat dd).Ok)==((a2.getD x4.toNat dd).Ok))&&true)) then some (Sum.inl false) else (WP a1 a2 n) (w64 (x4+1)) else none else none else some (Sum.inr ())
def XY (a1:List qE) (a2:List qE):Option Bool:= bif (a1.length:Int) !=(a2.length:Int) then some false else (WP a1 a2 FUEL 0).bind λu11=>Sum.elim (λv12=>some v12) (λo9=> some true) u11
def MS (x6:Bool):Option Bool:= some x6
def qBP (a1:Ring) (a2:Ring):Option Bool:= bif a1.Z==a2.Z then (XY a1.Read a2.Read).bind λv4=> MS v4 else MS false
def ZU (a1:List Ring) (a2:List Ring):Nat->Int->Option (Bool⊕Unit)
 |0,_=>none
 |n+1,x4=> bif decide (x4<(a1.length:Int)) then bif inb x4 a1.length then bif inb x4 a2.length then (qBP (a1.getD x4.toNat dd) (a2.getD x4.toNat dd)).bind λv8=> bif !v8 then some (Sum.inl false) else (ZU a1 a2 n) (w64 (x4+1)) else none else none else some (Sum.inr ())
def YS (a1:List Ring) (a2:List Ring):Option Bool:= bif (a1.length:Int) !=(a2.length:Int) then some false else (ZU a1 a2 FUEL 0).bind λu13=>Sum.elim (λv14=>some v14) (λo11=> some true) u13
def WY (a1:List qL) (a2:List qL):Nat->Int->Option (Bool⊕Unit)
 |0,_=>none
 |n+1,x4=> bif decide (x4<(a1.length:Int)) then bif inb x4 a1.length then bif inb x4 a2.length then bif !((((a1.getD x4.toNat dd).Kind)==((a2.getD x4.toNat dd).Kind))&&((((((((a1.getD x4.toNat dd).Box).X).A)==((((a2.getD x4.toNat dd).Box).X).A))&&((((((a1.getD x4.toNat dd).Box).X).B)==((((a2.getD x4.toNat dd).Box).X).B))&&true))&&(((((((a1.getD x4.toNat dd).Box).Y).A)==((((a2.getD x4.toNat dd).Box).Y).A))&&((((((a1.getD x4.toNat dd).Box).Y).B)==((((a2.getD x4.toNat dd).Box).Y).B))&&true))&&(((((((a1.getD x4.toNat dd).Box).Z).A)==((((a2.getD x4.toNat dd).Box).Z).A))&&((((((a1.getD x4.toNat dd).Box).Z).B)==((((a2.getD x4.toNat dd).Box).Z).B))&&true))&&true)))&&true)) then some (Sum.inl false) else
 (WY a1 a2 n) (w64 (x4+1)) else none else none else some (Sum.inr ())
def KQ (a1:List qL) (a2:List qL):Option Bool:= bif (a1.length:Int) !=(a2.length:Int) then some false else (WY a1 a2 FUEL 0).bind λu11=>Sum.elim (λv12=>some v12) (λo9=> some true) u11
def CM (x8:Bool):Option Bool:= some x8
def EW (a1:Scan) (a2:Scan):Option Bool:= (YS a1.Rings a2.Rings).bind λv3=> bif v3 then (KQ a1.Defects a2.Defects).bind λv6=> CM v6 else CM false
def HD (a1:List qO) (x4:Int) (x5:Int) (R:Int->Int->Option (Int⊕Unit)) (x13:Bool):Option (Int⊕Unit):= bif x13 then some (Sum.inl 9) else R (w64 (x4+((a1.getD x5.toNat dd).Len))) (w64 (x5+1))
def XS (a1:List qO):Nat->Int->Int->Option (Int⊕Unit)
 |0,_,_=>none
 |n+1,x4,x5=> bif decide (x5<(a1.length:Int)) then bif inb x5 a1.length then (JD ((a1.getD x5.toNat dd).Sec)).bind λv8=> bif v8 !=0 then some (Sum.inl v8) else bif (((((a1.getD x5.toNat dd).Sec).Rows).length:Nat):Int)==0 then some (Sum.inl 18) else bif decide (((a1.getD x5.toNat dd).Len)<1) then HD a1 x4 x5 (XS a1 n) true else HD a1 x4 x5 (XS a1 n) (decide (((a1.getD x5.toNat dd).Len)>(w64 (20000-x4)))) else none else some (Sum.inr ())
def qBD (a1:List qO):Option Int:= bif (a1.length:Int)==0 then some 3 else bif decide ((a1.length:Int)>24) then some 4 else (XS a1 FUEL 0 0).bind λu17=>Sum.elim (λv18=>some v18) (λo15=> some 0) u17
def qBM (a1:List qO):Option (List qO):= (qBD a1).bind λv2=> bif v2 !=0 then some ([]:List qO) else some a1
def qDT (a1:Span):Option Int:= bif decide (a1.A≥a1.B) then some 0 else some (IntKind.u64.wrap ((IntKind.u64.wrap (a1.B))-(IntKind.u64.wrap (a1.A))))
def qAe (a1:Int):Option Int:= some (w64 (imin a1 9223372036854775807))
def qGz (a1:Span):Option Int:= (qDT a1).bind λv2=> (qAe v2).bind λv4=> some v4
def FU (v2:qC):Nat->Int->Int->Option Int
 |0,_,_=>none
 |n+1,x4,x5=> bif decide (x5<(v2.Rows.length:Int)) then bif inb x5 v2.Rows.length then (qGz (v2.Rows.getD x5.toNat dd)).bind λv8=> (FU v2 n) (w64 (x4+v8)) (w64 (x5+1)) else none else some x4
def OZ (a1:qC):Option Int:= (ZG a1).bind λv2=> (FU v2 FUEL 0 0).bind λo11=> some (w64 (10*o11))
def FJ (v2:(List qO)):Nat->Int->Int->Option Int
 |0,_,_=>none
 |n+1,x4,x5=> bif decide (x5<(v2.length:Int)) then bif inb x5 v2.length then (OZ ((v2.getD x5.toNat dd).Sec)).bind λv8=> (FJ v2 n) (w64 (x4+(w64 (((v2.getD x5.toNat dd).Len)*v8)))) (w64 (x5+1)) else none else some x4
def FT (a1:List qO):Option Int:= (qBM a1).bind λv2=> (FJ v2 FUEL 0 0).bind λo11=> some o11 @[irreducible] def law15_awake :Option Bool:=some true
def yR (x2:Int) (R:Int->Option (Bool⊕Unit)) (x8:Bool):Option (Bool⊕Unit):= bif x8 then some (Sum.inl false) else R (w64 (x2+1))
def zT (a1:List qA):Nat->Int->Option (Bool⊕Unit)
 |0,_=>none
 |n+1,x2=> bif decide (x2<(a1.length:Int)) then bif inb x2 a1.length then bif decide (((a1.getD x2.toNat dd).X)<(-600)) then yR x2 (zT a1 n) true else bif decide (((a1.getD x2.toNat dd).X)>600) then yR x2 (zT a1 n) true else bif decide (((a1.getD x2.toNat dd).Y)<(-600)) then yR x2 (zT a1 n) true else yR x2 (zT a1 n) (decide (((a1.getD x2.toNat dd).Y)>600)) else none else some (Sum.inr ())
def jS (a1:List qA):Option Bool:= (zT a1 FUEL 0).bind λu12=>Sum.elim (λv13=>some v13) (λo10=> some true) u12
def VF (x7:Int) (R:Int->Option (Int⊕Unit)) (x16:Bool):Option (Int⊕Unit):= bif x16 then some (Sum.inl 19) else R (w64 (x7+1))
def VO (a1:Ring) (x7:Int) (R:Int->Option (Int⊕Unit)) (x13:Bool):Option (Int⊕Unit):= bif x13 then some (Sum.inl 9) else bif !((a1.Read.getD x7.toNat dd).Ok) then VF x7 R (!(((((a1.Read.getD x7.toNat dd).P).X)==0)&&(((((a1.Read.getD x7.toNat dd).P).Y)==0)&&true))) else VF x7 R false
def jK (a1:Ring):Nat->Int->Option (Int⊕Unit)
 |0,_=>none
 |n+1,x7=> bif decide (x7<(a1.Read.length:Int)) then bif inb x7 a1.Read.length then bif (a1.Read.getD x7.toNat dd).Ok then (jS [(a1.Read.getD x7.toNat dd).P]).bind λv11=> VO a1 x7 (jK a1 n) (!v11) else VO a1 x7 (jK a1 n) false else none else some (Sum.inr ())
def VT (a1:Ring) (x5:Bool):Option Int:= bif x5 then some 9 else (jK a1 FUEL 0).bind λu20=>Sum.elim (λv21=>some v21) (λo18=> some 0) u20
def YO (a1:Ring):Option Int:= bif decide ((a1.Read.length:Int)<8) then some 3 else bif decide ((a1.Read.length:Int)>32) then some 4 else bif decide (a1.Z<0) then VT a1 true else VT a1 (decide (a1.Z>20000))
def XJ (x4:Bool):Option Bool:= some x4
def DG (a1:Box):Option Bool:= bif decide (a1.X.A≥a1.X.B) then XJ true else bif decide (a1.Y.A≥a1.Y.B) then XJ true else XJ (decide (a1.Z.A≥a1.Z.B))
def SM (x5:Bool):Option Bool:= some x5
def NG (a1:Span) (a2:Int) (a3:Int):Option Bool:= bif decide (a2<=a1.A) then SM (decide (a1.B<=a3)) else SM false
def YI (x10:Bool):Option Bool:= some x10
def TS (a1:Box):Option Bool:= (NG a1.X (-600) 600).bind λv2=> bif v2 then (NG a1.Y (-600) 600).bind λv5=> bif v5 then (NG a1.Z 0 20000).bind λv8=> YI v8 else YI false else YI false
def UU (a1:List qL) (x3:Int) (R:Int->Option (Int⊕Unit)) (x7:Bool):Option (Int⊕Unit):= bif x7 then some (Sum.inl 10) else bif inb x3 a1.length then (DG ((a1.getD x3.toNat dd).Box)).bind λv10=> bif v10 then some (Sum.inl 19) else (TS ((a1.getD x3.toNat dd).Box)).bind λv13=> bif !v13 then some (Sum.inl 9) else R (w64 (x3+1)) else none
def jL (a1:List qL):Nat->Int->Option (Int⊕Unit)
 |0,_=>none
 |n+1,x3=> bif decide (x3<(a1.length:Int)) then bif inb x3 a1.length then bif decide (((a1.getD x3.toNat dd).Kind)<1) then UU a1 x3 (jL a1 n) true else UU a1 x3 (jL a1 n) (decide (((a1.getD x3.toNat dd).Kind)>6)) else none else some (Sum.inr ())
def DJ (a1:List qL):Option Int:= bif decide ((a1.length:Int)>64) then some 4 else (jL a1 FUEL 0).bind λu18=>Sum.elim (λv19=>some v19) (λo16=> some 0) u18
def QP (a1:Scan) (x5:Int) (R:Int->Int->Option (Int⊕Int)) (x15:Bool):Option (Int⊕Int):= bif x15 then some (Sum.inl 11) else bif inb 0 a1.Rings.length then bif ((((a1.Rings.getD x5.toNat dd).Read).length:Nat):Int) !=((((a1.Rings.getD (0:Int).toNat dd).Read).length:Nat):Int) then some (Sum.inl 19) else R ((a1.Rings.getD x5.toNat dd).Z) (w64 (x5+1)) else none
def zQ (a1:Scan):Nat->Int->Int->Option (Int⊕Int)
 |0,_,_=>none
 |n+1,x4,x5=> bif decide (x5<(a1.Rings.length:Int)) then bif inb x5 a1.Rings.length then (YO (a1.Rings.getD x5.toNat dd)).bind λv8=> bif v8 !=0 then some (Sum.inl v8) else bif x5==0 then bif ((a1.Rings.getD x5.toNat dd).Z) !=0 then QP a1 x5 (zQ a1 n) true else bif decide (x5>0) then QP a1 x5 (zQ a1 n) (decide (((a1.Rings.getD x5.toNat dd).Z)<=x4)) else QP a1 x5 (zQ a1 n) false else bif decide (x5>0) then QP a1 x5 (zQ a1 n) (decide (((a1.Rings.getD x5.toNat dd).Z)<=x4)) else QP a1 x5 (zQ a1 n) false else none else some (Sum.inr x4)
def WF (a1:Scan) (o20:Int):Nat->Int->Option (Int⊕Unit)
 |0,_=>none
 |n+1,x27=> bif decide (x27<(a1.Defects.length:Int)) then bif inb x27 a1.Defects.length then bif decide (((((a1.Defects.getD x27.toNat dd).Box).Z).B)>o20) then some (Sum.inl 9) else (WF a1 o20 n) (w64 (x27+1)) else none else some (Sum.inr ())
def GY (a1:Scan):Option Int:= bif decide ((a1.Rings.length:Int)<2) then some 3 else bif decide ((a1.Rings.length:Int)>24) then some 4 else (zQ a1 FUEL 0 0).bind λu22=>Sum.elim (λv23=>some v23) (λo20=> (DJ a1.Defects).bind λv24=> bif v24 !=0 then some v24 else (WF a1 o20 FUEL 0).bind λu33=>Sum.elim (λv34=>some v34) (λo31=> some 0) u33) u22
def BK (x8:Int) (R:Int->Option Int) (x12:Bool):Option Int:= bif x12 then R (w64 (x8+1)) else some x8
def wE (a1:Ring) (x4:Int):Nat->Int->Option Int
 |0,_=>none
 |n+1,x8=> bif decide (x8<(a1.Read.length:Int)) then bif nz (a1.Read.length:Int) then bif inb (Int.tmod (w64 (x4+x8)) (a1.Read.length:Int)) a1.Read.length then BK x8 (wE a1 x4 n) (!((a1.Read.getD (Int.tmod (w64 (x4+x8)) (a1.Read.length:Int)).toNat dd).Ok)) else none else none else BK x8 (wE a1 x4 n) false
def BG (x4:Int) (R:Int->Int->Int->Option (Int×Int)) (x17:Int) (x18:Int):Option (Int×Int):= R x17 x18 (w64 (x4+1))
def yZ (a1:Ring):Nat->Int->Int->Int->Option (Int×Int)
 |0,_,_,_=>none
 |n+1,x2,x3,x4=> bif decide (x4<(a1.Read.length:Int)) then bif inb x4 a1.Read.length then bif (a1.Read.getD x4.toNat dd).Ok then BG x4 (yZ a1 n) x2 x3 else (wE a1 x4 FUEL 0).bind λo15=> BG x4 (yZ a1 n) (w64 (x2+1)) (imax x3 o15) else none else some (x2,x3)
def KM (a1:Ring):Option (Int×Int):= (yZ a1 FUEL 0 0 0).bind λo21=> some (o21.1,o21.2)
def UE (a1:Ring):Option Ring:= bif room (0+a1.Read.length) 24 then some (Ring.mk a1.Z (([]:List qE)++a1.Read)) else none
def ZF (a1:List qE) (a3:Int):Nat->Int->Option Int
 |0,_=>none
 |n+1,x5=> bif inb x5 a1.length then bif !((a1.getD x5.toNat dd).Ok) then bif nz (a1.length:Int) then (ZF a1 a3 n) (Int.tmod (w64 ((w64 (x5+a3))+(a1.length:Int))) (a1.length:Int)) else none else some x5 else none
def jV (a1:List qE) (a2:Int) (a3:Int):Option Int:= bif nz (a1.length:Int) then (ZF a1 a3 FUEL (Int.tmod (w64 ((w64 (a2+a3))+(a1.length:Int))) (a1.length:Int))).bind λo10=> some o10 else none
def WB (x7:Bool):Option Bool:= some x7
def PX (a1:qA) (a2:qA) (a3:Int):Option Bool:= bif decide ((w64 (a1.X-a2.X))>a3) then WB true else bif decide ((w64 (a2.X-a1.X))>a3) then WB true else bif decide ((w64 (a1.Y-a2.Y))>a3) then WB true else WB (decide ((w64 (a2.Y-a1.Y))>a3))
def XF (x13:Int) (R:Int->(List qE)->Option (List qE)) (l32:List qE):Option (List qE):= R (w64 (x13+1)) l32
def VU (x13:Int) (l14:List qE) (R:Int->(List qE)->Option (List qE)) (x29:Bool):Option (List qE):= bif x29 then bif inb x13 l14.length then XF x13 R (l14.set x13.toNat (qE.mk (qA.mk 0 0) false)) else none else XF x13 R l14
def wR (a1:Ring) (a2:Int):Nat->Int->(List qE)->Option (List qE)
 |0,_,_=>none
 |n+1,x13,l14=> bif decide (x13<(a1.Read.length:Int)) then bif inb x13 a1.Read.length then bif !((a1.Read.getD x13.toNat dd).Ok) then XF x13 (wR a1 a2 n) l14 else (jV a1.Read x13 (-1)).bind λv18=> bif inb v18 a1.Read.length then (jV a1.Read x13 1).bind λv21=> bif inb v21 a1.Read.length then (PX ((a1.Read.getD x13.toNat dd).P) ((a1.Read.getD v18.toNat dd).P) a2).bind λv24=> bif v24 then (PX ((a1.Read.getD x13.toNat dd).P) ((a1.Read.getD v21.toNat dd).P) a2).bind λv27=> VU x13 l14 (wR a1 a2 n) v27 else VU x13 l14 (wR a1 a2 n) false else none else none else none else some l14
def XX (a1:Ring) (a2:Int) (v5:Ring) (x11:Bool):Option Ring:= bif x11 then some (Ring.mk v5.Z v5.Read) else (wR a1 a2 FUEL 0 v5.Read).bind λo34=> some (Ring.mk v5.Z o34)
def DA (a1:Ring) (a2:Int):Option Ring:= (KM a1).bind λv3=> (UE a1).bind λv5=> bif decide (a2<0) then XX a1 a2 v5 true else bif decide ((w64 ((a1.Read.length:Int)-v3.1))<2) then XX a1 a2 v5 true else (YO a1).bind λv9=> XX a1 a2 v5 (v9 !=0)
def VQ (x5:Int):Option Int:= some x5
def RC (a1:Int) (a2:Int):Option Int:= bif nz a2 then bif decide ((w64 ((w64 (Int.tdiv a1 a2))*a2))>a1) then VQ (w64 ((w64 (Int.tdiv a1 a2))-1)) else VQ (w64 (Int.tdiv a1 a2)) else none
def RQ (x13:Int) (R:(List qA)->Int->Option (List qA)) (l30:List qA):Option (List qA):= R l30 (w64 (x13+1))
def wX (a1:Ring):Nat->(List qA)->Int->Option (List qA)
 |0,_,_=>none
 |n+1,l12,x13=> bif decide (x13<(a1.Read.length:Int)) then bif inb x13 a1.Read.length then bif (a1.Read.getD x13.toNat dd).Ok then bif room (l12.length+1) 16 then RQ x13 (wX a1 n) (l12++[(a1.Read.getD x13.toNat dd).P]) else none else (jV a1.Read x13 (-1)).bind λv18=> (jV a1.Read x13 1).bind λv20=> bif nz (a1.Read.length:Int) then bif inb v18 a1.Read.length then bif inb v20 a1.Read.length then (RC (w64 ((w64 ((((a1.Read.getD v20.toNat dd).P).X)-(((a1.Read.getD v18.toNat dd).P).X)))*(Int.tmod (w64 ((w64 (x13-v18))+(a1.Read.length:Int))) (a1.Read.length:Int)))) (Int.tmod (w64 ((w64 (v20-v18))+(a1.Read.length:Int))) (a1.Read.length:Int))).bind λv25=> (RC (w64 ((w64 ((((a1.Read.getD v20.toNat dd).P).Y)-(((a1.Read.getD v18.toNat dd).P).Y)))*(Int.tmod (w64 ((w64 (x13-v18))+(a1.Read.length:Int))) (a1.Read.length:Int)))) (Int.tmod (w64 ((w64 (v20-v18))+(a1.Read.length:Int))) (a1.Read.length:Int))).bind λv27=>
 bif room (l12.length+1) 16 then RQ x13 (wX a1 n) (l12++[(qA.mk (w64 ((((a1.Read.getD v18.toNat dd).P).X)+v25)) (w64 ((((a1.Read.getD v18.toNat dd).P).Y)+v27)))]) else none else none else none else none else none else some l12
def YD (a1:Ring) (x10:Bool):Option ((List qA)×Int):= bif x10 then some ([],30) else (wX a1 FUEL [] 0).bind λo32=> some (o32,0)
def UJ (a1:Ring) (a2:Int):Option ((List qA)×Int):= (YO a1).bind λv3=> bif v3 !=0 then some ([],v3) else (KM a1).bind λv6=> bif decide ((w64 ((a1.Read.length:Int)-v6.1))<3) then YD a1 true else bif decide (v6.1>0) then YD a1 (decide (v6.2>a2)) else YD a1 false
def WA (a1:List qA):Nat->Int->Int->Option Int
 |0,_,_=>none
 |n+1,x7,x8=> bif decide (x8<(a1.length:Int)) then bif nz (a1.length:Int) then bif inb (Int.tmod (w64 (x8+1)) (a1.length:Int)) a1.length then bif inb x8 a1.length then (WA a1 n) (w64 ((w64 (x7+(w64 (((a1.getD x8.toNat dd).X)*((a1.getD (Int.tmod (w64 (x8+1)) (a1.length:Int)).toNat dd).Y)))))-(w64 (((a1.getD (Int.tmod (w64 (x8+1)) (a1.length:Int)).toNat dd).X)*((a1.getD x8.toNat dd).Y))))) (w64 (x8+1)) else none else none else none else some x7
def VA (a1:List qA) (x5:Bool):Option Int:= bif x5 then some 0 else (WA a1 FUEL 0 0).bind λo14=> some o14
def DH (a1:List qA):Option Int:= bif decide ((a1.length:Int)>32) then VA a1 true else (jS a1).bind λv3=> VA a1 (!v3)
def GO (a1:List qA):Option Int:= bif decide ((a1.length:Int)<3) then some 3 else bif decide ((a1.length:Int)>32) then some 4 else (jS a1).bind λv4=> bif !v4 then some 9 else (DH a1).bind λv7=> bif v7==0 then some 19 else some 0
def YG (x5:Bool):Option Bool:= some x5
def TO (a1:qA) (a2:qA):Option Bool:= bif decide (a1.X<a2.X) then YG true else bif a1.X==a2.X then YG (decide (a1.Y<a2.Y)) else YG false
def RT (x5:Int) (R:Int->Option Int) (x11:Bool):Option Int:= bif x11 then R (w64 (x5+1)) else some x5
def yI (a1:List qA) (l2:List qA) (x3:Int):Nat->Int->Option Int
 |0,_=>none
 |n+1,x5=> bif decide (x5<(l2.length:Int)) then bif inb x5 l2.length then bif inb x3 a1.length then (TO (l2.getD x5.toNat dd) (a1.getD x3.toNat dd)).bind λv9=> RT x5 (yI a1 l2 x3 n) v9 else none else none else RT x5 (yI a1 l2 x3 n) false
def RU (x3:Int) (R:(List qA)->Int->Option (List qA)) (l27:List qA):Option (List qA):= R l27 (w64 (x3+1))
def RZ (a1:List qA) (l2:List qA) (x3:Int) (R:(List qA)->Int->Option (List qA)) (o14:Int) (x19:Bool):Option (List qA):= bif x19 then RU x3 R l2 else bif slOk 0 o14 l2.length then bif room (0+o14.toNat) 16 then bif inb x3 a1.length then bif room ((0+o14.toNat)+1) 16 then bif slOk o14 (l2.length:Int) l2.length then bif room (((0+o14.toNat)+1)+(l2.length-o14.toNat)) 16 then RU x3 R (((([]:List qA)++(l2.take o14.toNat))++[(a1.getD x3.toNat dd)])++((l2.drop o14.toNat).take (l2.length-o14.toNat))) else none else none else none else none else none else none
def wZ (a1:List qA):Nat->(List qA)->Int->Option (List qA)
 |0,_,_=>none
 |n+1,l2,x3=> bif decide (x3<(a1.length:Int)) then (yI a1 l2 x3 FUEL 0).bind λo14=> bif decide (o14<(l2.length:Int)) then bif inb o14 l2.length then bif inb x3 a1.length then RZ a1 l2 x3 (wZ a1 n) o14 ((((l2.getD o14.toNat dd).X)==((a1.getD x3.toNat dd).X))&&((((l2.getD o14.toNat dd).Y)==((a1.getD x3.toNat dd).Y))&&true)) else none else none else RZ a1 l2 x3 (wZ a1 n) o14 false else some l2
def TL (a1:List qA):Option (List qA):= (wZ a1 FUEL [] 0).bind λo29=> some o29
def GU (a1:qA) (a2:qA) (a3:qA):Option Int:= some (w64 ((w64 ((w64 (a2.X-a1.X))*(w64 (a3.Y-a1.Y))))-(w64 ((w64 (a2.Y-a1.Y))*(w64 (a3.X-a1.X))))))
def VC (l5:List qA) (R:(List qA)->Option (List qA)) (x12:Bool):Option (List qA):= bif x12 then bif slOk 0 (w64 ((l5.length:Int)-1)) l5.length then R (l5.take ((w64 ((l5.length:Int)-1)).toNat)) else none else some l5
def QM (a1:List qA) (x3:Int):Nat->(List qA)->Option (List qA)
 |0,_=>none
 |n+1,l5=> bif decide ((l5.length:Int)>1) then bif inb (w64 ((l5.length:Int)-2)) l5.length then bif inb (w64 ((l5.length:Int)-1)) l5.length then bif inb x3 a1.length then (GU (l5.getD ((w64 ((l5.length:Int)-2)).toNat) dd) (l5.getD ((w64 ((l5.length:Int)-1)).toNat) dd) (a1.getD x3.toNat dd)).bind λv10=> VC l5 (QM a1 x3 n) (decide (v10<=0)) else none else none else none else VC l5 (QM a1 x3 n) false
def XT (a1:List qA):Nat->(List qA)->Int->Option (List qA)
 |0,_,_=>none
 |n+1,l2,x3=> bif decide (x3<(a1.length:Int)) then (QM a1 x3 FUEL l2).bind λo16=> bif inb x3 a1.length then bif room (o16.length+1) 16 then (XT a1 n) (o16++[(a1.getD x3.toNat dd)]) (w64 (x3+1)) else none else none else some l2
def PT (a1:List qA):Option (List qA):= (XT a1 FUEL [] 0).bind λo21=> some o21
def ZM (v7:(List qA)):Nat->(List qA)->Int->Option (List qA)
 |0,_,_=>none
 |n+1,l9,x10=> bif decide (x10≥0) then bif inb x10 v7.length then bif room (l9.length+1) 16 then (ZM v7 n) (l9++[(v7.getD x10.toNat dd)]) (w64 (x10-1)) else none else none else some l9
def DR (a1:List qA) (x5:Bool):Option (List qA):= bif x5 then some ([]:List qA) else (TL a1).bind λv7=> (ZM v7 FUEL [] (w64 ((v7.length:Int)-1))).bind λo15=> (PT v7).bind λv17=> (PT o15).bind λv19=> bif decide ((w64 ((v17.length:Int)+(v19.length:Int)))<5) then some ([]:List qA) else bif slOk 0 (w64 ((v17.length:Int)-1)) v17.length then bif room (0+(w64 ((v17.length:Int)-1)).toNat) 16 then bif slOk 0 (w64 ((v19.length:Int)-1)) v19.length then bif room ((0+(w64 ((v17.length:Int)-1)).toNat)+(w64 ((v19.length:Int)-1)).toNat) 16 then some ((([]:List qA)++(v17.take ((w64 ((v17.length:Int)-1)).toNat)))++(v19.take ((w64 ((v19.length:Int)-1)).toNat))) else none else none else none else none
def FW (a1:List qA):Option (List qA):= bif decide ((a1.length:Int)>32) then DR a1 true else (jS a1).bind λv3=> DR a1 (!v3)
def VR (x5:Int):Option Int:= some x5
def PU (a1:Int) (a2:Int):Option Int:= bif nz a2 then bif decide ((w64 ((w64 (Int.tdiv a1 a2))*a2))>a1) then VR (w64 ((w64 (Int.tdiv a1 a2))-1)) else VR (w64 (Int.tdiv a1 a2)) else none
def JM (x5:Int) (R:Int->Int->Int->Option ((Int×Int)⊕(Int×Int))) (x17:Int) (x18:Int):Option ((Int×Int)⊕(Int×Int)):= R x17 x18 (w64 (x5+1))
def wY (a1:List qA) (a2:Int):Nat->Int->Int->Int->Option ((Int×Int)⊕(Int×Int))
 |0,_,_,_=>none
 |n+1,x3,x4,x5=> bif decide (x5<(a1.length:Int)) then bif inb x5 a1.length then bif nz (a1.length:Int) then bif inb (Int.tmod (w64 (x5+1)) (a1.length:Int)) a1.length then bif decide ((w64 (((a1.getD (Int.tmod (w64 (x5+1)) (a1.length:Int)).toNat dd).Y)-((a1.getD x5.toNat dd).Y)))>0) then (PU (w64 ((w64 (((a1.getD (Int.tmod (w64 (x5+1)) (a1.length:Int)).toNat dd).X)-((a1.getD x5.toNat dd).X)))*(w64 (a2-((a1.getD x5.toNat dd).Y))))) (w64 (((a1.getD (Int.tmod (w64 (x5+1)) (a1.length:Int)).toNat dd).Y)-((a1.getD x5.toNat dd).Y)))).bind λv11=> JM x5 (wY a1 a2 n) x3 (imin x4 (w64 (((a1.getD x5.toNat dd).X)+v11))) else bif decide ((w64 (((a1.getD (Int.tmod (w64 (x5+1)) (a1.length:Int)).toNat dd).Y)-((a1.getD x5.toNat dd).Y)))<0) then
 (PU (w64 ((w64 (((a1.getD (Int.tmod (w64 (x5+1)) (a1.length:Int)).toNat dd).X)-((a1.getD x5.toNat dd).X)))*(w64 (a2-((a1.getD x5.toNat dd).Y))))) (w64 (0-(w64 (((a1.getD (Int.tmod (w64 (x5+1)) (a1.length:Int)).toNat dd).Y)-((a1.getD x5.toNat dd).Y)))))).bind λv14=> JM x5 (wY a1 a2 n) (imax x3 (w64 (((a1.getD x5.toNat dd).X)-v14))) x4 else bif decide ((w64 ((w64 (((a1.getD (Int.tmod (w64 (x5+1)) (a1.length:Int)).toNat dd).X)-((a1.getD x5.toNat dd).X)))*(w64 (a2-((a1.getD x5.toNat dd).Y)))))<0) then some (Sum.inl (1,0)) else JM x5 (wY a1 a2 n) x3 x4 else none else none else none else some (Sum.inr (x3,x4))
def WM (a1:List qA) (a2:Int):Option (Int×Int):= (wY a1 a2 FUEL (-600) 600 0).bind λu23=>Sum.elim (λv24=>some v24) (λo21=> some (o21.1,o21.2)) u23
def XU (v11:Int×Int) (v13:Int×Int) (x17:Bool):Option Span:= bif x17 then some (Span.mk 0 0) else some (Span.mk (imax v11.1 v13.1) (imin v11.2 v13.2))
def ZZ (a2:Int) (a3:Int) (v4:(List qA)) (x9:Bool):Option Span:= bif x9 then some (Span.mk 0 0) else (WM v4 a2).bind λv11=> (WM v4 a3).bind λv13=> bif decide (v11.1>v11.2) then XU v11 v13 true else bif decide (v13.1>v13.2) then XU v11 v13 true else XU v11 v13 (decide ((imax v11.1 v13.1)≥(imin v11.2 v13.2)))
def GS (a1:List qA) (a2:Int) (a3:Int):Option Span:= (FW a1).bind λv4=> bif (v4.length:Int)==0 then ZZ a2 a3 v4 true else bif decide (a2≥a3) then ZZ a2 a3 v4 true else bif decide (a2<(-600)) then ZZ a2 a3 v4 true else ZZ a2 a3 v4 (decide (a3>600))
def QS (a1:Span):Option Bool:= some (decide (a1.A≥a1.B))
def KG (x3:Int) (R:Int->Option Int) (x8:Bool):Option Int:= bif x8 then R (w64 (x3+1)) else some x3
def jD (a2:List Span):Nat->Int->Option Int
 |0,_=>none
 |n+1,x3=> bif decide (x3<(a2.length:Int)) then bif inb x3 a2.length then (QS (a2.getD x3.toNat dd)).bind λv6=> KG x3 (jD a2 n) v6 else none else KG x3 (jD a2 n) false
def KH (x13:Int) (R:Int->Option Int) (x18:Bool):Option Int:= bif x18 then R (w64 (x13-1)) else some x13
def jX (a2:List Span) (o11:Int):Nat->Int->Option Int
 |0,_=>none
 |n+1,x13=> bif decide (x13>o11) then bif inb (w64 (x13-1)) a2.length then (QS (a2.getD (w64 (x13-1)).toNat dd)).bind λv16=> KH x13 (jX a2 o11 n) v16 else none else KH x13 (jX a2 o11 n) false
def QN (x24:Int) (l25:List Span) (R:Int->(List Span)->Option (List Span)) (x31:Span):Option (List Span):= bif room (l25.length+1) 16 then R (w64 (x24+1)) (l25++[x31]) else none
def wD (a2:List Span) (o21:Int):Nat->Int->(List Span)->Option (List Span)
 |0,_,_=>none
 |n+1,x24,l25=> bif decide (x24<o21) then bif inb x24 a2.length then (QS (a2.getD x24.toNat dd)).bind λv28=> bif v28 then QN x24 l25 (wD a2 o21 n) (Span.mk 0 0) else QN x24 l25 (wD a2 o21 n) (a2.getD x24.toNat dd) else none else some l25
def QA (a1:Int) (a2:List Span):Option qC:= (jD a2 FUEL 0).bind λo11=> (jX a2 o11 FUEL (a2.length:Int)).bind λo21=> bif o11==o21 then some (qC.mk 0 []) else (wD a2 o21 FUEL o11 []).bind λo34=> some (qC.mk (w64 (a1+o11)) o34)
def YN (a1:List qA):Nat->Int->Int->Int->Option (Int×Int)
 |0,_,_,_=>none
 |n+1,x6,x7,x8=> bif decide (x8<(a1.length:Int)) then bif inb x8 a1.length then (YN a1 n) (imin x6 ((a1.getD x8.toNat dd).Y)) (imax x7 ((a1.getD x8.toNat dd).Y)) (w64 (x8+1)) else none else some (x6,x7)
def DE (l15:List Span) (x16:Int) (R:(List Span)->Int->Option (List Span)) (x23:Span):Option (List Span):= bif room (l15.length+1) 16 then R (l15++[x23]) (w64 (x16+1)) else none
def SG (a1:List qA) (l15:List Span) (x16:Int) (R:(List Span)->Int->Option (List Span)) (x19:Bool):Option (List Span):= bif x19 then (GS a1 (w64 (10*x16)) (w64 (10*(w64 (x16+1))))).bind λv21=> DE l15 x16 R v21 else DE l15 x16 R (Span.mk 0 0)
def wT (a1:List qA) (o13:Int×Int):Nat->(List Span)->Int->Option (List Span)
 |0,_,_=>none
 |n+1,l15,x16=> bif decide (x16<60) then bif decide ((w64 (10*x16))≥o13.1) then SG a1 l15 x16 (wT a1 o13 n) (decide ((w64 (10*(w64 (x16+1))))<=o13.2)) else SG a1 l15 x16 (wT a1 o13 n) false else some l15
def qAb (a1:List qA):Option (qC×Int):= (GO a1).bind λv2=> bif v2 !=0 then some ((qC.mk 0 []),v2) else bif inb 0 a1.length then (YN a1 FUEL ((a1.getD (0:Int).toNat dd).Y) ((a1.getD (0:Int).toNat dd).Y) 0).bind λo13=> (wT a1 o13 FUEL [] (-60)).bind λo26=> (QA (-60) o26).bind λv28=> bif (v28.Rows.length:Int)==0 then some ((qC.mk 0 []),18) else some ((qC.mk v28.Low v28.Rows),0) else none
def PG (a1:Ring) (a2:Int) (a3:Int):Option (qC×Bool):= (DA a1 a2).bind λv4=> (UJ (Ring.mk v4.Z v4.Read) a3).bind λv6=> bif v6.2 !=0 then some ((qC.mk 0 []),false) else (qAb v6.1).bind λv9=> some ((qC.mk v9.1.Low v9.1.Rows),v9.2==0)
def TC (x3:Bool):Option Bool:= some x3
def XW (a1:Int):Option Bool:= bif decide (a1<(-600)) then TC true else TC (decide (a1>600))
def US (x6:Int) (R:Int->Option (Int⊕Unit)) (x14:Bool):Option (Int⊕Unit):= bif x14 then some (Sum.inl 9) else R (w64 (x6+1))
def jN (a1:qC):Nat->Int->Option (Int⊕Unit)
 |0,_=>none
 |n+1,x6=> bif decide (x6<(a1.Rows.length:Int)) then bif inb x6 a1.Rows.length then (XW ((a1.Rows.getD x6.toNat dd).A)).bind λv9=> bif v9 then US x6 (jN a1 n) true else (XW ((a1.Rows.getD x6.toNat dd).B)).bind λv12=> US x6 (jN a1 n) v12 else none else some (Sum.inr ())
def VG (x31:Int) (R:Int->Option (Int⊕Unit)) (x37:Bool):Option (Int⊕Unit):= bif x37 then some (Sum.inl 19) else R (w64 (x31+1))
def jM (a1:qC):Nat->Int->Option (Int⊕Unit)
 |0,_=>none
 |n+1,x31=> bif decide (x31<(a1.Rows.length:Int)) then bif inb x31 a1.Rows.length then (QS (a1.Rows.getD x31.toNat dd)).bind λv34=> bif v34 then VG x31 (jM a1 n) (!((((a1.Rows.getD x31.toNat dd).A)==0)&&((((a1.Rows.getD x31.toNat dd).B)==0)&&true))) else VG x31 (jM a1 n) false else none else some (Sum.inr ())
def VB (a1:qC) (x29:Bool):Option Int:= bif x29 then some 19 else (jM a1 FUEL 0).bind λu41=>Sum.elim (λv42=>some v42) (λo39=> some 0) u41
def UZ (a1:qC) (x4:Bool):Option Int:= bif x4 then some 9 else (jN a1 FUEL 0).bind λu18=>Sum.elim (λv19=>some v19) (λo16=> bif (a1.Rows.length:Int)==0 then bif a1.Low !=0 then some 19 else some 0 else bif inb 0 a1.Rows.length then (QS (a1.Rows.getD (0:Int).toNat dd)).bind λv23=> bif v23 then VB a1 true else bif inb (w64 ((a1.Rows.length:Int)-1)) a1.Rows.length then (QS (a1.Rows.getD (w64 ((a1.Rows.length:Int)-1)).toNat dd)).bind λv27=> VB a1 v27 else none else none) u18
def GP (a1:qC):Option Int:= bif decide ((a1.Rows.length:Int)>120) then some 4 else bif decide (a1.Low<(-60)) then UZ a1 true else UZ a1 (decide (a1.Low>(w64 (60-(a1.Rows.length:Int)))))
def RF (a1:qC):Option qC:= (GP a1).bind λv2=> bif v2 !=0 then some (qC.mk 0 []) else some a1
def LK (a1:qC) (a2:Int) (x4:Bool):Option Span:= bif x4 then some (Span.mk 0 0) else bif inb (w64 (a2-a1.Low)) a1.Rows.length then some (a1.Rows.getD (w64 (a2-a1.Low)).toNat dd) else none
def NP (a1:qC) (a2:Int):Option Span:= bif decide (a2<a1.Low) then LK a1 a2 true else LK a1 a2 (decide (a2≥(w64 (a1.Low+(a1.Rows.length:Int)))))
def ZC (v3:qC) (v5:qC):Nat->(List Span)->Int->Option (List Span)
 |0,_,_=>none
 |n+1,l7,x8=> bif decide (x8<60) then (NP v3 x8).bind λv10=> (NP v5 x8).bind λv12=> bif room (l7.length+1) 16 then (ZC v3 v5 n) (l7++[(Span.mk (imax v10.A v12.A) (imin v10.B v12.B))]) (w64 (x8+1)) else none else some l7
def JO (a1:qC) (a2:qC):Option qC:= (RF a1).bind λv3=> (RF a2).bind λv5=> (ZC v3 v5 FUEL [] (-60)).bind λo16=> (QA (-60) o16).bind λv18=> some (qC.mk v18.Low v18.Rows)
def UW (x8:Int) (R:(List qO)->Int->Int->(List Span)->Option (((List qO)×Int)⊕(List qO))) (v13:qC×Bool) (l23:List qO):Option (((List qO)×Int)⊕(List qO)):= R l23 (w64 (x8+1)) v13.1.Low v13.1.Rows
def zZ (a1:Scan) (a2:Int) (a3:Int):Nat->(List qO)->Int->Int->(List Span)->Option (((List qO)×Int)⊕(List qO))
 |0,_,_,_,_=>none
 |n+1,l7,x8,x9,l10=> bif decide (x8<(a1.Rings.length:Int)) then bif inb x8 a1.Rings.length then (PG (a1.Rings.getD x8.toNat dd) a2 a3).bind λv13=> bif !v13.2 then some (Sum.inl ([],30)) else bif decide (x8>0) then (JO (qC.mk x9 l10) (qC.mk v13.1.Low v13.1.Rows)).bind λv17=> bif (v17.Rows.length:Int)==0 then some (Sum.inl ([],30)) else bif inb (w64 (x8-1)) a1.Rings.length then bif room (l7.length+1) 40 then UW x8 (zZ a1 a2 a3 n) v13 (l7++[(qO.mk (w64 (((a1.Rings.getD x8.toNat dd).Z)-((a1.Rings.getD (w64 (x8-1)).toNat dd).Z))) v17)]) else none else none else UW x8 (zZ a1 a2 a3 n) v13 l7 else none else some (Sum.inr l7)
def GQ (a1:Scan) (a2:Int) (a3:Int):Option ((List qO)×Int):= (GY a1).bind λv4=> bif v4 !=0 then some ([],v4) else (zZ a1 a2 a3 FUEL [] 0 0 []).bind λu27=>Sum.elim (λv28=>some v28) (λo25=> some (o25,0)) u27
def wK (a1:qC) (a2:qC):Nat->Int->Option (Bool⊕Unit)
 |0,_=>none
 |n+1,x6=> bif decide (x6<(a1.Rows.length:Int)) then bif inb x6 a1.Rows.length then bif inb x6 a2.Rows.length then bif !((((a1.Rows.getD x6.toNat dd).A)==((a2.Rows.getD x6.toNat dd).A))&&((((a1.Rows.getD x6.toNat dd).B)==((a2.Rows.getD x6.toNat dd).B))&&true)) then some (Sum.inl false) else (wK a1 a2 n) (w64 (x6+1)) else none else none else some (Sum.inr ())
def ZX (a1:qC) (a2:qC) (x4:Bool):Option Bool:= bif x4 then some false else (wK a1 a2 FUEL 0).bind λu13=>Sum.elim (λv14=>some v14) (λo11=> some true) u13
def ZQ (a1:qC) (a2:qC):Option Bool:= bif a1.Low !=a2.Low then ZX a1 a2 true else ZX a1 a2 ((a1.Rows.length:Int) !=(a2.Rows.length:Int))
def DT (x4:Int) (R:Int->Option (Bool⊕Unit)) (x11:Bool):Option (Bool⊕Unit):= bif x11 then some (Sum.inl false) else R (w64 (x4+1))
def jU (a1:List qO) (a2:List qO):Nat->Int->Option (Bool⊕Unit)
 |0,_=>none
 |n+1,x4=> bif decide (x4<(a1.length:Int)) then bif inb x4 a1.length then bif inb x4 a2.length then bif ((a1.getD x4.toNat dd).Len) !=((a2.getD x4.toNat dd).Len) then DT x4 (jU a1 a2 n) true else (ZQ ((a1.getD x4.toNat dd).Sec) ((a2.getD x4.toNat dd).Sec)).bind λv9=> DT x4 (jU a1 a2 n) (!v9) else none else none else some (Sum.inr ())
def FK (a1:List qO) (a2:List qO):Option Bool:= bif (a1.length:Int) !=(a2.length:Int) then some false else (jU a1 a2 FUEL 0).bind λu15=>Sum.elim (λv16=>some v16) (λo13=> some true) u15
def QJ (x19:Bool):Option Bool:= some x19
def WQ (a1:Scan) (a2:Int) (a3:Int):Option Bool:= (AB a1).bind λv4=> bif !v4 then (law15_awake).bind λv7=> some v7 else (QT a1 a2 a3).bind λv9=> (GQ a1 a2 a3).bind λv11=> (FK v9.1 v11.1).bind λv13=> bif v13 then bif v9.2==v11.2 then (law15_awake).bind λv17=> QJ v17 else QJ false else QJ false
end Saw
end Go.SL

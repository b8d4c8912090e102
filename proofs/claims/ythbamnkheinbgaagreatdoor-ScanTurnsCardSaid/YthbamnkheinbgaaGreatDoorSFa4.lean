import Derived.Test.YthbamnkheinbgaaGreatDoorSBase
import Derived.Test.YthbamnkheinbgaaGreatDoorSFa3
import Derived.Test.YthbamnkheinbgaaGreatDoorSFa1
import Derived.Test.YthbamnkheinbgaaGreatDoorYa6
import Derived.Shelf.Strings.Builder1
import Derived.WalkKit
import Derived.Lib.Walk
import Derived.Lib.AppendStr
import Derived.Shelf.Lay
import Derived.Ground.NamesProg
set_option linter.unusedVariables false
set_option linter.unusedSimpArgs false
namespace Go.SL
namespace Saw
open Go.Proofs Go.Proofs.Tryz
set_option maxHeartbeats 4000000
set_option maxRecDepth 100000
def qCP (r:Bool):V:=vb r
def qCu (r:Bool):List (Nat×(Nat×O)):=[]
theorem jQ (a1:Span) (r:Bool) (hm:QI a1=some r):CtX Tryz.prog globs 141 0 0 [.agg (qL a1)] [] (qCP r) (qCu r):=by
 unfold QI at hm;refine q_E f141 8 λE=>?_;refine s_vn [] 0 ⟨[(1,vp 0 0)],[(0,bx 64 (qL a1))]⟩ (s_vn [] 1 ⟨[(2,vb (decide (a1.A≥a1.B)))],[]⟩ ?_);obtain rfl:=oi hm;exact q_rt q_rm
def qFj (r:Int):V:=vi r
def qEN (r:Int):List (Nat×(Nat×O)):=[]
def qCc (x23:Bool):St:=
 ⟨[(29,vb x23)],[]⟩
def qBZ (a1:qD) (x13:Bool):St:=
 ⟨[(3,vp 1 0),(15,vb x13)],[(1,bx 66 (RJ a1.Box))]⟩
def qB3 (a1:qD) (x3:Bool):St:=
 ⟨[(3,vp 1 0),(6,vb x3)],[(1,bx 66 (RJ a1.Box))]⟩
theorem qDG (a1:qD) (r:Int) (hm:KJ a1=some r):CtX Tryz.prog globs 85 0 0 [.agg (qG a1)] [] (qFj r) (qEN r):=by
 unfold KJ at hm;refine q_E f85 46 λE=>?_;refine s_vn [] 0 ⟨[(1,vp 0 0)],[(0,bx 68 (qG a1))]⟩ (s_vu [] 1 [] [(3,vp 1 0)] [] [(1,bx 66 (RJ a1.Box))] ?_);refine q_sq (q_bk 0 ?_);refine q_jn (qB3 a1) (λp=>XJ a1 p=some r) ?_ ?_
 ·rintro x3 hm;refine q_cq hm (λhm=>?_) (λhm=>?_)
  ·refine s_vn [] 2 ⟨[(2,vi 10)],[]⟩ ?_;obtain rfl:=oi hm;exact q_rt q_rm
  ·refine q_jn (qBZ a1) (λp=>ZR a1 p=some r) ?_ ?_
   ·rintro x13 hm;refine q_cq hm (λhm=>?_) (λhm=>?_)
    ·refine s_vn [] 2 ⟨[(2,vi 19)],[]⟩ ?_;obtain rfl:=oi hm;exact q_rt q_rm
    ·refine q_jn (qCc) (λp=>ZU p=some r) ?_ ?_
     ·rintro x23 hm;refine q_cq hm (λhm=>?_) (λhm=>?_)
      ·refine s_vn [] 2 ⟨[(2,vi 9)],[]⟩ ?_;obtain rfl:=oi hm;exact q_rt q_rm
      ·refine q_sk (s_vn [] 2 ⟨[(2,vi 0)],[]⟩ ?_);obtain rfl:=oi hm;exact q_rt q_rm
     ·obtain⟨v15,h16,hm⟩:=qE hm;rcases bif_c hm with⟨b17,hm⟩|⟨b17,hm⟩
      ·exact q_vn [qk 2 [31] 2 ⟨[(31,va (qL a1.Box.X))],[]⟩ (yB a1.Box.X (-600) 600 v15 h16),qf 4 b17] 2 ⟨[(29,vb true)],[]⟩ (q_J (true) hm)
      ·obtain⟨v18,h19,hm⟩:=qE hm;rcases bif_c hm with⟨b20,hm⟩|⟨b20,hm⟩
       ·exact q_vn [qk 2 [31] 2 ⟨[(31,va (qL a1.Box.X))],[]⟩ (yB a1.Box.X (-600) 600 v15 h16),qf 4 b17,qk 7 [34,36] 2 ⟨[(34,vb false),(36,va (qL a1.Box.Y))],[]⟩ (yB a1.Box.Y (-600) 600 v18 h19),qf 10 b20] 2 ⟨[(29,vb true)],[]⟩ (q_J (true) hm)
       ·obtain⟨v21,h22,hm⟩:=qE hm;exact q_vn [qk 2 [31] 2 ⟨[(31,va (qL a1.Box.X))],[]⟩ (yB a1.Box.X (-600) 600 v15 h16),qf 4 b17,qk 7 [34,36] 2 ⟨[(34,vb false),(36,va (qL a1.Box.Y))],[]⟩ (yB a1.Box.Y (-600) 600 v18 h19),qf 10 b20,qk 13 [40,42] 2 ⟨[(40,vb false),(42,va (qL a1.Box.Z))],[]⟩ (yB a1.Box.Z 0 20000 v21 h22)] 2 ⟨[(29,vb (!v21))],[]⟩ (q_J (!v21) hm)
   ·obtain⟨v5,h6,hm⟩:=qE hm;rcases bif_c hm with⟨b7,hm⟩|⟨b7,hm⟩
    ·exact q_vv [qc 2 [17] 2 (jQ a1.Box.X v5 h6),qf 3 b7] 2 [6] [(15,vb true)] (q_J (true) hm)
    ·obtain⟨v8,h9,hm⟩:=qE hm;rcases bif_c hm with⟨b10,hm⟩|⟨b10,hm⟩
     ·exact q_vv [qc 2 [17] 2 (jQ a1.Box.X v5 h6),qf 3 b7,qk 6 [19,21] 2 ⟨[(19,vb false),(21,va (qL a1.Box.Y))],[]⟩ (jQ a1.Box.Y v8 h9),qf 8 b10] 2 [6] [(15,vb true)] (q_J (true) hm)
     ·obtain⟨v11,h12,hm⟩:=qE hm;exact q_vv [qc 2 [17] 2 (jQ a1.Box.X v5 h6),qf 3 b7,qk 6 [19,21] 2 ⟨[(19,vb false),(21,va (qL a1.Box.Y))],[]⟩ (jQ a1.Box.Y v8 h9),qf 8 b10,qk 11 [24,26] 2 ⟨[(24,vb false),(26,va (qL a1.Box.Z))],[]⟩ (jQ a1.Box.Z v11 h12)] 2 [6] [(15,vb v11)] (q_J (v11) hm)
 ·rcases bif_c hm with⟨b2,hm⟩|⟨b2,hm⟩
  ·exact q_vu [qf 3 b2] 2 [1] [(6,vb true)] [0] [] (q_J (true) hm)
  ·exact q_vu [qf 3 b2] 2 [1] [(6,vb (decide (a1.Kind>6)))] [0] [] (q_J (decide (a1.Kind>6)) hm)
def DE (r:Int):V:=vi r
def DK (r:Int):List (Nat×(Nat×O)):=[]
def PK (a1:List qD) (x3:Int):St:=
 ⟨[(9,vc (tl qG dd a1)),(10,vi (a1.length:Int)),(11,vi x3)],[]⟩
def zaQ :St:=
 ⟨[],[]⟩
theorem qA5 (E:Env 0) (a1:List qD):∀(n:Nat) (x3:Int) (res:Int⊕Unit),jI a1 n x3=some res->HL (kx E 21 0) (nd f39 116) (wF 0 (λo=>zaQ) (λv st=>RetQ Tryz.prog f39 (DE v) (DK v) .ret st) res) n (PK a1 x3):=by
 intro n
 induction n with
 |zero=>
  intro x3 res hm;cases hm
 |succ n ih=>
  intro x3 res hm;refine qR (s_va 0 [(12,vb (decide (x3<(a1.length:Int))))] ?_);refine q_sq (q_cq hm (λhm=>?_) (λhm=>?_))
  ·refine q_sk (q_sq ?_);refine q_bk 1 ?_;obtain⟨g5,hm⟩:=qJ hm;refine s_vu [qi 0 g5] 0 [12] [(4,vp 0 0)] [] [(0,bx 68 (qG (a1.getD x3.toNat dd)))] ?_;obtain⟨v6,h7,hm⟩:=qE hm;refine s_vu [qc 1 [15] 1 (qDG (a1.getD x3.toNat dd) v6 h7)] 1 [4] [(5,vi v6)] [0] [] (s_va 1 [(18,vb (v6 !=0))] ?_);refine q_cq hm (λhm=>?_) (λhm=>?_)
   ·refine s_vn [] 1 ⟨[(2,vi v6)],[]⟩ ?_;obtain rfl:=oi hm;refine q_rt (zC v6 ?_);exact q_rm
   ·refine q_sk (q_vv [] 1 [5,11,18] [(11,vi (w64 (x3+1)))] ?_);exact q_hl (PK a1 (w64 (x3+1))) (ih (w64 (x3+1)) _ hm)
  ·refine q_ex 0 ?_;obtain rfl:=oi hm;exact q_l1 ()
theorem SQ (a1:List qD) (r:Int) (hm:WK a1=some r):CtX Tryz.prog globs 39 0 0 [.one (tl qG dd a1)] [] (DE r) (DK r):=by
 unfold WK at hm;refine q_E f39 21 λE=>?_;refine s_vn [] 0 ⟨[(0,vc (tl qG dd a1))],[]⟩ (q_sq ?_);refine s_va 0 [(8,vb (decide ((a1.length:Int)>64)))] (q_cq hm (λhm=>?_) (λhm=>?_))
 ·refine s_vn [] 0 ⟨[(2,vi 4)],[]⟩ ?_;obtain rfl:=oi hm;exact q_rt q_rm
 ·refine q_sk (q_sq ?_);refine s_vn [] 0 ⟨[(9,vc (tl qG dd a1)),(10,vi (a1.length:Int)),(11,vi 0)],[]⟩ ?_;obtain⟨u11,h10,hm⟩:=qE hm;refine zN (nd f39 116) 0 (by kernel_rfl) FUEL (λo=>zaQ) (λv st=>RetQ Tryz.prog f39 (DE v) (DK v) .ret st) u11 (q_hl (PK a1 0) (qA5 E a1 FUEL 0 u11 h10)) ?_ ?_
  ·rintro v12 rfl st hr;obtain rfl:=oi hm;exact hr
  ·rintro o9 rfl;replace hm:_=some r:=hm;refine s_vn [] 0 ⟨[(2,vi 0)],[]⟩ ?_;obtain rfl:=oi hm;exact q_rt q_rm
open Go.Proofs Go.Proofs.Tryz
def WS (r:Int):V:=vi r
def yH (r:Int):List (Nat×(Nat×O)):=[]
theorem qHe (r:Int):yM (yH r):=by
 intro i k o h;unfold yH at h;cases h
def qEc (a1:Scan) (x4:Int) (x16:Bool):St:=
 ⟨[(1,vp 0 0),(4,vp 1 0),(19,vc (tl qI dd a1.Rings)),(20,vi (a1.Rings.length:Int)),(21,vi x4),(53,vb x16)],[(0,bx 25 (qP a1)),(1,bx 45 (qI (a1.Rings.getD x4.toNat dd)))]⟩
def GF (a1:Scan) (x4:Int):St:=
 ⟨[(1,vp 0 0),(19,vc (tl qI dd a1.Rings)),(20,vi (a1.Rings.length:Int)),(21,vi x4)],[(0,bx 25 (qP a1))]⟩
def EV (a1:Scan):St:=
 ⟨[(1,vp 0 0)],[(0,bx 25 (qP a1))]⟩
def VN (a1:Scan) (x28:Int):St:=
 ⟨[(7,vi ((a1.Rings.getD (w64 ((a1.Rings.length:Int)-1)).toNat dd).Z)),(81,vc (tl qG dd a1.Defects)),(82,vi (a1.Defects.length:Int)),(83,vi x28)],[]⟩
def AF :St:=
 ⟨[],[]⟩
theorem qCR (E:Env 0) (a1:Scan):∀(n:Nat) (x4:Int) (res:Int⊕Unit),zU a1 n x4=some res->HL (kx E 94 0) (nd f13 244) (wF 0 (λo=>EV a1) (λv st=>RetQ Tryz.prog f13 (WS v) (yH v) .ret st) res) n (GF a1 x4):=by
 intro n
 induction n with
 |zero=>
  intro x4 res hm;cases hm
 |succ n ih=>
  intro x4 res hm;refine qR (s_va 1 [(22,vb (decide (x4<(a1.Rings.length:Int))))] ?_);refine q_sq (q_cq hm (λhm=>?_) (λhm=>?_))
  ·refine q_sk (q_sq ?_);refine q_bk 1 ?_;obtain⟨g6,hm⟩:=qJ hm;refine s_vu [qi 1 g6] 1 [22] [(3,vi x4),(4,vp 1 0)] [] [(1,bx 45 (qI (a1.Rings.getD x4.toNat dd)))] (q_sq ?_);obtain⟨v7,h8,hm⟩:=qE hm;refine s_vv [qc 1 [26] 2 (RM (a1.Rings.getD x4.toNat dd) v7 h8)] 2 [] [(5,vi v7)] (s_va 2 [(29,vb (v7 !=0))] ?_);refine q_cq hm (λhm=>?_) (λhm=>?_)
   ·refine s_vn [] 2 ⟨[(2,vi v7)],[]⟩ ?_;obtain rfl:=oi hm;refine q_rt (zC v7 ?_);exact q_rm
   ·refine q_sk (q_sq ?_);refine q_jn (qEc a1 x4) (λp=>yW a1 x4 (zU a1 n) p=some res) ?_ ?_
    ·rintro x16 hm;refine q_cq hm (λhm=>?_) (λhm=>?_)
     ·refine s_vn [] 2 ⟨[(2,vi 11)],[]⟩ ?_;obtain rfl:=oi hm;refine q_rt (zC 11 ?_);exact q_rm
     ·refine q_sk ?_;obtain⟨g18,hm⟩:=qJ hm;refine s_du [qi 5 g18] [0,1,3,0,8,24,56,120,248,511] 2 [4,53] [(63,vb (((((a1.Rings.getD x4.toNat dd).Read).length:Nat):Int) !=((((a1.Rings.getD (0:Int).toNat dd).Read).length:Nat):Int)))] [1] [] (q_cq hm (λhm=>?_) (λhm=>?_))
      ·refine s_vn [] 2 ⟨[(2,vi 19)],[]⟩ ?_;obtain rfl:=oi hm;refine q_rt (zC 19 ?_);exact q_rm
      ·refine q_sk (q_vv [] 2 [21,63] [(21,vi (w64 (x4+1)))] ?_);exact q_hl (GF a1 (w64 (x4+1))) (ih (w64 (x4+1)) _ hm)
    ·rcases bif_c hm with⟨b10,hm⟩|⟨b10,hm⟩
     ·rcases bif_c hm with⟨b11,hm⟩|⟨b11,hm⟩
      ·exact q_du [qf 2 b10,qf 7 b11] [0,1,3,7,15,31,63,127,255,511,1023,2047,4095,2047,10239,2047,34815,124927,255999,518143,1048575,2097151,4194303] 2 [3,5,29] [(53,vb true)] [] [] (q_J (true) hm)
      ·rcases bif_c hm with⟨b12,hm⟩|⟨b12,hm⟩
       ·obtain⟨g13,hm⟩:=qJ hm;exact q_du [qf 2 b10,qf 7 b11,qf 10 b12,qi 17 g13] [0,1,3,7,15,31,63,127,255,511,1023,2047,4095,2047,10239,2047,34815,124927,255999,518143,1048575,2097151,4194303] 2 [3,5,29] [(53,vb (decide (((a1.Rings.getD x4.toNat dd).Z)<=((a1.Rings.getD (w64 (x4-1)).toNat dd).Z))))] [] [] (q_J (decide (((a1.Rings.getD x4.toNat dd).Z)<=((a1.Rings.getD (w64 (x4-1)).toNat dd).Z))) hm)
       ·exact q_du [qf 2 b10,qf 7 b11,qf 10 b12] [0,1,3,7,15,31,63,127,255,511,1023,2047,4095,2047,10239,2047,34815,124927,255999,518143,1048575,2097151,4194303] 2 [3,5,29] [(53,vb false)] [] [] (q_J (false) hm)
     ·rcases bif_c hm with⟨b14,hm⟩|⟨b14,hm⟩
      ·obtain⟨g15,hm⟩:=qJ hm;exact q_du [qf 2 b10,qf 10 b14,qi 17 g15] [0,1,3,7,15,31,63,127,255,511,1023,2047,4095,2047,10239,2047,34815,124927,255999,518143,1048575,2097151,4194303] 2 [3,5,29] [(53,vb (decide (((a1.Rings.getD x4.toNat dd).Z)<=((a1.Rings.getD (w64 (x4-1)).toNat dd).Z))))] [] [] (q_J (decide (((a1.Rings.getD x4.toNat dd).Z)<=((a1.Rings.getD (w64 (x4-1)).toNat dd).Z))) hm)
      ·exact q_du [qf 2 b10,qf 10 b14] [0,1,3,7,15,31,63,127,255,511,1023,2047,4095,2047,10239,2047,34815,124927,255999,518143,1048575,2097151,4194303] 2 [3,5,29] [(53,vb false)] [] [] (q_J (false) hm)
  ·refine q_ex 0 ?_;obtain rfl:=oi hm;exact q_l1 ()
theorem qC2 (E:Env 0) (a1:Scan):∀(n:Nat) (x28:Int) (res:Int⊕Unit),ZF a1 n x28=some res->HL (kx E 94 0) (nd f13 2036) (wF 2 (λo=>AF) (λv st=>RetQ Tryz.prog f13 (WS v) (yH v) .ret st) res) n (VN a1 x28):=by
 intro n
 induction n with
 |zero=>
  intro x28 res hm;cases hm
 |succ n ih=>
  intro x28 res hm;refine qR (s_va 1 [(84,vb (decide (x28<(a1.Defects.length:Int))))] ?_);refine q_sq (q_cq hm (λhm=>?_) (λhm=>?_))
  ·refine q_sk (q_sq ?_);refine q_bk 3 ?_;obtain⟨g30,hm⟩:=qJ hm;refine s_vu [qi 0 g30] 1 [84] [(9,vp 1 0)] [] [(1,bx 68 (qG (a1.Defects.getD x28.toNat dd)))] (s_vu [] 2 [9] [(92,vb (decide (((((a1.Defects.getD x28.toNat dd).Box).Z).B)>((a1.Rings.getD (w64 ((a1.Rings.length:Int)-1)).toNat dd).Z))))] [1] [] ?_);refine q_cq hm (λhm=>?_) (λhm=>?_)
   ·refine s_vn [] 2 ⟨[(2,vi 9)],[]⟩ ?_;obtain rfl:=oi hm;refine q_rt (zC 9 ?_);exact q_rm
   ·refine q_sk (q_vv [] 2 [83,92] [(83,vi (w64 (x28+1)))] ?_);exact q_hl (VN a1 (w64 (x28+1))) (ih (w64 (x28+1)) _ hm)
  ·refine q_ex 2 ?_;obtain rfl:=oi hm;exact q_l1 ()
theorem YF (a1:Scan) (r:Int) (hm:yF a1=some r):CtX Tryz.prog globs 13 0 0 [.agg (qP a1)] [] (WS r) (yH r):=by
 unfold yF at hm;refine q_E f13 94 λE=>?_;refine s_vn [] 0 ⟨[(1,vp 0 0)],[(0,bx 25 (qP a1))]⟩ (q_sq ?_);refine s_va 1 [(13,vb (decide ((a1.Rings.length:Int)<2)))] (q_cq hm (λhm=>?_) (λhm=>?_))
 ·refine s_vn [] 1 ⟨[(2,vi 3)],[]⟩ ?_;obtain rfl:=oi hm;exact q_rt q_rm
 ·refine q_sk (q_sq ?_);refine s_vv [] 1 [13] [(17,vb (decide ((a1.Rings.length:Int)>24)))] (q_cq hm (λhm=>?_) (λhm=>?_))
  ·refine s_vn [] 1 ⟨[(2,vi 4)],[]⟩ ?_;obtain rfl:=oi hm;exact q_rt q_rm
  ·refine q_sk (q_sq ?_);refine s_vv [] 1 [17] [(19,vc (tl qI dd a1.Rings)),(20,vi (a1.Rings.length:Int)),(21,vi 0)] ?_;obtain⟨u22,h21,hm⟩:=qE hm;refine zN (nd f13 244) 0 (by kernel_rfl) FUEL (λo=>EV a1) (λv st=>RetQ Tryz.prog f13 (WS v) (yH v) .ret st) u22 (q_hl (GF a1 0) (qCR E a1 FUEL 0 u22 h21)) ?_ ?_
   ·rintro v23 rfl st hr;obtain rfl:=oi hm;exact hr
   ·rintro o20 rfl;replace hm:_=some r:=hm;refine q_sq ?_;obtain⟨v24,h25,hm⟩:=qE hm;refine s_vv [qc 2 [66] 1 (SQ a1.Defects v24 h25)] 1 [] [(6,vi v24)] (s_va 1 [(69,vb (v24 !=0))] ?_);refine q_cq hm (λhm=>?_) (λhm=>?_)
    ·refine s_vn [] 1 ⟨[(2,vi v24)],[]⟩ ?_;obtain rfl:=oi hm;exact q_rt q_rm
    ·refine q_sk ?_;obtain⟨g27,hm⟩:=qJ hm;refine s_vv [qi 6 g27] 1 [6,69] [(7,vi ((a1.Rings.getD (w64 ((a1.Rings.length:Int)-1)).toNat dd).Z))] (q_sq ?_);refine s_vu [] 1 [1] [(81,vc (tl qG dd a1.Defects)),(82,vi (a1.Defects.length:Int)),(83,vi 0)] [0] [] ?_;obtain⟨u34,h33,hm⟩:=qE hm;refine zN (nd f13 2036) 2 (by kernel_rfl) FUEL (λo=>AF) (λv st=>RetQ Tryz.prog f13 (WS v) (yH v) .ret st) u34 (q_hl (VN a1 0) (qC2 E a1 FUEL 0 u34 h33)) ?_ ?_
     ·rintro v35 rfl st hr;obtain rfl:=oi hm;exact hr
     ·rintro o32 rfl;replace hm:_=some r:=hm;refine s_vn [] 1 ⟨[(2,vi 0)],[]⟩ ?_;obtain rfl:=oi hm;exact q_rt q_rm
def KC (r:(List qV)×Int):V:= .tup [.one (.own 0 0 3 r.1.length),.one (ci r.2)]
def XO (r:(List qV)×Int):List (Nat×(Nat×O)):=[(0,ro 0 50 3 r.1.length (rf qX r.1))]
def VG (a1:Scan) (a2:Int) (a3:Int) (l8:List qK) (l8n:Nat) (x9:Int):St:=
 ⟨[(1,vi a2),(2,vi a3),(3,vp 0 0),(9,vo 1 0 2 l8n),(27,vi (a1.Rings.length:Int)),(28,vi x9)],[(0,bx 25 (qP a1)),(1,ro 0 48 2 l8n (rf qQ l8))]⟩
def EN (a1:Scan) (l16:List qK):St:=
 ⟨[(3,vp 0 0),(9,vo 1 0 2 l16.length)],[(0,bx 25 (qP a1)),(1,ro 0 48 2 l16.length (rf qQ l16))]⟩
def VB (a1:Scan) (o17:(List qK)) (l22:List qV) (l22n:Nat) (x23:Int):St:=
 ⟨[(3,vp 0 0),(9,vo 1 0 2 o17.length),(13,vo 2 0 3 l22n),(55,vi (((w64 ((a1.Rings.length:Int)-1)).toNat:Nat):Int)),(56,vi x23)],[(0,bx 25 (qP a1)),(1,ro 0 48 2 o17.length (rf qQ o17)),(2,ro 0 50 3 l22n (rf qX l22))]⟩
def EI (l36:List qV):St:=
 ⟨[(13,vo 2 0 3 l36.length)],[(2,ro 0 50 3 l36.length (rf qX l36))]⟩
theorem qCL (E:Env 0) (a1:Scan) (a2:Int) (a3:Int):∀(n:Nat) (l8:List qK) (l8n:Nat) (x9:Int) (res:((List qV)×Int)⊕(List qK)),l8.length=l8n->NM a1 a2 a3 n l8 x9=some res->HL (kx E 94 0) (nd f16 244) (wF 0 (λo=>EN a1 o) (λv st=>RetQ Tryz.prog f16 (KC v) (XO v) .ret st) res) n (VG a1 a2 a3 l8 l8n x9):=by
 intro n
 induction n with
 |zero=>
  intro l8 l8n x9 res hl0 hm;cases hm
 |succ n ih=>
  intro l8 l8n x9 res hl0 hm;subst hl0;refine qR (s_va 2 [(29,vb (decide (x9<(a1.Rings.length:Int))))] ?_);refine q_sq (q_cq hm (λhm=>?_) (λhm=>?_))
  ·refine q_sk (q_sq ?_);refine q_bk 1 (s_vv [] 2 [29] [(10,vi x9)] ?_);obtain⟨g11,hm⟩:=qJ hm;obtain⟨v12,h13,hm⟩:=qE hm;refine s_vu [qi 3 g11,qc 7 [36,37,38] 2 (qBO (a1.Rings.getD x9.toNat dd) a2 a3 v12 h13)] 2 [] [(11,vp 3 0),(12,vi v12.2)] [] [(2,ro 0 64 2 v12.1.Rows.length (rf qL v12.1.Rows)),(3,bx 48 [ci v12.1.Low,.own 2 0 2 v12.1.Rows.length])] (q_sq ?_);refine s_vv [] 4 [12] [(43,vb (v12.2 !=0))] (q_cq hm (λhm=>?_) (λhm=>?_))
   ·refine s_vn [] 4 ⟨[(6,vc (.emp)),(7,vi 30)],[]⟩ (q_fo 6 4 50 3 qX ?_);refine q_fl 6 4 50 3 qX ?_;obtain rfl:=oi hm;refine q_sw 4 0 (q_rt ?_);exact zC (([]:List qV),30) q_rm
   ·refine q_sk ?_;obtain⟨g15,hm⟩:=qJ hm;refine q_vu [qi 3 g15,qd 4 (dpr [.frz 2] (drw 0 0 (rf qQ (l8.set x9.toNat v12.1)))) (And.intro (kg v12.1.Rows.length) (kg v12.1.Rows.length)),qd 4 dN (stP qQ dd v12.1 l8 l8.length x9.toNat 0 (qQ v12.1) rfl (qU (zA g15)) rfl)] 4 [10,11,43] [] [1,2,3] [(1,ro 0 48 2 l8.length (rf qQ (l8.set x9.toNat v12.1)))] (q_vv [] 4 [28] [(28,vi (w64 (x9+1)))] ?_);exact q_hl (VG a1 a2 a3 (l8.set x9.toNat v12.1) l8.length (w64 (x9+1))) (ih (l8.set x9.toNat v12.1) l8.length (w64 (x9+1)) _ (jP rfl) hm)
  ·refine q_ex 0 ?_;obtain rfl:=oi hm;exact q_l1 l8
theorem qCW (E:Env 0) (a1:Scan) (o17:(List qK)):∀(n:Nat) (l22:List qV) (l22n:Nat) (x23:Int) (res:((List qV)×Int)⊕(List qV)),l22.length=l22n->NN a1 o17 n l22 x23=some res->HL (kx E 94 0) (nd f16 1012) (wF 2 EI (λv st=>RetQ Tryz.prog f16 (KC v) (XO v) .ret st) res) n (VB a1 o17 l22 l22n x23):=by
 intro n
 induction n with
 |zero=>
  intro l22 l22n x23 res hl0 hm;cases hm
 |succ n ih=>
  intro l22 l22n x23 res hl0 hm;subst hl0;refine qR (s_va 3 [(57,vb (decide (x23<(((w64 ((a1.Rings.length:Int)-1)).toNat:Nat):Int))))] ?_);refine q_sq (q_cq hm (λhm=>?_) (λhm=>?_))
  ·refine q_sk (q_sq ?_);refine q_bk 3 (s_vv [] 3 [57] [(14,vi x23)] ?_);obtain⟨g25,hm⟩:=qJ hm;obtain⟨g26,hm⟩:=qJ hm;obtain⟨v27,h28,hm⟩:=qE hm;refine s_du [qi 2 g25,qd 3 dN (qU (zA g25)),qi 7 g26,qd 8 dN (qU (zA g26)),qc 9 [62,67] 3 (qDA (o17.getD x23.toNat dd) (o17.getD ((w64 (x23+1)).toNat) dd) v27 h28)] [0,0,3,7,0,0,32,112,240,511,0,2047] 3 [] [(15,vp 4 0)] [] [(3,ro 0 64 2 v27.Rows.length (rf qL v27.Rows)),(4,bx 48 [ci v27.Low,.own 3 0 2 v27.Rows.length])] (q_sq ?_);refine s_va 5 [(72,vb ((v27.Rows.length:Int)==0))] (q_cq hm (λhm=>?_) (λhm=>?_))
   ·refine s_vn [] 5 ⟨[(6,vc (.emp)),(7,vi 30)],[]⟩ (q_fo 6 5 50 3 qX ?_);refine q_fl 6 5 50 3 qX ?_;obtain rfl:=oi hm;refine q_sw 5 0 (q_rt ?_);exact zC (([]:List qV),30) q_rm
   ·refine q_sk ?_;obtain⟨g33,hm⟩:=qJ hm;obtain⟨g34,hm⟩:=qJ hm;obtain⟨g35,hm⟩:=qJ hm
    refine q_xu [.frz 3] (o1 (kg v27.Rows.length)) [qi 6 g33,qi 12 g34,qi 18 g35,qd 19 (drw 0 0 (rf qX (l22.set x23.toNat (qV.mk (w64 (((a1.Rings.getD (w64 (x23+1)).toNat dd).Z)-((a1.Rings.getD x23.toNat dd).Z))) v27)))) (stP qX dd (qV.mk (w64 (((a1.Rings.getD (w64 (x23+1)).toNat dd).Z)-((a1.Rings.getD x23.toNat dd).Z))) v27) l22 l22.length x23.toNat 0 [ci (w64 (((a1.Rings.getD (w64 (x23+1)).toNat dd).Z)-((a1.Rings.getD x23.toNat dd).Z))),ci v27.Low,tl qL dd v27.Rows] rfl (qU (zA g35)) rfl)] [] o0 [0,0,0,4,0,16,60,124,252,0,512,0,3584,7680,15872,32764,0,131068,262143,524287] 5 [14,15,72] [] [2,3,4] [(2,ro 0 50 3 l22.length (rf qX (l22.set x23.toNat (qV.mk (w64 (((a1.Rings.getD (w64 (x23+1)).toNat dd).Z)-((a1.Rings.getD x23.toNat dd).Z))) v27))))] ?_
    exact q_vv [] 5 [56] [(56,vi (w64 (x23+1)))] (q_hl (VB a1 o17 (l22.set x23.toNat (qV.mk (w64 (((a1.Rings.getD (w64 (x23+1)).toNat dd).Z)-((a1.Rings.getD x23.toNat dd).Z))) v27)) l22.length (w64 (x23+1))) (ih (l22.set x23.toNat (qV.mk (w64 (((a1.Rings.getD (w64 (x23+1)).toNat dd).Z)-((a1.Rings.getD x23.toNat dd).Z))) v27)) l22.length (w64 (x23+1)) _ (jP rfl) hm))
  ·refine q_ex 2 ?_;obtain rfl:=oi hm;exact q_l1 l22
theorem qGh (a1:Scan) (a2:Int) (a3:Int) (r:(List qV)×Int) (hm:JF a1 a2 a3=some r):CtX Tryz.prog globs 16 0 0 [.agg (qP a1),.one (ci a2),.one (ci a3)] [] (KC r) (XO r):=by
 unfold JF at hm;refine q_E f16 94 λE=>?_;refine s_vn [] 0 ⟨[(1,vi a2),(2,vi a3),(3,vp 0 0)],[(0,bx 25 (qP a1))]⟩ (q_sq ?_);obtain⟨v4,h5,hm⟩:=qE hm;refine s_vv [qc 1 [16] 1 (YF a1 v4 h5)] 1 [] [(8,vi v4)] (s_va 1 [(19,vb (v4 !=0))] ?_);refine q_cq hm (λhm=>?_) (λhm=>?_)
 ·refine s_vn [] 1 ⟨[(6,vc (.emp)),(7,vi v4)],[]⟩ (q_fo 6 1 50 3 qX ?_);refine q_fl 6 1 50 3 qX ?_;obtain rfl:=oi hm;exact q_sw 1 0 (q_rt q_rm)
 ·refine q_sk ?_;obtain⟨g7,hm⟩:=qJ hm;refine s_vu [qd 3 (drw 1 0 (rf qQ (List.replicate ((a1.Rings.length:Int).toNat) (qK.mk 0 ([]:List Span))))) (mkPe qQ dd (qK.mk 0 ([]:List Span)) (a1.Rings.length:Int) 32 [ci 0,.emp] (DW g7) (.same _ (.emp _ .nil)))] 1 [8,19] [(9,vo 1 0 2 ((a1.Rings.length:Int).toNat))] [] [(1,ro 0 48 2 ((a1.Rings.length:Int).toNat) (rf qQ (List.replicate ((a1.Rings.length:Int).toNat) (qK.mk 0 ([]:List Span)))))] (q_sq ?_);refine s_va 2 [(27,vi (a1.Rings.length:Int)),(28,vi 0)] ?_;obtain⟨u19,h18,hm⟩:=qE hm
  refine zN (nd f16 244) 0 (by kernel_rfl) FUEL (λo=>EN a1 o) (λv st=>RetQ Tryz.prog f16 (KC v) (XO v) .ret st) u19 (q_hl (VG a1 a2 a3 (List.replicate ((a1.Rings.length:Int).toNat) (qK.mk 0 ([]:List Span))) ((a1.Rings.length:Int).toNat) 0) (qCL E a1 a2 a3 FUEL (List.replicate ((a1.Rings.length:Int).toNat) (qK.mk 0 ([]:List Span))) ((a1.Rings.length:Int).toNat) 0 u19 GT h18)) ?_ ?_
  ·rintro v20 rfl st hr;obtain rfl:=oi hm;exact hr
  ·rintro o17 rfl;replace hm:_=some r:=hm;obtain⟨g21,hm⟩:=qJ hm;refine s_vu [qd 4 (drw 2 0 (rf qX (List.replicate ((w64 ((a1.Rings.length:Int)-1)).toNat) (qV.mk 0 (qK.mk 0 ([]:List Span)))))) (mkPe qX dd (qV.mk 0 (qK.mk 0 ([]:List Span))) (w64 ((a1.Rings.length:Int)-1)) 40 [ci 0,ci 0,.emp] (DW g21) (.same _ (.same _ (.emp _ .nil))))] 2 [] [(13,vo 2 0 3 ((w64 ((a1.Rings.length:Int)-1)).toNat))] [] [(2,ro 0 50 3 ((w64 ((a1.Rings.length:Int)-1)).toNat) (rf qX (List.replicate ((w64 ((a1.Rings.length:Int)-1)).toNat) (qV.mk 0 (qK.mk 0 ([]:List Span))))))] (q_sq ?_)
   refine s_va 3 [(55,vi (((w64 ((a1.Rings.length:Int)-1)).toNat:Nat):Int)),(56,vi 0)] ?_;obtain⟨u39,h38,hm⟩:=qE hm;refine zN (nd f16 1012) 2 (by kernel_rfl) FUEL EI (λv st=>RetQ Tryz.prog f16 (KC v) (XO v) .ret st) u39 (q_hl (VB a1 o17 (List.replicate ((w64 ((a1.Rings.length:Int)-1)).toNat) (qV.mk 0 (qK.mk 0 ([]:List Span)))) ((w64 ((a1.Rings.length:Int)-1)).toNat) 0) (qCW E a1 o17 FUEL (List.replicate ((w64 ((a1.Rings.length:Int)-1)).toNat) (qV.mk 0 (qK.mk 0 ([]:List Span)))) ((w64 ((a1.Rings.length:Int)-1)).toNat) 0 u39 GT h38)) ?_ ?_
   ·rintro v40 rfl st hr;obtain rfl:=oi hm;exact hr
   ·rintro o37 rfl;replace hm:_=some r:=hm;refine s_vv [] 3 [13] [(6,vo 2 0 3 o37.length),(7,vi 0)] ?_;obtain rfl:=oi hm;exact q_sw 2 0 (q_rt q_rm)
def qAo (r:(List Int)):V:=vo 0 0 1 r.length
def qAs (r:(List Int)):List (Nat×(Nat×O)):=[(0,ro 0 3 1 r.length (rf qN r))]
def PW (a1:List qC) (x3:Int) (l9:List Int) (l9n:Nat):St:=
 ⟨[(3,vo 0 0 1 l9n),(6,vc (tl qF dd a1)),(7,vi (a1.length:Int)),(8,vi x3)],[(0,ro 0 3 1 l9n (rf qN l9))]⟩
def WB (a1:List qC) (l2:List Int) (l2n:Nat) (x3:Int):St:=
 ⟨[(3,vo 0 0 1 l2n),(6,vc (tl qF dd a1)),(7,vi (a1.length:Int)),(8,vi x3)],[(0,ro 0 3 1 l2n (rf qN l2))]⟩
def RB (l10:List Int):St:=
 ⟨[(3,vo 0 0 1 l10.length)],[(0,ro 0 3 1 l10.length (rf qN l10))]⟩
theorem SF (E:Env 0) (a1:List qC):∀(n:Nat) (l2:List Int) (l2n:Nat) (x3:Int) (res:(List Int)),l2.length=l2n->jO a1 n l2 x3=some res->HL (kx E 28 0) (nd f50 116) (zF 0 RB res) n (WB a1 l2 l2n x3):=by
 intro n
 induction n with
 |zero=>
  intro l2 l2n x3 res hl0 hm;cases hm
 |succ n ih=>
  intro l2 l2n x3 res hl0 hm;subst hl0;refine qR (s_va 1 [(9,vb (decide (x3<(a1.length:Int))))] ?_);refine q_sq (q_cq hm (λhm=>?_) (λhm=>?_))
  ·refine q_sk (q_jn (ι:=(List Int)×Nat) (λp=>PW a1 x3 p.1 p.2) (λp=>p.1.length=p.2/\JL x3 (jO a1 n) p.1=some res) ?_ ?_)
   ·rintro⟨l9,l9n⟩ ⟨el9,hm⟩;replace el9:l9.length=l9n:=el9;subst el9;show H _ (PW a1 x3 l9 l9.length) _ _;exact q_vv [] 3 [8] [(8,vi (w64 (x3+1)))] (q_hl (WB a1 l9 l9.length (w64 (x3+1))) (ih l9 l9.length (w64 (x3+1)) _ rfl hm))
   ·refine q_bk 1 ?_;obtain⟨g5,hm⟩:=qJ hm;refine s_vu [qi 0 g5] 1 [9] [(5,vp 1 0)] [] [(1,bx 73 (qF (a1.getD x3.toNat dd)))] (s_va 2 [(13,vb ((a1.getD x3.toNat dd).Ok))] ?_);refine q_cq hm (λhm=>?_) (λhm=>?_)
    ·obtain⟨g7,hm⟩:=qJ hm
     exact q_vu [qd 7 (drw 2 0 (rf qN [1,((a1.getD x3.toNat dd).P).X,((a1.getD x3.toNat dd).P).Y])) (litP qN dd 1 (λ_=>rfl) ([1,((a1.getD x3.toNat dd).P).X,((a1.getD x3.toNat dd).P).Y]:List Int) 3 rfl),qd 8 (drw 0 1 (rf qN (l2++[1,((a1.getD x3.toNat dd).P).X,((a1.getD x3.toNat dd).P).Y]))) (apP qN dd l2 ([1,((a1.getD x3.toNat dd).P).X,((a1.getD x3.toNat dd).P).Y]:List Int) l2.length 3 1 8 (3<=3) (kg _) rfl rfl (λ_=>rfl) (zP g7))] 2 [3,5,13] [(3,vo 0 1 1 (l2.length+3))] [0,1] [(0,ro 1 3 1 (l2.length+3) (rf qN (l2++[1,((a1.getD x3.toNat dd).P).X,((a1.getD x3.toNat dd).P).Y])))] (q_J ((l2++[1,((a1.getD x3.toNat dd).P).X,((a1.getD x3.toNat dd).P).Y]),(l2.length+3)) ⟨(zX rfl rfl),hm⟩)
    ·obtain⟨g8,hm⟩:=qJ hm;exact q_vu [qd 1 (drw 2 0 (rf qN [0])) (litP qN dd 1 (λ_=>rfl) ([0]:List Int) 1 rfl),qd 2 (drw 0 1 (rf qN (l2++[0]))) (apP qN dd l2 ([0]:List Int) l2.length 1 1 8 (1<=1) (kg _) rfl rfl (λ_=>rfl) (zP g8))] 2 [3,5,13] [(3,vo 0 1 1 (l2.length+1))] [0,1] [(0,ro 1 3 1 (l2.length+1) (rf qN (l2++[0])))] (q_J ((l2++[0]),(l2.length+1)) ⟨(zX rfl rfl),hm⟩)
  ·refine q_ex 0 ?_;obtain rfl:=oi hm;exact q_l0
theorem OS (a1:List qC) (r:(List Int)) (hm:PM a1=some r):CtX Tryz.prog globs 50 0 0 [.one (tl qF dd a1)] [] (qAo r) (qAs r):=by
 unfold PM at hm;refine q_E f50 28 λE=>?_;refine s_vn [] 0 ⟨[(0,vc (tl qF dd a1))],[]⟩ (s_va 0 [(3,vc (.emp))] ?_);refine q_sq (s_vv [] 0 [0] [(6,vc (tl qF dd a1)),(7,vi (a1.length:Int)),(8,vi 0)] ?_);refine q_fo 3 0 3 1 qN ?_;obtain⟨o11,h12,hm⟩:=qE hm;refine qZ (nd f50 116) 0 (by kernel_rfl) FUEL RB o11 (q_hl (WB a1 ([]:List Int) 0 0) (SF E a1 FUEL ([]:List Int) 0 0 o11 rfl h12)) (s_vv [] 1 [3] [(2,vo 0 0 1 o11.length)] ?_);obtain rfl:=oi hm;exact q_rt q_rm
open Go.Proofs Go.Proofs.Tryz
def qIv (r:ByteArray):V:=vc (cs r)
def qIL (r:ByteArray):List (Nat×(Nat×O)):=[]
def GZ (x2:Int) (l3:List Int) (l3n:Nat):St:=
 ⟨[(0,vc (.val (.int .u64 x2))),(3,vo 0 0 1 l3n)],[(0,ro 0 5 1 l3n (rf e_u8 l3))]⟩
def OF (x6:Int) (l7:List Int):St:=
 ⟨[(0,vc (.val (.int .u64 x6))),(3,vo 0 0 1 l7.length)],[(0,ro 0 5 1 l7.length (rf e_u8 l7))]⟩
theorem qEk (E:Env 0):∀(n:Nat) (x2:Int) (l3:List Int) (l3n:Nat) (res:Int×(List Int)),l3.length=l3n->MT n x2 l3=some res->HL (kx E 20 0) (nd f102 56) (zF 0 (λo=>OF o.1 o.2) res) n (GZ x2 l3 l3n):=by
 intro n
 induction n with
 |zero=>
  intro x2 l3 l3n res hl0 hm;cases hm
 |succ n ih=>
  intro x2 l3 l3n res hl0 hm;subst hl0;refine qR (q_sq ?_);refine s_va 1 [(5,vb (decide (x2≥128)))] (q_cq hm (λhm=>?_) (λhm=>?_))
  ·refine q_sk (q_bk 1 ?_);obtain⟨g5,hm⟩:=qJ hm
   refine s_vu [qd 4 (drw 1 0 (rf e_u8 [orI .u8 (IntKind.u8.wrap (x2)) 128])) (litP e_u8 dd 1 (λ_=>rfl) ([orI .u8 (IntKind.u8.wrap (x2)) 128]:List Int) 1 rfl),qd 5 (drw 0 1 (rf e_u8 (l3++[orI .u8 (IntKind.u8.wrap (x2)) 128]))) (apP e_u8 dd l3 ([orI .u8 (IntKind.u8.wrap (x2)) 128]:List Int) l3.length 1 1 1 (1<=1) (kg _) rfl rfl (λ_=>rfl) (zP g5))] 1 [3,5] [(3,vo 0 1 1 (l3.length+1))] [0] [(0,ro 1 5 1 (l3.length+1) (rf e_u8 (l3++[orI .u8 (IntKind.u8.wrap (x2)) 128])))] (q_vv [qd 1 dN (show¬(7:Int)<0 by decide)] 2 [0] [(0,vc (.val (.int .u64 (shrI .u64 x2 7))))] ?_)
   exact q_hl (GZ (shrI .u64 x2 7) (l3++[orI .u8 (IntKind.u8.wrap (x2)) 128]) (l3.length+1)) (ih (shrI .u64 x2 7) (l3++[orI .u8 (IntKind.u8.wrap (x2)) 128]) (l3.length+1) _ (zX rfl rfl) hm)
  ·refine q_ex 0 ?_;obtain rfl:=oi hm;exact q_l0
theorem LS (a1:Int) (r:ByteArray) (hm:UC a1=some r):CtX Tryz.prog globs 102 0 0 [.one (.val (.int .u64 a1))] [] (qIv r) (qIL r):=by
 unfold UC at hm;refine q_E f102 20 λE=>?_;refine s_vn [] 0 ⟨[(0,vc (.val (.int .u64 a1)))],[]⟩ (s_va 0 [(3,vc (.emp))] ?_);refine q_sq (q_fo 3 0 5 1 e_u8 ?_);obtain⟨o8,h9,hm⟩:=qE hm;refine qZ (nd f102 56) 0 (by kernel_rfl) FUEL (λo=>OF o.1 o.2) o8 (q_hl (GZ a1 ([]:List Int) 0) (qEk E FUEL a1 ([]:List Int) 0 o8 rfl h9)) ?_;obtain⟨g10,hm⟩:=qJ hm
 refine s_vn [qd 3 (drw 1 0 (rf e_u8 [IntKind.u8.wrap (o8.1)])) (litP e_u8 dd 1 (λ_=>rfl) ([IntKind.u8.wrap (o8.1)]:List Int) 1 rfl),qd 4 (drw 0 1 (rf e_u8 (o8.2++[IntKind.u8.wrap (o8.1)]))) (apP e_u8 dd o8.2 ([IntKind.u8.wrap (o8.1)]:List Int) o8.2.length 1 1 1 (1<=1) (kg _) rfl rfl (λ_=>rfl) (zP g10)),qd 5 dN (And.intro (kg (o8.2.length+1)) (u8all (o8.2++[IntKind.u8.wrap (o8.1)]) (o8.2.length+1)))] 1 ⟨[(2,vc (cs (strTk (o8.2.length+1) (o8.2++[IntKind.u8.wrap (o8.1)]))))],[]⟩ ?_;obtain rfl:=oi hm;exact q_rt q_rm
def qJM (r:ByteArray):V:=vc (cs r)
def qJy (r:ByteArray):List (Nat×(Nat×O)):=[]
theorem qIS (a1:Int) (r:ByteArray) (hm:MA a1=some r):CtX Tryz.prog globs 103 0 0 [.one (ci a1)] [] (qJM r) (qJy r):=by
 unfold MA at hm;refine q_E f103 15 λE=>?_;refine s_vn [] 0 ⟨[(0,vi a1)],[]⟩ (q_sq ?_);refine s_va 0 [(4,vb (decide (a1<0)))] (q_cq hm (λhm=>?_) (λhm=>?_))
 ·obtain⟨v3,h4,hm⟩:=qE hm;refine s_vn [qd 3 dN (show¬(1:Int)<0 by decide),qc 5 [9] 0 (LS (orI .u64 (shlI .u64 (notI .u64 (IntKind.u64.wrap (a1))) 1) 1) v3 h4)] 0 ⟨[(2,vc (cs v3))],[]⟩ ?_;obtain rfl:=oi hm;exact q_rt q_rm
 ·refine q_sk ?_;obtain⟨v5,h6,hm⟩:=qE hm;refine s_vn [qd 2 dN (show¬(1:Int)<0 by decide),qc 3 [13] 0 (LS (shlI .u64 (IntKind.u64.wrap (a1)) 1) v5 h6)] 0 ⟨[(2,vc (cs v5))],[]⟩ ?_;obtain rfl:=oi hm;exact q_rt q_rm
open Go.Proofs
def BG (r:ByteArray):V:=vc (cs r)
def RG (r:ByteArray):List (Nat×(Nat×O)):=[]
theorem AH (r:ByteArray):yM (RG r):=by
 intro i k o h;cases h
open Go.RowKit
theorem wi_used (b:Nat) (w:World) (h0:w.cell? ⟨b,0,none⟩=some (.pointer (some ⟨b,0,none⟩))):
  Calls Tryz.prog 158 #[.pointer (some ⟨b,0,none⟩)] w λe w'=>e= .returned (.tuple #[])/\w'=w:=by
 obtain⟨j,hj,_⟩:=kz.1 (show(Tryz.prog.info? 120).map (·.size)=some 2 by kernel_rfl)
 go_enter Tryz.func158,Tryz.ntmps158
 go_wp2
 rw[Lib.run_neq_ptr_same w _ (show Tryz.prog.underlying 117=some (.pointer 120) by kernel_rfl) hj]
 go_wp2
 go_end0
 exact⟨rfl,rfl⟩
theorem qK5 (b:Nat) (w:World) (h0:w.cell? ⟨b,0,none⟩=some (.pointer none)) (hsh:w.shape? b=some (120,2)) (hfz:w.frozen? ⟨b,0,none⟩=false):
  Calls Tryz.prog 158 #[.pointer (some ⟨b,0,none⟩)] w λe w'=>e= .returned (.tuple #[])/\w'=w.setCell ⟨b,0,none⟩ (.pointer (some ⟨b,0,none⟩)):=by
 obtain⟨j,hj,hjs⟩:=kz.1 (show(Tryz.prog.info? 120).map (·.size)=some 2 by kernel_rfl);have u1:Tryz.prog.underlying 117=some (.pointer 120):=by kernel_rfl
 have u2:Tryz.prog.underlying 194=some .unsafePointer:=by kernel_rfl
 have hlies:liesAt Tryz.prog Tryz.prog.depth 120 (2/Tryz.prog.cellsOf 120) 0 120 1=true:=by kernel_rfl
 go_enter Tryz.func158,Tryz.ntmps158
 go_wp2
 rw[Lib.run_to_unsafe w ⟨b,0,none⟩ u1 u2 hj (by rw[hjs];decide) hsh (Nat.zero_lt_succ 1)];simp only[Result.andThen];rw[Oper.upon_value]
 go_wp2
 rw[run_callFunc_extern Tryz.func184 (by kernel_rfl) (by kernel_rfl) (by kernel_rfl) (e:=Extern.AbiNoEscape.same) (by kernel_rfl)];rw[Lib.run_noEscape];simp only[Result.andThen];rw[Oper.upon_value]
 go_wp2
 rw[Lib.run_from_unsafe w ⟨b,0,none⟩ u2 u1 hj hsh hlies];simp only[Result.andThen];rw[Oper.upon_value]
 go_wp2
 go_end0
 exact⟨rfl,rfl⟩
theorem wi_cc (B b:Nat) (bs:List Value) (w:World) (h:Lib.IsBuilder 120 5 B b bs w):
  Calls Tryz.prog 158 #[.pointer (some ⟨b,0,none⟩)] w λe w'=>e= .returned (.tuple #[])/\Lib.BuilderAt 120 5 B b (.pointer (some ⟨b,0,none⟩)) bs w'/\Below B w w':=by
 rcases h with h|h
 ·exact(qK5 b w h.cell0 h.shape h.frozen0).mono λe w' ⟨h1,h2⟩=>⟨h1,by rw[h2];exact h.used _,by rw[h2];exact(Below.refl B w).setCell (p:=⟨b,0,none⟩) h.1 _⟩
 ·exact(wi_used b w h.cell0).mono λe w' ⟨h1,h2⟩=>⟨h1,by rw[h2];exact h,by rw[h2];exact Below.refl B w⟩
theorem wi_u8 :∃i,Tryz.prog.info? 5=some i/\i.zero=some (.int .u8 0)/\i.size=1/\i.bytes=1:=by
 obtain⟨i,h1,h2⟩:=kz.1 (show(Tryz.prog.info? 5).map (λi=>(i.zero,i.size,i.bytes))=some (some (.int .u8 0),1,1) by kernel_rfl);exact⟨i,h1,by simpa using congrArg (·.1) h2,by simpa using congrArg (·.2.1) h2,by simpa using congrArg (·.2.2) h2⟩
theorem wi_ws (B b:Nat) (bs:List Value) (s:ByteArray) (w:World) (h:Lib.IsBuilder 120 5 B b bs w) (hlen:bs.length+s.size<=140737488355328) (hBw:B<=w.heap.size):
  Calls Tryz.prog 101 #[.pointer (some ⟨b,0,none⟩),.string s] w λe w'=>e= .returned (.tuple #[.int .i64 s.size,.nilIface])/\Lib.BuilderAt 120 5 B b (.pointer (some ⟨b,0,none⟩)) (bs++Lib.strCells s) w'/\Below B w w':=by
 obtain⟨i0,hi,hz0,hz1,hz2⟩:=wi_u8;have e_fc:∀args w,(callFunc 158 args).run Tryz.prog w= .ok (.enter 158 args) w:=enters_of Tryz.func158 (by kernel_rfl) rfl
 go_enter Tryz.func101,Tryz.ntmps101
 go_wp2_with (go_at_fn 158;refine(wi_cc B b bs _ h).mono ?_)
 rintro e w1 ⟨rfl,h1,hb1⟩;obtain⟨hB,v,hbk,hown,hne⟩:=h1;have c1:w1.cell? ⟨b,1,none⟩=some v:=by rw[Lib.cell_of_heap hbk];rfl
 go_wp2_with (at_builtin;refine Lib.wpList_append_own_string _ rfl _ _ 118 9 rfl B 5 i0 (by kernel_rfl) (by kernel_rfl) hi hz0 hz1 hz2 _ _ _ rfl hown s rfl ?c3 ?c4 ?c5 ?_)
 case c3=>unfold maxLen;omega
 case c4=>omega
 case c5=>have:=hb1.size;omega
 intro v' w2 hown' hgrow _;have hlt:b<w1.heap.size:=(kA.1 hbk).1;have hb2:w2.heap[b]? =some (.cells #[.pointer (some ⟨b,0,none⟩),v] 120 (0,0)):=by
  rw[hgrow.block b hlt (λe=>hne e.symm)];exact hbk
 have d1:w2.cell? ⟨b,1,none⟩=some v:=by rw[Lib.cell_of_heap hb2];rfl
 have f1:w2.frozen? ⟨b,1,none⟩=false:=Lib.frozen_of_heap hb2 1;obtain⟨ao,n',cap,rfl⟩:∃ao n' cap,v'= .slice ao n' cap:=by
  rcases hown'.2 with⟨hv,_⟩|⟨g,cap,cur,hv,_⟩
  ·exact⟨_,_,_,hv⟩
  ·exact⟨_,_,_,hv⟩
 go_wp2
 go_ret2
 refine⟨rfl,?_,?_⟩
 ·exact Lib.BuilderAt.put (T:=120) (e:=5) hB hb2 (bs':=bs++Lib.strCells s) (by simpa[Lib.strCells_length] using hown') (by decide)
 ·exact(hb1.grown hgrow (by have:=hb1.size;omega) (λk hk=>(hown.lt k hk).1)).setCell (p:=⟨b,1,none⟩) hB _
theorem lfC {α:Type} {o:Option α} {a b:α} (h:o=some a) (e:a=b:=by kernel_rfl):o=some b:=h.trans (congrArg some e)
def wi_l9_ren :Go.Shelf.Ren:=⟨fun |169=>104|n=>n,fun |70=>117|9=>9|0=>0|72=>120|37=>118|127=>169|3=>3|5=>5|n=>n,fun n=>n⟩
theorem wi_l9 : Go.Proofs.Lays.n169 Tryz.prog wi_l9_ren :={mixed:=by kernel_rfl,f169:=lfC Tryz.func104,t0:=Tryz.underlying0,a0:=Tryz.isAgg0,z0:=Tryz.sizeOf0,v0:=Tryz.zeroValue0,t3:=Tryz.underlying3,a3:=Tryz.isAgg3,z3:=Tryz.sizeOf3,v3:=Tryz.zeroValue3,t9:=Tryz.underlying9,a9:=Tryz.isAgg9,z9:=Tryz.sizeOf9,v9:=Tryz.zeroValue9,t37:=Tryz.underlying118,a37:=Tryz.isAgg118,z37:=Tryz.sizeOf118,v37:=Tryz.zeroValue118,t70:=Tryz.underlying117,a70:=Tryz.isAgg117,z70:=Tryz.sizeOf117,v70:=Tryz.zeroValue117,t72:=Tryz.underlying120,a72:=Tryz.isAgg120,z72:=Tryz.sizeOf120,v72:=Tryz.zeroValue120,t127:=Tryz.underlying169,a127:=Tryz.isAgg169,z127:=Tryz.sizeOf169,v127:=Tryz.zeroValue169}
theorem wi_x9 :Builder.Extra Tryz.prog wi_l9_ren where
 sizeBuilder:=by kernel_rfl
 liesBuilder:=by kernel_rfl
 t5:=Tryz.underlying5
 a5:=Tryz.isAgg5
 z5:=Tryz.sizeOf5
 v5:=Tryz.zeroValue5
 infoByte:=by kernel_rfl
 cellsByte:=by kernel_rfl
 sizeByte:=by kernel_rfl
 neB5:=by decide
theorem wi_st (B b:Nat) (l:List UInt8) (w:World) (h:Lib.IsBuilder 120 5 B b (Lib.byteCells l) w) (hBw:B<=w.heap.size):
  Calls Tryz.prog 104 #[.pointer (some ⟨b,0,none⟩)] w λe w'=>e= .returned (.string ⟨l.toArray⟩)/\Below B w w':=
 Any.Builder_String_any wi_l9 wi_x9 B b l w h hBw
theorem qKI (B b:Nat) (a s:ByteArray) (w:World) (h:Lib.IsBuilder 120 5 B b (Lib.strCells a) w) (hlen:a.size+s.size<=140737488355328) (hBw:B<=w.heap.size):
  Calls Tryz.prog 101 #[.pointer (some ⟨b,0,none⟩),.string s] w λe w'=>e= .returned (.tuple #[.int .i64 s.size,.nilIface])/\Lib.IsBuilder 120 5 B b (Lib.strCells (a++s)) w'/\Below B w w':=
 (wi_ws B b _ s w h (by rw[Lib.strCells_length];exact hlen) hBw).mono λe w' ⟨h1,h2,h3⟩=>⟨h1,.inr (by
  have:Lib.strCells (a++s)=Lib.strCells a++Lib.strCells s:=by
   unfold Lib.strCells;rw[<-List.map_append]
   congr 1
  rw[this];exact h2),h3⟩
theorem wi_st2 (B b:Nat) (a:ByteArray) (w:World) (h:Lib.IsBuilder 120 5 B b (Lib.strCells a) w) (hBw:B<=w.heap.size):
  Calls Tryz.prog 104 #[.pointer (some ⟨b,0,none⟩)] w λe w'=>e= .returned (.string a)/\Below B w w':=
 (wi_st B b a.data.toList w (by rw[<-Lib.strCells_eq];exact h) hBw).mono λe w' ⟨h1,h2⟩=>⟨by rw[h1],h2⟩
theorem ZK {p:Prop} (h:p):Hid p:=h
theorem qJ8 {f:Int->Option ByteArray} {n:Int} {l:List Int} {s r:ByteArray} (h:qBu f (n::l) s=some r):∃t,f n=some t/\s.size+t.size<=140737488355328/\qBu f l (s++t)=some r:=by
 unfold qBu at h;obtain⟨t,h1,h2⟩:=qE h;obtain⟨h3,h4⟩:=qJ h2;exact⟨t,h1,kK h3,h4⟩
theorem qJd (a1:List Int) (r:ByteArray) (hm:intsM UC MA a1=some r) (w:World) (A:Nat->Prop) (hg:zH globs w A) (ao:Option Addr) (cap:Nat) (hl:a1.length<=9223372036854775807)
  (hc:∀i,i<a1.length->∃b o,ao=some ⟨b,o,none⟩/\b<w.heap.size/\w.cell? ⟨b,o+i,none⟩=some (.int .i64 (a1.getD i dd))):
  Calls Tryz.prog 49 #[.slice ao a1.length cap] w λe w'=>e= .returned (.string r)/\Below w.heap.size w w':=by
 obtain⟨h0,hu,hm⟩:=qE hm;obtain⟨hs,hm⟩:=qJ hm;have hs:=kK hs;have e_fw:∀args w,(callFunc 101 args).run Tryz.prog w= .ok (.enter 101 args) w:=enters_of Tryz.func101 (by kernel_rfl) rfl;have e_fu:∀args w,(callFunc 102 args).run Tryz.prog w= .ok (.enter 102 args) w:=enters_of Tryz.func102 (by kernel_rfl) rfl;have e_fi:∀args w,(callFunc 103 args).run Tryz.prog w= .ok (.enter 103 args) w:=enters_of Tryz.func103 (by kernel_rfl) rfl;have e_fs:∀args w,(callFunc 104 args).run Tryz.prog w= .ok (.enter 104 args) w:=enters_of Tryz.func104 (by kernel_rfl) rfl;have HC:=ZK hc;have HM:=ZK hm;have HG:=ZK hg
 clear hc hm hg;have hu0:IntKind.u64.wrap (a1.length:Int)=(a1.length:Int):=by
  simp[IntKind.wrap,IntKind.bits,IntKind.signed];omega
 rw[hu0] at hu
 go_enter Tryz.func49,Tryz.ntmps49
 go_wp2_with fail
 have hb0:Below w.heap.size w (w.alloc (Obj.cells #[Value.pointer none,Value.slice none 0 0] 120)):=(Below.refl _ w).alloc (kg _) _;refine((CtX.call1 (LS _ _ hu) rfl _ A (HG.out.later hb0))).mono ?_;rintro e w1 ⟨rfl,hb1⟩;have hsz:(w.alloc (Obj.cells #[Value.pointer none,Value.slice none 0 0] 120)).heap.size=w.heap.size+1:=by simp
 have hib1:Lib.IsBuilder 120 5 w.heap.size w.heap.size (Lib.strCells ⟨#[]⟩) w1:= .inl ⟨kg _,.slice none 0 0,by rw[hb1.block _ (by rw[hsz];omega)];exact heap_alloc_new w _,World.ownsRow_nil _ _ _ _,by simp[Value.ownBlock]⟩;have hb1':Below w.heap.size w w1:=hb0.trans ⟨hb1.os,hb1.tape,hb1.output,hb1.size,λb hb=>hb1.block b (by rw[hsz];omega)⟩;have HI1:=ZK hib1;have HB1:=ZK hb1';clear hib1 hb1' hb1
 go_wp2_with fail
 refine(qKI w.heap.size w.heap.size ⟨#[]⟩ h0 w1 HI1.out (by show 0+h0.size<=_;omega) HB1.out.size).mono ?_;rintro e w2 ⟨rfl,hib2,hb2⟩;have he0:(⟨#[]⟩:ByteArray)++h0=h0:=by
  apply ByteArray.ext;simp
 rw[he0] at hib2;have HI2:=ZK hib2;have HB2:=ZK (HB1.out.trans hb2);clear hib2 hb2
 go_wp2_with fail
 go_loopw [13] (λi wr=>∃(k:Nat) (acc:ByteArray),k<=a1.length/\i= .int .i64 k/\Hid (qBu MA (a1.drop k) acc=some r)/\Hid (Lib.IsBuilder 120 5 w.heap.size w.heap.size (Lib.strCells acc) wr)/\Hid (Below w.heap.size w wr)) (λi _=>a1.length-(RowKit.intOf i).toNat)
 case atStart=>exact⟨0,h0,un _,rfl,HM,HI2,HB2⟩
 case round=>
  obtain⟨k,acc,hk,rfl,HJ,HB,HW⟩:=hrel;by_cases hlt:k<a1.length
  ·obtain⟨b,o,rfl,hbw,hcell⟩:=HC.out k hlt;have hd:a1.drop k=a1.getD k dd::a1.drop (k+1):=by
    rw[uW hlt,ka,ko hlt];rfl
   have hj:=HJ.out;rw[hd] at hj;obtain⟨t,ht,hr1,hj'⟩:=qJ8 hj;have hcw:wr.cell? ⟨b,o+k,none⟩=some (.int .i64 (a1.getD k dd)):=by
    rw[<-hcell];exact World.cell?_of_block (HW.out.block b hbw)
   generalize a1.getD k dd=z at hd ht hcw hcell;have HJ':=ZK hj';have HT:=ZK ht;clear hj hj' hd hcell ht
   go_wp2_with fail
   refine((CtX.call1 (qIS _ _ HT.out) rfl _ A (HG.out.later HW.out))).mono ?_;rintro e w3 ⟨rfl,hb3⟩;have hib3:Lib.IsBuilder 120 5 w.heap.size w.heap.size (Lib.strCells acc) w3:=by
    refine HB.out.imp ?_ ?_
    ·rintro⟨q1,v,q2,q3,q4⟩;exact⟨q1,v,by rw[hb3.block _ (kA.1 q2).1];exact q2,q3.kept (row:=none) ⟨hb3.os,hb3.tape,hb3.output,hb3.size,λj hj _=>hb3.block j hj⟩ (by cases v.ownBlock<;>simp),q4⟩
    ·rintro⟨q1,v,q2,q3,q4⟩;exact⟨q1,v,by rw[hb3.block _ (kA.1 q2).1];exact q2,q3.kept (row:=none) ⟨hb3.os,hb3.tape,hb3.output,hb3.size,λj hj _=>hb3.block j hj⟩ (by cases v.ownBlock<;>simp),q4⟩
   have HI3:=ZK hib3;have HB3:=ZK (HW.out.trans ⟨hb3.os,hb3.tape,hb3.output,hb3.size,λj hj=>hb3.block j (kC hj HW.out.size)⟩);clear hib3 hb3
   go_wp2_with fail
   refine(qKI w.heap.size w.heap.size acc t w3 HI3.out hr1 HB3.out.size).mono ?_;rintro e w4 ⟨rfl,hib4,hb4⟩;have HI4:=ZK hib4;have HB4:=ZK (HB3.out.trans hb4);clear hib4 hb4
   go_wp2
   exact⟨⟨k+1,acc++t,by omega,by go_num,HJ',HI4,HB4⟩,by simp[RowKit.intOf];omega⟩
  ·have hke:k=a1.length:=by omega
   subst hke;have hj:=HJ.out;rw[List.drop_length] at hj;obtain rfl:=oi hj;clear hj
   go_wp2_with fail
   refine(wi_st2 w.heap.size w.heap.size acc wr HB.out HW.out.size).mono ?_;rintro e w5 ⟨rfl,hb5⟩;have HB5:=ZK (HW.out.trans hb5);clear hb5
   go_wp2
   go_ret
   exact⟨rfl,HB5.out⟩
theorem HF (a1:List Int) (r:ByteArray) (hm:AC a1=some r):CtX Tryz.prog globs 49 0 0 [.one (tl qN dd a1)] [] (BG r) (RG r):=by
 refine qIi rfl rfl λw A v hg hv=>?_;have hv':IRep w A (.lst a1.length (rf qN a1)) v:=hv;clear hv;generalize hq:a1.length=q at hv';cases hv' with
 |lst0 a=>
  have:=qJd a1 r hm w A hg a 0 (by omega) (λi hi=>by omega);rw[hq] at this;exact this
 |lst b o n cap sz f g hn hmx hl hb hc hr=>
  have:=qJd a1 r hm w A hg (some ⟨b,o,none⟩) cap (by unfold maxLen at hmx;omega) (λi hi=>by
   have hi':i<q:=by omega
   have hs:1=sz:=hl i hi';subst hs;have h1:=hc i 0 hi' (by omega);have h2:=(hr i 0 hi' (by omega)).val_eq;rw[h2,Nat.mul_one,ud] at h1;exact⟨b,o,rfl,World.block_lt_of_cell? w _ h1,h1⟩)
  rw[hq] at this;exact this
end Saw
end Go.SL

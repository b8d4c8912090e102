import Derived.Test.YthbamnkheinbgaaGreatDoorSBase
import Derived.Test.YthbamnkheinbgaaGreatDoorSFa1
set_option linter.unusedVariables false
set_option linter.unusedSimpArgs false
namespace Go.SL
namespace Saw
open Go.Proofs Go.Proofs.Tryz
set_option maxHeartbeats 4000000
set_option maxRecDepth 100000
def HV (r:Int):V:=vi r
def MW (r:Int):List (Nat×(Nat×O)):=[]
def GV (a1:List qF) (x3:Int):St:=
 ⟨[(9,vc (tl qJ dd a1)),(10,vi (a1.length:Int)),(11,vi x3)],[]⟩
def OC :St:=
 ⟨[],[]⟩
theorem qEJ (E:Env 0) (a1:List qF):∀(n:Nat) (x3:Int) (res:Int⊕Unit),yV a1 n x3=some res->HL (kx E 21 0) (nd f39 116) (jS 0 (λo=>OC) (λv st=>RetQ Tryz.prog f39 (HV v) (MW v) .ret st) res) n (GV a1 x3):=by
 intro n
 induction n with
 |zero=>
  intro x3 res hm;cases hm
 |succ n ih=>
  intro x3 res hm;refine qS (s_va 0 [(12,vb (decide (x3<(a1.length:Int))))] ?_);refine q_sq (q_cq hm (λhm=>?_) (λhm=>?_))
  ·refine q_sk (q_sq ?_);refine q_bk 1 ?_;obtain⟨g5,hm⟩:=qK hm;refine s_vu [qi 0 g5] 0 [12] [(4,vp 0 0)] [] [(0,bx 68 (qJ (a1.getD x3.toNat dd)))] ?_;obtain⟨v6,h7,hm⟩:=qE hm;refine s_vu [qc 1 [15] 1 (qHD (a1.getD x3.toNat dd) v6 h7)] 1 [4] [(5,vi v6)] [0] [] (s_va 1 [(18,vb (v6 !=0))] ?_);refine q_cq hm (λhm=>?_) (λhm=>?_)
   ·refine s_vn [] 1 ⟨[(2,vi v6)],[]⟩ ?_;obtain rfl:=oi hm;refine q_rt (zZ v6 ?_);exact q_rm
   ·refine q_sk (q_vv [] 1 [5,11,18] [(11,vi (w64 (x3+1)))] ?_);exact q_hl (GV a1 (w64 (x3+1))) (ih (w64 (x3+1)) _ hm)
  ·refine q_ex 0 ?_;obtain rfl:=oi hm;exact q_l1 ()
theorem qBn (a1:List qF) (r:Int) (hm:KY a1=some r):CtX Tryz.prog globs 39 0 0 [.one (tl qJ dd a1)] [] (HV r) (MW r):=by
 unfold KY at hm;refine q_E f39 21 λE=>?_;refine s_vn [] 0 ⟨[(0,vc (tl qJ dd a1))],[]⟩ (q_sq ?_);refine s_va 0 [(8,vb (decide ((a1.length:Int)>64)))] (q_cq hm (λhm=>?_) (λhm=>?_))
 ·refine s_vn [] 0 ⟨[(2,vi 4)],[]⟩ ?_;obtain rfl:=oi hm;exact q_rt q_rm
 ·refine q_sk (q_sq ?_);refine s_vn [] 0 ⟨[(9,vc (tl qJ dd a1)),(10,vi (a1.length:Int)),(11,vi 0)],[]⟩ ?_;obtain⟨u11,h10,hm⟩:=qE hm;refine wJ (nd f39 116) 0 (by kernel_rfl) FUEL (λo=>OC) (λv st=>RetQ Tryz.prog f39 (HV v) (MW v) .ret st) u11 (q_hl (GV a1 0) (qEJ E a1 FUEL 0 u11 h10)) ?_ ?_
  ·rintro v12 rfl st hr;obtain rfl:=oi hm;exact hr
  ·rintro o9 rfl;replace hm:_=some r:=hm;refine s_vn [] 0 ⟨[(2,vi 0)],[]⟩ ?_;obtain rfl:=oi hm;exact q_rt q_rm
def KX (r:Int):V:=vi r
def ZJ (r:Int):List (Nat×(Nat×O)):=[]
theorem qL3 (r:Int):QM (ZJ r):=by
 intro i k o h;unfold ZJ at h;cases h
def qIc (a1:Scan) (x4:Int) (x16:Bool):St:=
 ⟨[(1,vp 0 0),(4,vp 1 0),(19,vc (tl qM dd a1.Rings)),(20,vi (a1.Rings.length:Int)),(21,vi x4),(53,vb x16)],[(0,bx 25 (qX a1)),(1,bx 45 (qM (a1.Rings.getD x4.toNat dd)))]⟩
def LT (a1:Scan) (x4:Int):St:=
 ⟨[(1,vp 0 0),(19,vc (tl qM dd a1.Rings)),(20,vi (a1.Rings.length:Int)),(21,vi x4)],[(0,bx 25 (qX a1))]⟩
def qA1 (a1:Scan):St:=
 ⟨[(1,vp 0 0)],[(0,bx 25 (qX a1))]⟩
def FP (a1:Scan) (x28:Int):St:=
 ⟨[(7,vi ((a1.Rings.getD (w64 ((a1.Rings.length:Int)-1)).toNat dd).Z)),(81,vc (tl qJ dd a1.Defects)),(82,vi (a1.Defects.length:Int)),(83,vi x28)],[]⟩
def qAS :St:=
 ⟨[],[]⟩
theorem qGz (E:Env 0) (a1:Scan):∀(n:Nat) (x4:Int) (res:Int⊕Unit),wL a1 n x4=some res->HL (kx E 94 0) (nd f13 244) (jS 0 (λo=>qA1 a1) (λv st=>RetQ Tryz.prog f13 (KX v) (ZJ v) .ret st) res) n (LT a1 x4):=by
 intro n
 induction n with
 |zero=>
  intro x4 res hm;cases hm
 |succ n ih=>
  intro x4 res hm;refine qS (s_va 1 [(22,vb (decide (x4<(a1.Rings.length:Int))))] ?_);refine q_sq (q_cq hm (λhm=>?_) (λhm=>?_))
  ·refine q_sk (q_sq ?_);refine q_bk 1 ?_;obtain⟨g6,hm⟩:=qK hm;refine s_vu [qi 1 g6] 1 [22] [(3,vi x4),(4,vp 1 0)] [] [(1,bx 45 (qM (a1.Rings.getD x4.toNat dd)))] (q_sq ?_);obtain⟨v7,h8,hm⟩:=qE hm;refine s_vv [qc 1 [26] 2 (DV (a1.Rings.getD x4.toNat dd) v7 h8)] 2 [] [(5,vi v7)] (s_va 2 [(29,vb (v7 !=0))] ?_);refine q_cq hm (λhm=>?_) (λhm=>?_)
   ·refine s_vn [] 2 ⟨[(2,vi v7)],[]⟩ ?_;obtain rfl:=oi hm;refine q_rt (zZ v7 ?_);exact q_rm
   ·refine q_sk (q_sq ?_);refine q_jn (qIc a1 x4) (λp=>ZV a1 x4 (wL a1 n) p=some res) ?_ ?_
    ·rintro x16 hm;refine q_cq hm (λhm=>?_) (λhm=>?_)
     ·refine s_vn [] 2 ⟨[(2,vi 11)],[]⟩ ?_;obtain rfl:=oi hm;refine q_rt (zZ 11 ?_);exact q_rm
     ·refine q_sk ?_;obtain⟨g18,hm⟩:=qK hm;refine s_du [qi 5 g18] [0,1,3,0,8,24,56,120,248,511] 2 [4,53] [(63,vb (((((a1.Rings.getD x4.toNat dd).Read).length:Nat):Int) !=((((a1.Rings.getD (0:Int).toNat dd).Read).length:Nat):Int)))] [1] [] (q_cq hm (λhm=>?_) (λhm=>?_))
      ·refine s_vn [] 2 ⟨[(2,vi 19)],[]⟩ ?_;obtain rfl:=oi hm;refine q_rt (zZ 19 ?_);exact q_rm
      ·refine q_sk (q_vv [] 2 [21,63] [(21,vi (w64 (x4+1)))] ?_);exact q_hl (LT a1 (w64 (x4+1))) (ih (w64 (x4+1)) _ hm)
    ·rcases bif_c hm with⟨b10,hm⟩|⟨b10,hm⟩
     ·rcases bif_c hm with⟨b11,hm⟩|⟨b11,hm⟩
      ·exact q_du [qf 2 b10,qf 7 b11] [0,1,3,7,15,31,63,127,255,511,1023,2047,4095,2047,10239,2047,34815,124927,255999,518143,1048575,2097151,4194303] 2 [3,5,29] [(53,vb true)] [] [] (q_J (true) hm)
      ·rcases bif_c hm with⟨b12,hm⟩|⟨b12,hm⟩
       ·obtain⟨g13,hm⟩:=qK hm;exact q_du [qf 2 b10,qf 7 b11,qf 10 b12,qi 17 g13] [0,1,3,7,15,31,63,127,255,511,1023,2047,4095,2047,10239,2047,34815,124927,255999,518143,1048575,2097151,4194303] 2 [3,5,29] [(53,vb (decide (((a1.Rings.getD x4.toNat dd).Z)<=((a1.Rings.getD (w64 (x4-1)).toNat dd).Z))))] [] [] (q_J (decide (((a1.Rings.getD x4.toNat dd).Z)<=((a1.Rings.getD (w64 (x4-1)).toNat dd).Z))) hm)
       ·exact q_du [qf 2 b10,qf 7 b11,qf 10 b12] [0,1,3,7,15,31,63,127,255,511,1023,2047,4095,2047,10239,2047,34815,124927,255999,518143,1048575,2097151,4194303] 2 [3,5,29] [(53,vb false)] [] [] (q_J (false) hm)
     ·rcases bif_c hm with⟨b14,hm⟩|⟨b14,hm⟩
      ·obtain⟨g15,hm⟩:=qK hm;exact q_du [qf 2 b10,qf 10 b14,qi 17 g15] [0,1,3,7,15,31,63,127,255,511,1023,2047,4095,2047,10239,2047,34815,124927,255999,518143,1048575,2097151,4194303] 2 [3,5,29] [(53,vb (decide (((a1.Rings.getD x4.toNat dd).Z)<=((a1.Rings.getD (w64 (x4-1)).toNat dd).Z))))] [] [] (q_J (decide (((a1.Rings.getD x4.toNat dd).Z)<=((a1.Rings.getD (w64 (x4-1)).toNat dd).Z))) hm)
      ·exact q_du [qf 2 b10,qf 10 b14] [0,1,3,7,15,31,63,127,255,511,1023,2047,4095,2047,10239,2047,34815,124927,255999,518143,1048575,2097151,4194303] 2 [3,5,29] [(53,vb false)] [] [] (q_J (false) hm)
  ·refine q_ex 0 ?_;obtain rfl:=oi hm;exact q_l1 ()
theorem qGN (E:Env 0) (a1:Scan):∀(n:Nat) (x28:Int) (res:Int⊕Unit),YE a1 n x28=some res->HL (kx E 94 0) (nd f13 2036) (jS 2 (λo=>qAS) (λv st=>RetQ Tryz.prog f13 (KX v) (ZJ v) .ret st) res) n (FP a1 x28):=by
 intro n
 induction n with
 |zero=>
  intro x28 res hm;cases hm
 |succ n ih=>
  intro x28 res hm;refine qS (s_va 1 [(84,vb (decide (x28<(a1.Defects.length:Int))))] ?_);refine q_sq (q_cq hm (λhm=>?_) (λhm=>?_))
  ·refine q_sk (q_sq ?_);refine q_bk 3 ?_;obtain⟨g30,hm⟩:=qK hm;refine s_vu [qi 0 g30] 1 [84] [(9,vp 1 0)] [] [(1,bx 68 (qJ (a1.Defects.getD x28.toNat dd)))] (s_vu [] 2 [9] [(92,vb (decide (((((a1.Defects.getD x28.toNat dd).Box).Z).B)>((a1.Rings.getD (w64 ((a1.Rings.length:Int)-1)).toNat dd).Z))))] [1] [] ?_);refine q_cq hm (λhm=>?_) (λhm=>?_)
   ·refine s_vn [] 2 ⟨[(2,vi 9)],[]⟩ ?_;obtain rfl:=oi hm;refine q_rt (zZ 9 ?_);exact q_rm
   ·refine q_sk (q_vv [] 2 [83,92] [(83,vi (w64 (x28+1)))] ?_);exact q_hl (FP a1 (w64 (x28+1))) (ih (w64 (x28+1)) _ hm)
  ·refine q_ex 2 ?_;obtain rfl:=oi hm;exact q_l1 ()
theorem QE (a1:Scan) (r:Int) (hm:jU a1=some r):CtX Tryz.prog globs 13 0 0 [.agg (qX a1)] [] (KX r) (ZJ r):=by
 unfold jU at hm;refine q_E f13 94 λE=>?_;refine s_vn [] 0 ⟨[(1,vp 0 0)],[(0,bx 25 (qX a1))]⟩ (q_sq ?_);refine s_va 1 [(13,vb (decide ((a1.Rings.length:Int)<2)))] (q_cq hm (λhm=>?_) (λhm=>?_))
 ·refine s_vn [] 1 ⟨[(2,vi 3)],[]⟩ ?_;obtain rfl:=oi hm;exact q_rt q_rm
 ·refine q_sk (q_sq ?_);refine s_vv [] 1 [13] [(17,vb (decide ((a1.Rings.length:Int)>24)))] (q_cq hm (λhm=>?_) (λhm=>?_))
  ·refine s_vn [] 1 ⟨[(2,vi 4)],[]⟩ ?_;obtain rfl:=oi hm;exact q_rt q_rm
  ·refine q_sk (q_sq ?_);refine s_vv [] 1 [17] [(19,vc (tl qM dd a1.Rings)),(20,vi (a1.Rings.length:Int)),(21,vi 0)] ?_;obtain⟨u22,h21,hm⟩:=qE hm;refine wJ (nd f13 244) 0 (by kernel_rfl) FUEL (λo=>qA1 a1) (λv st=>RetQ Tryz.prog f13 (KX v) (ZJ v) .ret st) u22 (q_hl (LT a1 0) (qGz E a1 FUEL 0 u22 h21)) ?_ ?_
   ·rintro v23 rfl st hr;obtain rfl:=oi hm;exact hr
   ·rintro o20 rfl;replace hm:_=some r:=hm;refine q_sq ?_;obtain⟨v24,h25,hm⟩:=qE hm;refine s_vv [qc 2 [66] 1 (qBn a1.Defects v24 h25)] 1 [] [(6,vi v24)] (s_va 1 [(69,vb (v24 !=0))] ?_);refine q_cq hm (λhm=>?_) (λhm=>?_)
    ·refine s_vn [] 1 ⟨[(2,vi v24)],[]⟩ ?_;obtain rfl:=oi hm;exact q_rt q_rm
    ·refine q_sk ?_;obtain⟨g27,hm⟩:=qK hm;refine s_vv [qi 6 g27] 1 [6,69] [(7,vi ((a1.Rings.getD (w64 ((a1.Rings.length:Int)-1)).toNat dd).Z))] (q_sq ?_);refine s_vu [] 1 [1] [(81,vc (tl qJ dd a1.Defects)),(82,vi (a1.Defects.length:Int)),(83,vi 0)] [0] [] ?_;obtain⟨u34,h33,hm⟩:=qE hm;refine wJ (nd f13 2036) 2 (by kernel_rfl) FUEL (λo=>qAS) (λv st=>RetQ Tryz.prog f13 (KX v) (ZJ v) .ret st) u34 (q_hl (FP a1 0) (qGN E a1 FUEL 0 u34 h33)) ?_ ?_
     ·rintro v35 rfl st hr;obtain rfl:=oi hm;exact hr
     ·rintro o32 rfl;replace hm:_=some r:=hm;refine s_vn [] 1 ⟨[(2,vi 0)],[]⟩ ?_;obtain rfl:=oi hm;exact q_rt q_rm
def qPf (r:Bool):V:=vb r
def qOZ (r:Bool):List (Nat×(Nat×O)):=[]
def qKt (x5:Bool):St:=
 ⟨[(6,vb x5)],[]⟩
theorem qNO (a1:qA) (a2:qA) (a3:Int) (r:Bool) (hm:qAy a1 a2 a3=some r):CtX Tryz.prog globs 146 0 0 [.agg (qC a1),.agg (qC a2),.one (ci a3)] [] (qPf r) (qOZ r):=by
 unfold qAy at hm;refine q_E f146 35 λE=>?_;refine s_vn [] 0 ⟨[(2,vi a3),(3,vp 0 0),(4,vp 1 0)],[(0,bx 71 (qC a1)),(1,bx 71 (qC a2))]⟩ (q_jn (qKt) (λp=>EH p=some r) ?_ ?_)
 ·rintro x5 hm;obtain rfl:=oi hm;exact q_rt q_rm
 ·rcases bif_c hm with⟨b4,hm⟩|⟨b4,hm⟩
  ·exact q_vn [qf 13 b4] 2 ⟨[(6,vb true)],[]⟩ (q_J (true) hm)
  ·exact q_vn [qf 13 b4] 2 ⟨[(6,vb (decide ((imax (w64 (a1.Y-a2.Y)) (w64 (a2.Y-a1.Y)))>a3)))],[]⟩ (q_J (decide ((imax (w64 (a1.Y-a2.Y)) (w64 (a2.Y-a1.Y)))>a3)) hm)
open Go.Proofs Go.Proofs.Tryz
def qAH (r:List qD):V:=vo 0 0 3 r.length
def qAJ (r:List qD):List (Nat×(Nat×O)):=[(0,ro 0 73 3 r.length (rf qH r))]
theorem UV (a1:List qD) (r:List qD) (hm:yG a1=some r):CtX Tryz.prog globs 136 0 0 [.one (tl qH dd a1)] [] (qAH r) (qAJ r):=by
 unfold yG at hm;obtain⟨g1,hm⟩:=qK hm;obtain rfl:=kK hm;refine qAj (fn:=f136) (c:=nd f136 1) (nt:=8) (by kernel_rfl) (by kernel_rfl) (by kernel_rfl) (by kernel_rfl) λE=>?_;refine R_sq f136 2 3 (by kernel_rfl) (R_rn f136 2 0 [] [] 0 ⟨[(0,vc (tl qH dd a1))],[]⟩ o0 (by kernel_rfl) (by kernel_rfl) ?_);refine R_sq f136 6 7 (by kernel_rfl) (R_sq f136 12 13 (by kernel_rfl) ?_);refine qK5 f136 12 1 1 ⟨[(0,vc (tl qH dd a1)),(3,vc (tl qH dd a1))],[]⟩ 43 43 73 4 (.tmp 3) a1.length (rf qH a1) (by kernel_rfl) (by kernel_rfl) (by kernel_rfl) (λb hb=>?_)
 refine R_cn f136 (.tmp 4) 26 27 (by kernel_rfl) b (by kernel_rfl) (λb6=>?_) (λb6=>?_)
 ·obtain rfl:a1=[]:=ge (hb b6);refine R_sq f136 52 53 (by kernel_rfl) (R_rn f136 52 2 [] [.own 2 0 73 3 (rf qH [])] 0 ⟨[(2,vo 0 0 3 0)],[(0,ro 0 73 3 0 (rf qH []))]⟩ o0 (by kernel_rfl) (by kernel_rfl) ?_);exact OI (by kernel_rfl) (FW (by kernel_rfl) (by kernel_rfl))
 ·refine qEF (by kernel_rfl) (R_sq f136 14 15 (by kernel_rfl) ?_);refine R_rn f136 14 3 [(0,drw 0 0 (rf qH [])),(2,drw 0 1 (rf qH ([]++a1)))] [.len 0 a1.length] 0 ⟨[(2,vo 0 1 3 a1.length)],[(0,ro 1 73 3 a1.length (rf qH ([]++a1)))]⟩ (o1 (And.intro (And.intro (litP qH dd 3 (λ_=>rfl) ([]:List qD) 0 rfl) (apP qH dd ([]:List qD) a1 0 a1.length 3 24 True trivial rfl rfl (λ_=>rfl) (by have:=zW g1;rw[kz];exact this))) (And.intro (And.intro (kz a1.length) (kz a1.length)) (kz a1.length)))) (by kernel_rfl) (by kernel_rfl) (OI (by kernel_rfl) ?_);exact FW (by kernel_rfl) (by kernel_rfl)
def qL7 (r:Ring):V:=va [ci r.Z,.own 0 0 3 r.Read.length]
def qMz (r:Ring):List (Nat×(Nat×O)):=[(0,ro 0 73 3 r.Read.length (rf qH r.Read))]
theorem qDS (a1:Ring) (r:Ring) (hm:GB a1=some r):CtX Tryz.prog globs 132 0 0 [.agg (qM a1)] [] (qL7 r) (qMz r):=by
 unfold GB at hm;refine q_E f132 9 λE=>?_;refine s_vn [] 0 ⟨[(1,vp 0 0),(2,vp 1 0)],[(0,bx 45 (qM a1)),(1,bx 45 [ci 0,.emp])]⟩ ?_;obtain⟨v2,h3,hm⟩:=qE hm;refine s_du [qc 4 [6] 2 (UV a1.Read v2 h3)] [0,1,0,4,12,31,63] 2 [1] [] [0,1] [(1,bx 45 [ci a1.Z,.own 2 0 3 v2.length]),(2,ro 0 73 3 v2.length (rf qH v2))] ?_;obtain rfl:=oi hm;exact q_sw 2 0 (q_rt q_rm)
def qH6 (r:(List Int)):V:=vo 0 0 1 r.length
def qHR (r:(List Int)):List (Nat×(Nat×O)):=[(0,ro 0 3 1 r.length (rf qO r))]
def AH (a1:Ring) (x3:Int) (l8:List Int) (l8n:Nat):St:=
 ⟨[(3,vo 1 0 1 l8n),(7,vc (tl qH dd a1.Read)),(8,vi (a1.Read.length:Int)),(9,vi x3)],[(1,ro 0 3 1 l8n (rf qO l8))]⟩
def VC (a1:Ring) (l2:List Int) (l2n:Nat) (x3:Int):St:=
 ⟨[(3,vo 1 0 1 l2n),(7,vc (tl qH dd a1.Read)),(8,vi (a1.Read.length:Int)),(9,vi x3)],[(1,ro 0 3 1 l2n (rf qO l2))]⟩
def AZ (l9:List Int):St:=
 ⟨[(3,vo 1 0 1 l9.length)],[(1,ro 0 3 1 l9.length (rf qO l9))]⟩
theorem qEh (E:Env 0) (a1:Ring):∀(n:Nat) (l2:List Int) (l2n:Nat) (x3:Int) (res:(List Int)),l2.length=l2n->jD a1 n l2 x3=some res->HL (kx E 22 0) (nd f71 116) (zS 0 AZ res) n (VC a1 l2 l2n x3):=by
 intro n
 induction n with
 |zero=>
  intro l2 l2n x3 res hl0 hm;cases hm
 |succ n ih=>
  intro l2 l2n x3 res hl0 hm;subst hl0;refine qS (s_va 2 [(10,vb (decide (x3<(a1.Read.length:Int))))] ?_);refine q_sq (q_cq hm (λhm=>?_) (λhm=>?_))
  ·refine q_sk (q_jn (ι:=(List Int)×Nat) (λp=>AH a1 x3 p.1 p.2) (λp=>p.1.length=p.2/\PH x3 (jD a1 n) p.1=some res) ?_ ?_)
   ·rintro⟨l8,l8n⟩ ⟨el8,hm⟩;replace el8:l8.length=l8n:=el8;subst el8;show H _ (AH a1 x3 l8 l8.length) _ _;exact q_vv [] 4 [9] [(9,vi (w64 (x3+1)))] (q_hl (VC a1 l8 l8.length (w64 (x3+1))) (ih l8 l8.length (w64 (x3+1)) _ rfl hm))
   ·refine q_bk 1 ?_;obtain⟨g5,hm⟩:=qK hm;refine s_vu [qi 1 g5] 2 [10] [(4,vi x3),(5,vp 2 0)] [] [(2,bx 73 (qH (a1.Read.getD x3.toNat dd)))] (s_vu [] 3 [5] [(15,vb ((a1.Read.getD x3.toNat dd).Ok))] [2] [] ?_);refine q_cq hm (λhm=>?_) (λhm=>?_)
    ·obtain⟨g7,hm⟩:=qK hm;exact q_vu [qd 2 (drw 3 0 (rf qO [x3])) (litP qO dd 1 (λ_=>rfl) ([x3]:List Int) 1 rfl),qd 3 (drw 1 1 (rf qO (l2++[x3]))) (apP qO dd l2 ([x3]:List Int) l2.length 1 1 8 (1<=1) (kr _) rfl rfl (λ_=>rfl) (zW g7))] 3 [3,4,15] [(3,vo 1 1 1 (l2.length+1))] [1] [(1,ro 1 3 1 (l2.length+1) (rf qO (l2++[x3])))] (q_J ((l2++[x3]),(l2.length+1)) ⟨(wN rfl rfl),hm⟩)
    ·exact q_sk (q_J (l2,l2.length) ⟨rfl,hm⟩)
  ·refine q_ex 0 ?_;obtain rfl:=oi hm;exact q_l0
theorem BT (a1:Ring) (r:(List Int)) (hm:ZW a1=some r):CtX Tryz.prog globs 71 0 0 [.agg (qM a1)] [] (qH6 r) (qHR r):=by
 unfold ZW at hm;refine q_E f71 22 λE=>?_;refine s_vn [] 0 ⟨[(1,vp 0 0)],[(0,bx 45 (qM a1))]⟩ (s_va 1 [(3,vc (.emp))] ?_);refine q_sq (s_vu [] 1 [1] [(7,vc (tl qH dd a1.Read)),(8,vi (a1.Read.length:Int)),(9,vi 0)] [0] [] ?_);refine q_fo 3 1 3 1 qO ?_;obtain⟨o10,h11,hm⟩:=qE hm;refine zL (nd f71 116) 0 (by kernel_rfl) FUEL AZ o10 (q_hl (VC a1 ([]:List Int) 0 0) (qEh E a1 FUEL ([]:List Int) 0 0 o10 rfl h11)) (s_vv [] 2 [3] [(2,vo 1 0 1 o10.length)] ?_);obtain rfl:=oi hm;exact q_sw 1 0 (q_rt q_rm)
open Go.Proofs Go.Proofs.Tryz
def qMo (r:Ring):V:=va [ci r.Z,.own 0 0 3 r.Read.length]
def qMJ (r:Ring):List (Nat×(Nat×O)):=[(0,ro 0 73 3 r.Read.length (rf qH r.Read))]
def WC (a1:Ring) (a2:Int) (v5:(List Int)) (x13:Int):St:=
 ⟨[(1,vi a2),(2,vp 0 0),(4,vp 1 0),(5,vp 3 0),(6,vo 4 0 1 v5.length),(30,vo 4 0 1 v5.length),(31,vi (v5.length:Int)),(32,vi x13)],[(0,bx 45 (qM a1)),(1,bx 45 [ci 0,.emp]),(4,ro 0 3 1 v5.length (rf qO v5))]⟩
def qIJ (a1:Ring) (a2:Int) (v3:Ring) (v5:(List Int)) (x13:Int) (l14:List qD) (x18:Int) (x28:Bool):St:=
 (WC a1 a2 v5 x13).up [] [(7,vi x13),(8,vi (v5.getD x13.toNat dd)),(9,vb x28),(37,va [ci (-1),ci 1]),(38,vi x18)] [] [(2,ro 0 73 3 l14.length (rf qH l14)),(3,bx 45 [ci v3.Z,.own 2 0 3 l14.length])]
def LP (a1:Ring) (a2:Int) (v3:Ring) (v5:(List Int)) (x13:Int) (l14:List qD) (x17:Bool) (x18:Int):St:=
 (WC a1 a2 v5 x13).up [] [(7,vi x13),(8,vi (v5.getD x13.toNat dd)),(9,vb x17),(37,va [ci (-1),ci 1]),(38,vi x18)] [] [(2,ro 0 73 3 l14.length (rf qH l14)),(3,bx 45 [ci v3.Z,.own 2 0 3 l14.length])]
def qA6 (a1:Ring) (a2:Int) (v3:Ring) (v5:(List Int)) (x13:Int) (l14:List qD) (x29:Bool):St:=
 (WC a1 a2 v5 x13).up [] [(8,vi (v5.getD x13.toNat dd)),(9,vb x29)] [] [(2,ro 0 73 3 l14.length (rf qH l14)),(3,bx 45 [ci v3.Z,.own 2 0 3 l14.length])]
def qBx (a1:Ring) (a2:Int) (v3:Ring) (v5:(List Int)) (x13:Int) (l34:List qD) (l34n:Nat):St:=
 (WC a1 a2 v5 x13).up [] [] [] [(2,ro 0 73 3 l34n (rf qH l34)),(3,bx 45 [ci v3.Z,.own 2 0 3 l34n])]
def LM (a1:Ring) (a2:Int) (v3:Ring) (v5:(List Int)) (x13:Int) (l14:List qD) (l14n:Nat):St:=
 (WC a1 a2 v5 x13).up [] [] [] [(2,ro 0 73 3 l14n (rf qH l14)),(3,bx 45 [ci v3.Z,.own 2 0 3 l14n])]
def qBu (v3:Ring) (l35:List qD):St:=
 ⟨[(4,vp 1 0),(5,vp 3 0)],[(1,bx 45 [ci 0,.emp]),(2,ro 0 73 3 l35.length (rf qH l35)),(3,bx 45 [ci v3.Z,.own 2 0 3 l35.length])]⟩
def qHS (a1:Ring) (a2:Int) (v3:Ring) (v5:(List Int)) (x11:Bool):St:=
 ⟨[(1,vi a2),(2,vp 0 0),(4,vp 1 0),(5,vp 3 0),(6,vo 4 0 1 v5.length),(28,vb x11)],[(0,bx 45 (qM a1)),(1,bx 45 [ci 0,.emp]),(2,ro 0 73 3 v3.Read.length (rf qH v3.Read)),(3,bx 45 [ci v3.Z,.own 2 0 3 v3.Read.length]),(4,ro 0 3 1 v5.length (rf qO v5))]⟩
theorem qG1 (E:Env 0) (a1:Ring) (a2:Int) (v3:Ring) (v5:(List Int)) (x13:Int) (l14:List qD):∀(n:Nat) (x17:Bool) (x18:Int) (res:Bool),wZ a1 a2 v5 x13 n x17 x18=some res->HL (kx E 79 0) (nd f91 512820) (zS 2 (λo=>qA6 a1 a2 v3 v5 x13 l14 o) res) n (LP a1 a2 v3 v5 x13 l14 x17 x18):=by
 intro n
 induction n with
 |zero=>
  intro x17 x18 res hm;cases hm
 |succ n ih=>
  intro x17 x18 res hm;refine qS (s_va 5 [(39,vb (decide (x18<2)))] ?_);refine q_sq (q_cq hm (λhm=>?_) (λhm=>?_))
  ·refine q_sk (q_jn (qIJ a1 a2 v3 v5 x13 l14 x18) (λp=>BC x18 (wZ a1 a2 v5 x13 n) p=some res) ?_ ?_)
   ·rintro x28 hm;exact q_vv [] 6 [38] [(38,vi (w64 (x18+1)))] (q_hl (LP a1 a2 v3 v5 x13 l14 x28 (w64 (x18+1))) (ih x28 (w64 (x18+1)) _ hm))
   ·refine q_bk 3 ?_;obtain⟨g20,hm⟩:=qK hm;refine s_vv [qi 0 g20] 5 [39] [(11,vi (([(-1),1]:List Int).getD x18.toNat 0))] ?_;obtain⟨g21,hm⟩:=qK hm;obtain⟨g22,hm⟩:=qK hm;obtain⟨g23,hm⟩:=qK hm;refine s_du [qd 11 dN (OF g21),qi 12 g22,qd 13 dN (qW (zG g22)),qi 14 g23] [0,1,0,0,0,16,56,0,248,0,512,2040,4092,8188,16383,32767,65535,0,262143] 5 [11] [(12,vp 5 0)] [] [(5,bx 71 (qC ((a1.Read.getD (v5.getD ((Int.tmod (w64 ((w64 (x13+(v5.length:Int)))+(([(-1),1]:List Int).getD x18.toNat 0))) (v5.length:Int)).toNat) dd).toNat dd).P)))] ?_;rcases bif_c hm with⟨b24,hm⟩|⟨b24,hm⟩
    ·obtain⟨g25,hm⟩:=qK hm;obtain⟨v26,h27,hm⟩:=qE hm
     refine q_du [qf 1 b24,qi 5 g25,qk 10 [59,65,66,67] 6 ⟨[(59,vb true),(65,va [ci (((a1.Read.getD (v5.getD x13.toNat dd).toNat dd).P).X),ci (((a1.Read.getD (v5.getD x13.toNat dd).toNat dd).P).Y)]),(66,va [ci (((a1.Read.getD (v5.getD ((Int.tmod (w64 ((w64 (x13+(v5.length:Int)))+(([(-1),1]:List Int).getD x18.toNat 0))) (v5.length:Int)).toNat) dd).toNat dd).P).X),ci (((a1.Read.getD (v5.getD ((Int.tmod (w64 ((w64 (x13+(v5.length:Int)))+(([(-1),1]:List Int).getD x18.toNat 0))) (v5.length:Int)).toNat) dd).toNat dd).P).Y)]),(67,vi a2)],[]⟩ (qNO ((a1.Read.getD (v5.getD x13.toNat dd).toNat dd).P) ((a1.Read.getD (v5.getD ((Int.tmod (w64 ((w64 (x13+(v5.length:Int)))+(([(-1),1]:List Int).getD x18.toNat 0))) (v5.length:Int)).toNat) dd).toNat dd).P) a2 v26 h27)] [0,1,3,7,3,31,63,127,3,3,1023,2047,4095] 6 [9,12] [(9,vb v26)] [5] [] ?_
     exact q_J (v26) hm
    ·exact q_du [qf 1 b24] [0,1,3,7,3,31,63,127,3,3,1023,2047,4095] 6 [9,12] [(9,vb false)] [5] [] (q_J (false) hm)
  ·refine q_ex 2 ?_;obtain rfl:=oi hm;exact q_l0
theorem qGI (E:Env 0) (a1:Ring) (a2:Int) (v3:Ring) (v5:(List Int)):∀(n:Nat) (x13:Int) (l14:List qD) (l14n:Nat) (res:(List qD)),l14.length=l14n->QC a1 a2 v5 n x13 l14=some res->HL (kx E 79 0) (nd f91 500) (zS 0 (λo=>qBu v3 o) res) n (LM a1 a2 v3 v5 x13 l14 l14n):=by
 intro n
 induction n with
 |zero=>
  intro x13 l14 l14n res hl0 hm;cases hm
 |succ n ih=>
  intro x13 l14 l14n res hl0 hm;subst hl0;refine qS (s_va 5 [(33,vb (decide (x13<(v5.length:Int))))] ?_);refine q_sq (q_cq hm (λhm=>?_) (λhm=>?_))
  ·refine q_sk (q_jn (ι:=(List qD)×Nat) (λp=>qBx a1 a2 v3 v5 x13 p.1 p.2) (λp=>p.1.length=p.2/\DY x13 (QC a1 a2 v5 n) p.1=some res) ?_ ?_)
   ·rintro⟨l34,l34n⟩ ⟨el34,hm⟩;replace el34:l34.length=l34n:=el34;subst el34;show H _ (qBx a1 a2 v3 v5 x13 l34 l34.length) _ _;exact q_vv [] 5 [32] [(32,vi (w64 (x13+1)))] (q_hl (LM a1 a2 v3 v5 (w64 (x13+1)) l34 l34.length) (ih (w64 (x13+1)) l34 l34.length _ rfl hm))
   ·refine q_bk 1 ?_;obtain⟨g16,hm⟩:=qK hm;refine s_vv [qi 1 g16,qd 2 dN (qW (zG g16))] 5 [33] [(7,vi x13),(8,vi (v5.getD x13.toNat dd))] (s_va 5 [(9,vb true)] ?_);refine q_sq (s_va 5 [(37,va [ci (-1),ci 1]),(38,vi 0)] ?_);obtain⟨o30,h31,hm⟩:=qE hm;refine zL (nd f91 512820) 2 (by kernel_rfl) FUEL (λo=>qA6 a1 a2 v3 v5 x13 l14 o) o30 (q_hl (LP a1 a2 v3 v5 x13 l14 true 0) (qG1 E a1 a2 v3 v5 x13 l14 FUEL true 0 o30 h31)) (s_vv [] 5 [9] [(71,vb o30)] ?_);refine q_cq hm (λhm=>?_) (λhm=>?_)
    ·obtain⟨g33,hm⟩:=qK hm;exact q_vu [qi 4 g33,qd 5 (drw 0 0 (rf qH (l14.set ((v5.getD x13.toNat dd).toNat) (qD.mk (qA.mk 0 0) false)))) (stP qH dd (qD.mk (qA.mk 0 0) false) l14 l14.length ((v5.getD x13.toNat dd).toNat) 0 [ci 0,ci 0,cb false] rfl (qW (zG g33)) rfl)] 5 [8,71] [] [2] [(2,ro 0 73 3 l14.length (rf qH (l14.set ((v5.getD x13.toNat dd).toNat) (qD.mk (qA.mk 0 0) false))))] (q_J ((l14.set ((v5.getD x13.toNat dd).toNat) (qD.mk (qA.mk 0 0) false)),l14.length) ⟨(QT rfl),hm⟩)
    ·exact q_sk (q_J (l14,l14.length) ⟨rfl,hm⟩)
  ·refine q_ex 0 ?_;obtain rfl:=oi hm;exact q_l0
theorem qKo (a1:Ring) (a2:Int) (r:Ring) (hm:FO a1 a2=some r):CtX Tryz.prog globs 91 0 0 [.agg (qM a1),.one (ci a2)] [] (qMo r) (qMJ r):=by
 unfold FO at hm;refine q_E f91 79 λE=>?_;refine s_vn [] 0 ⟨[(1,vi a2),(2,vp 0 0),(4,vp 1 0)],[(0,bx 45 (qM a1)),(1,bx 45 [ci 0,.emp])]⟩ ?_;obtain⟨v3,h4,hm⟩:=qE hm;refine s_vu [qc 1 [13] 2 (qDS a1 v3 h4)] 2 [] [(5,vp 3 0)] [] [(2,ro 0 73 3 v3.Read.length (rf qH v3.Read)),(3,bx 45 [ci v3.Z,.own 2 0 3 v3.Read.length])] ?_;obtain⟨v5,h6,hm⟩:=qE hm;refine s_vu [qc 1 [15] 4 (BT a1 v5 h6)] 4 [] [(6,vo 4 0 1 v5.length)] [] [(4,ro 0 3 1 v5.length (rf qO v5))] (q_sq ?_);refine q_jn (qHS a1 a2 v3 v5) (λp=>RM a1 a2 v3 v5 p=some r) ?_ ?_
 ·rintro x11 hm;refine q_cq hm (λhm=>?_) (λhm=>?_)
  ·refine s_vu [] 5 [1,2,5,6,28] [] [0,1,3,4] [(1,bx 45 [ci v3.Z,.own 2 0 3 v3.Read.length])] ?_;obtain rfl:=oi hm;exact q_sw 2 0 (q_rt q_rm)
  ·refine q_sk (q_sq ?_);refine s_vv [] 5 [28] [(30,vo 4 0 1 v5.length),(31,vi (v5.length:Int)),(32,vi 0)] ?_;obtain⟨o36,h37,hm⟩:=qE hm;refine zL (nd f91 500) 0 (by kernel_rfl) FUEL (λo=>qBu v3 o) o36 (q_hl (LM a1 a2 v3 v5 0 v3.Read v3.Read.length) (qGI E a1 a2 v3 v5 FUEL 0 v3.Read v3.Read.length o36 rfl h37)) (s_vu [] 5 [5] [] [1,3] [(1,bx 45 [ci v3.Z,.own 2 0 3 o36.length])] ?_);obtain rfl:=oi hm;exact q_sw 2 0 (q_rt q_rm)
 ·rcases bif_c hm with⟨b7,hm⟩|⟨b7,hm⟩
  ·exact q_vv [qf 2 b7] 5 [] [(28,vb true)] (q_J (true) hm)
  ·rcases bif_c hm with⟨b8,hm⟩|⟨b8,hm⟩
   ·exact q_vv [qf 2 b7,qf 7 b8] 5 [] [(28,vb true)] (q_J (true) hm)
   ·obtain⟨v9,h10,hm⟩:=qE hm;exact q_vv [qf 2 b7,qf 7 b8,qk 9 [24,25] 5 ⟨[(24,vb false),(25,va (qM a1))],[]⟩ (DV a1 v9 h10)] 5 [] [(28,vb (v9 !=0))] (q_J (v9 !=0) hm)
def qMD (r:Int):V:=vi r
def qMk (r:Int):List (Nat×(Nat×O)):=[]
def qHn (x5:Int):St:=
 ⟨[(5,vi x5)],[]⟩
theorem qDO (a1:Int) (a2:Int) (r:Int) (hm:VX a1 a2=some r):CtX Tryz.prog globs 145 0 0 [.one (ci a1),.one (ci a2)] [] (qMD r) (qMk r):=by
 unfold VX at hm;refine q_E f145 16 λE=>?_;refine s_vn [] 0 ⟨[(0,vi a1),(1,vi a2)],[]⟩ ?_;obtain⟨g3,hm⟩:=qK hm;refine s_vv [qd 2 dN (OF g3)] 0 [] [(5,vi (w64 (Int.tdiv a1 a2)))] (q_jn (qHn) (λp=>BG p=some r) ?_ ?_)
 ·rintro x5 hm;refine s_vn [] 0 ⟨[(4,vi x5)],[]⟩ ?_;obtain rfl:=oi hm;exact q_rt q_rm
 ·refine s_vv [qd 2 dN (OF g3)] 0 [0,1] [(12,vb (decide ((Int.tmod a1 a2)<0)))] (q_cq hm (λhm=>?_) (λhm=>?_))
  ·exact q_vn [] 0 ⟨[(5,vi (w64 ((w64 (Int.tdiv a1 a2))-1)))],[]⟩ (q_J (w64 ((w64 (Int.tdiv a1 a2))-1)) hm)
  ·exact q_sk (q_J (w64 (Int.tdiv a1 a2)) hm)
def IH (r:Int):V:=vi r
def RN (r:Int):List (Nat×(Nat×O)):=[]
theorem qDX (r:Int):QM (RN r):=by
 intro i k o h;unfold RN at h;cases h
theorem qCu (a1:Ring) (a2:List Int) (a3:Int) (r:Int) (hm:TF a1 a2 a3=some r):CtX Tryz.prog globs 72 0 0 [.agg (qM a1),.one (tl qO dd a2),.one (ci a3)] [] (IH r) (RN r):=by
 unfold TF at hm;refine q_E f72 36 λE=>?_;refine s_vn [] 0 ⟨[(1,vc (tl qO dd a2)),(2,vi a3),(3,vp 0 0)],[(0,bx 45 (qM a1))]⟩ (q_sq ?_);refine s_va 1 [(11,vb (decide ((w64 (a3+1))<(a2.length:Int))))] (q_cq hm (λhm=>?_) (λhm=>?_))
 ·obtain⟨g5,hm⟩:=qK hm;obtain⟨g6,hm⟩:=qK hm;refine s_dn [qi 3 g5,qi 7 g6] [0,0,2,7,15,0,0,96,224,511,1023,2047] 1 ⟨[(6,vi (w64 ((w64 ((a2.getD (w64 (a3+1)).toNat dd)-(a2.getD a3.toNat dd)))-1)))],[]⟩ ?_;obtain rfl:=oi hm;exact q_rt q_rm
 ·refine q_sk ?_;obtain⟨g7,hm⟩:=qK hm;obtain⟨g8,hm⟩:=qK hm;refine s_dn [qi 1 g7,qi 9 g8] [0,1,3,0,8,24,63,0,0,384,896,2047,4095,8191] 1 ⟨[(6,vi (w64 ((w64 ((w64 ((a2.getD (0:Int).toNat dd)+(a1.Read.length:Int)))-(a2.getD a3.toNat dd)))-1)))],[]⟩ ?_;obtain rfl:=oi hm;exact q_rt q_rm
open Go.Proofs Go.Proofs.Tryz
def qNu (r:Int×Int):V:= .tup [.one (ci r.1),.one (ci r.2)]
def qNy (r:Int×Int):List (Nat×(Nat×O)):=[]
def SM (a1:Ring) (v2:(List Int)) (x5:Int) (x6:Int):St:=
 ⟨[(1,vp 0 0),(4,vo 1 0 1 v2.length),(5,vi (w64 ((a1.Read.length:Int)-(v2.length:Int)))),(6,vi x5),(22,vi (v2.length:Int)),(23,vi x6)],[(0,bx 45 (qM a1)),(1,ro 0 3 1 v2.length (rf qO v2))]⟩
def qCq (a1:Ring) (v2:(List Int)) (x10:Int):St:=
 ⟨[(5,vi (w64 ((a1.Read.length:Int)-(v2.length:Int)))),(6,vi x10)],[]⟩
theorem qHq (E:Env 0) (a1:Ring) (v2:(List Int)):∀(n:Nat) (x5:Int) (x6:Int) (res:Int),KZ a1 v2 n x5 x6=some res->HL (kx E 35 0) (nd f32 1012) (zS 0 (λo=>qCq a1 v2 o) res) n (SM a1 v2 x5 x6):=by
 intro n
 induction n with
 |zero=>
  intro x5 x6 res hm;cases hm
 |succ n ih=>
  intro x5 x6 res hm;refine qS (s_va 2 [(24,vb (decide (x6<(v2.length:Int))))] ?_);refine q_sq (q_cq hm (λhm=>?_) (λhm=>?_))
  ·refine q_sk (q_sq ?_);refine q_bk 1 (s_vv [] 2 [24] [(7,vi x6)] ?_);obtain⟨v8,h9,hm⟩:=qE hm;refine q_vv [qd 4 (dex (cen [] [] 2 0 (IH v8) (RN v8) [27,28,29] [1])) (zK (K:=(kx E 35 0)) (b:=false) ⟨[(27,va (qM a1)),(28,vo 1 0 1 v2.length),(29,vi x6)],[(1,ro 0 3 1 v2.length (rf qO v2))]⟩ (opAt (rg f32 32409) 4) [] [] 2 (o1 (kr v2.length)) rfl (qCu a1 v2 x6 v8 h9) (.inr ⟨(by kernel_rfl),qDX v8⟩) (by kernel_rfl))] 2 [6,7] [(6,vi (imax x5 v8))] (q_vv [] 2 [23] [(23,vi (w64 (x6+1)))] ?_);exact q_hl (SM a1 v2 (imax x5 v8) (w64 (x6+1))) (ih (imax x5 v8) (w64 (x6+1)) _ hm)
  ·refine q_ex 0 ?_;obtain rfl:=oi hm;exact q_l0
theorem qMc (a1:Ring) (r:Int×Int) (hm:NP a1=some r):CtX Tryz.prog globs 32 0 0 [.agg (qM a1)] [] (qNu r) (qNy r):=by
 unfold NP at hm;refine q_E f32 35 λE=>?_;refine s_vn [] 0 ⟨[(1,vp 0 0)],[(0,bx 45 (qM a1))]⟩ ?_;obtain⟨v2,h3,hm⟩:=qE hm;refine s_vu [qc 1 [8] 1 (BT a1 v2 h3)] 1 [] [(4,vo 1 0 1 v2.length)] [] [(1,ro 0 3 1 v2.length (rf qO v2))] (s_va 2 [(5,vi (w64 ((a1.Read.length:Int)-(v2.length:Int))))] ?_);refine q_sq (s_va 2 [(18,vb ((v2.length:Int)==0))] ?_);refine q_cq hm (λhm=>?_) (λhm=>?_)
 ·refine s_vn [] 2 ⟨[(2,vi (w64 ((a1.Read.length:Int)-(v2.length:Int)))),(3,vi (w64 ((a1.Read.length:Int)-(v2.length:Int))))],[]⟩ ?_;obtain rfl:=oi hm;exact q_rt q_rm
 ·refine q_sk (s_vv [] 2 [18] [(6,vi 0)] ?_);refine q_sq (s_va 2 [(22,vi (v2.length:Int)),(23,vi 0)] ?_);obtain⟨o11,h12,hm⟩:=qE hm;refine zL (nd f32 1012) 0 (by kernel_rfl) FUEL (λo=>qCq a1 v2 o) o11 (q_hl (SM a1 v2 0 0) (qHq E a1 v2 FUEL 0 0 o11 h12)) (s_vn [] 2 ⟨[(2,vi (w64 ((a1.Read.length:Int)-(v2.length:Int)))),(3,vi o11)],[]⟩ ?_);obtain rfl:=oi hm;exact q_rt q_rm
def qD0 (r:(List qA)×Int):V:= .tup [.one (.own 0 0 2 r.1.length),.one (ci r.2)]
def BJ (r:(List qA)×Int):List (Nat×(Nat×O)):=[(0,ro 0 71 2 r.1.length (rf qC r.1))]
theorem qKQ (r:(List qA)×Int):QM (BJ r):=by
 intro i k o h;unfold BJ at h;rw[look_cons] at h;split at h
 ·cases h;exact λ_ _=>rfl
 ·cases h
def UP (a1:Ring) (v6:(List Int)) (x16:Int):St:=
 ⟨[(2,vp 0 0),(7,vo 1 0 1 v6.length),(45,vo 1 0 1 v6.length),(46,vi (v6.length:Int)),(47,vi x16)],[(0,bx 45 (qM a1)),(1,ro 0 3 1 v6.length (rf qO v6))]⟩
def BW (a1:Ring) (v6:(List Int)) (x16:Int) (v24:Int) (l26:List qA) (l26n:Nat) (x27:Int):St:=
 (UP a1 v6 x16).up [] [(10,vo 2 0 2 l26n),(12,vi (v6.getD x16.toNat dd)),(13,vp 3 0),(14,vp 4 0),(15,vi v24),(16,vi x27)] [] [(2,ro 0 71 2 l26n (rf qC l26)),(3,bx 71 (qC ((a1.Read.getD (v6.getD x16.toNat dd).toNat dd).P))),(4,bx 71 (qC ((a1.Read.getD (v6.getD ((Int.tmod (w64 (x16+1)) (v6.length:Int)).toNat) dd).toNat dd).P)))]
def CN (a1:Ring) (v6:(List Int)) (x16:Int) (l35:List qA):St:=
 (UP a1 v6 x16).up [] [(10,vo 2 0 2 l35.length)] [] [(2,ro 0 71 2 l35.length (rf qC l35))]
def NE (a1:Ring) (v6:(List Int)) (l15:List qA) (l15n:Nat) (x16:Int):St:=
 (UP a1 v6 x16).up [] [(10,vo 2 0 2 l15n)] [] [(2,ro 0 71 2 l15n (rf qC l15))]
def qAC (l38:List qA):St:=
 ⟨[(10,vo 2 0 2 l38.length)],[(2,ro 0 71 2 l38.length (rf qC l38))]⟩
def qGG (a1:Ring) (v6:(List Int)) (x12:Bool):St:=
 ⟨[(2,vp 0 0),(7,vo 1 0 1 v6.length),(40,vb x12)],[(0,bx 45 (qM a1)),(1,ro 0 3 1 v6.length (rf qO v6))]⟩
theorem qFO (E:Env 0) (a1:Ring) (v6:(List Int)) (x16:Int) (v24:Int):∀(n:Nat) (l26:List qA) (l26n:Nat) (x27:Int) (res:(List qA)),l26.length=l26n->WO a1 v6 x16 v24 n l26 x27=some res->HL (kx E 121 0) (nd f90 4171388) (zS 2 (λo=>CN a1 v6 x16 o) res) n (BW a1 v6 x16 v24 l26 l26n x27):=by
 intro n
 induction n with
 |zero=>
  intro l26 l26n x27 res hl0 hm;cases hm
 |succ n ih=>
  intro l26 l26n x27 res hl0 hm;subst hl0;refine qS (q_sq ?_);refine s_va 5 [(81,vb (decide (x27<=v24)))] (q_cq hm (λhm=>?_) (λhm=>?_))
  ·refine q_sk (q_sq ?_);refine q_bk 3 ?_;obtain⟨g29,hm⟩:=qK hm;obtain⟨v30,h31,hm⟩:=qE hm;obtain⟨v32,h33,hm⟩:=qE hm;obtain⟨g34,hm⟩:=qK hm
   refine q_du [qd 6 dN (OF g29),qc 18 [99,101] 5 (qDO (w64 ((w64 ((((a1.Read.getD (v6.getD ((Int.tmod (w64 (x16+1)) (v6.length:Int)).toNat) dd).toNat dd).P).X)-(((a1.Read.getD (v6.getD x16.toNat dd).toNat dd).P).X)))*x27)) (w64 (v24+1)) v30 h31),qc 31 [112,114] 5 (qDO (w64 ((w64 ((((a1.Read.getD (v6.getD ((Int.tmod (w64 (x16+1)) (v6.length:Int)).toNat) dd).toNat dd).P).Y)-(((a1.Read.getD (v6.getD x16.toNat dd).toNat dd).P).Y)))*x27)) (w64 (v24+1)) v32 h33),qi 34 g34,qd 35 (drw 0 0 (rf qC (l26.set ((Int.tmod (w64 ((v6.getD x16.toNat dd)+x27)) (l26.length:Int)).toNat) (qA.mk (w64 ((((a1.Read.getD (v6.getD x16.toNat dd).toNat dd).P).X)+v30)) (w64 ((((a1.Read.getD (v6.getD x16.toNat dd).toNat dd).P).Y)+v32)))))) (stP qC dd (qA.mk (w64 ((((a1.Read.getD (v6.getD x16.toNat dd).toNat dd).P).X)+v30)) (w64 ((((a1.Read.getD (v6.getD x16.toNat dd).toNat dd).P).Y)+v32))) l26 l26.length ((Int.tmod (w64 ((v6.getD x16.toNat dd)+x27)) (l26.length:Int)).toNat) 0 [ci (w64 ((((a1.Read.getD (v6.getD x16.toNat dd).toNat dd).P).X)+v30)),ci (w64 ((((a1.Read.getD (v6.getD x16.toNat dd).toNat dd).P).Y)+v32))] rfl (qW (zG g34)) rfl)] [0,0,0,6,0,16,62,0,128,0,512,0,2048,7680,0,32256,0,65536,261632,524160,0,1048576,0,4194304,0,16777216,62914560,0,264241152,0,536870912,2143813120,4294442496,8589934464,17179869183,34359738367] 5 [81] [] [2] [(2,ro 0 71 2 l26.length (rf qC (l26.set ((Int.tmod (w64 ((v6.getD x16.toNat dd)+x27)) (l26.length:Int)).toNat) (qA.mk (w64 ((((a1.Read.getD (v6.getD x16.toNat dd).toNat dd).P).X)+v30)) (w64 ((((a1.Read.getD (v6.getD x16.toNat dd).toNat dd).P).Y)+v32))))))] ?_
   exact q_vv [] 5 [16] [(16,vi (w64 (x27+1)))] (q_hl (BW a1 v6 x16 v24 (l26.set ((Int.tmod (w64 ((v6.getD x16.toNat dd)+x27)) (l26.length:Int)).toNat) (qA.mk (w64 ((((a1.Read.getD (v6.getD x16.toNat dd).toNat dd).P).X)+v30)) (w64 ((((a1.Read.getD (v6.getD x16.toNat dd).toNat dd).P).Y)+v32)))) l26.length (w64 (x27+1))) (ih (l26.set ((Int.tmod (w64 ((v6.getD x16.toNat dd)+x27)) (l26.length:Int)).toNat) (qA.mk (w64 ((((a1.Read.getD (v6.getD x16.toNat dd).toNat dd).P).X)+v30)) (w64 ((((a1.Read.getD (v6.getD x16.toNat dd).toNat dd).P).Y)+v32)))) l26.length (w64 (x27+1)) _ (QT rfl) hm))
  ·refine q_ex 2 ?_;obtain rfl:=oi hm;exact q_l0
theorem qFQ (E:Env 0) (a1:Ring) (v6:(List Int)):∀(n:Nat) (l15:List qA) (l15n:Nat) (x16:Int) (res:(List qA)),l15.length=l15n->QX a1 v6 n l15 x16=some res->HL (kx E 121 0) (nd f90 2036) (zS 0 qAC res) n (NE a1 v6 l15 l15n x16):=by
 intro n
 induction n with
 |zero=>
  intro l15 l15n x16 res hl0 hm;cases hm
 |succ n ih=>
  intro l15 l15n x16 res hl0 hm;subst hl0;refine qS (s_va 3 [(48,vb (decide (x16<(v6.length:Int))))] ?_);refine q_sq (q_cq hm (λhm=>?_) (λhm=>?_))
  ·refine q_sk (q_sq ?_);refine q_bk 1 ?_;obtain⟨g18,hm⟩:=qK hm;refine s_vv [qi 1 g18,qd 2 dN (qW (zG g18))] 3 [48] [(11,vi x16),(12,vi (v6.getD x16.toNat dd))] ?_;obtain⟨g19,hm⟩:=qK hm;obtain⟨g20,hm⟩:=qK hm;obtain⟨g21,hm⟩:=qK hm;obtain⟨g22,hm⟩:=qK hm
   refine s_du [qi 3 g19,qd 13 dN (OF g20),qi 14 g21,qd 15 dN (qW (zG g21)),qi 16 g22] [0,1,0,7,15,31,0,64,0,0,512,0,2048,7680,16128,32512,65472,131008,262080,0,0,1572927,4194303] 3 [] [(13,vp 3 0),(14,vp 4 0)] [] [(3,bx 71 (qC ((a1.Read.getD (v6.getD x16.toNat dd).toNat dd).P))),(4,bx 71 (qC ((a1.Read.getD (v6.getD ((Int.tmod (w64 (x16+1)) (v6.length:Int)).toNat) dd).toNat dd).P)))] ?_;obtain⟨g23,hm⟩:=qK hm
   refine s_vu [qi 3 g23,qd 4 (drw 0 0 (rf qC (l15.set ((v6.getD x16.toNat dd).toNat) ((a1.Read.getD (v6.getD x16.toNat dd).toNat dd).P)))) (stP qC dd ((a1.Read.getD (v6.getD x16.toNat dd).toNat dd).P) l15 l15.length ((v6.getD x16.toNat dd).toNat) 0 [ci (((a1.Read.getD (v6.getD x16.toNat dd).toNat dd).P).X),ci (((a1.Read.getD (v6.getD x16.toNat dd).toNat dd).P).Y)] rfl (qW (zG g23)) rfl)] 5 [] [] [2] [(2,ro 0 71 2 l15.length (rf qC (l15.set ((v6.getD x16.toNat dd).toNat) ((a1.Read.getD (v6.getD x16.toNat dd).toNat dd).P))))] ?_;obtain⟨v24,h25,hm⟩:=qE hm
   refine s_vv [qd 3 (dex (cen [] [] 5 0 (IH v24) (RN v24) [75,76,77] [1])) (zK (K:=(kx E 121 0)) (b:=false) ⟨[(75,va (qM a1)),(76,vo 1 0 1 v6.length),(77,vi x16)],[(1,ro 0 3 1 v6.length (rf qO v6))]⟩ (opAt (rg f90 521422) 3) [] [] 5 (o1 (kr v6.length)) rfl (qCu a1 v6 x16 v24 h25) (.inr ⟨(by kernel_rfl),qDX v24⟩) (by kernel_rfl))] 5 [11] [(15,vi v24)] (s_va 5 [(16,vi 1)] ?_);obtain⟨o36,h37,hm⟩:=qE hm
   refine zL (nd f90 4171388) 2 (by kernel_rfl) FUEL (λo=>CN a1 v6 x16 o) o36 (q_hl (BW a1 v6 x16 v24 (l15.set ((v6.getD x16.toNat dd).toNat) ((a1.Read.getD (v6.getD x16.toNat dd).toNat dd).P)) l15.length 1) (qFO E a1 v6 x16 v24 FUEL (l15.set ((v6.getD x16.toNat dd).toNat) ((a1.Read.getD (v6.getD x16.toNat dd).toNat dd).P)) l15.length 1 o36 (QT rfl) h37)) (q_vv [] 5 [47] [(47,vi (w64 (x16+1)))] ?_);exact q_hl (NE a1 v6 o36 o36.length (w64 (x16+1))) (ih o36 o36.length (w64 (x16+1)) _ rfl hm)
  ·refine q_ex 0 ?_;obtain rfl:=oi hm;exact q_l0
theorem qJs (a1:Ring) (a2:Int) (r:(List qA)×Int) (hm:DK a1 a2=some r):CtX Tryz.prog globs 90 0 0 [.agg (qM a1),.one (ci a2)] [] (qD0 r) (BJ r):=by
 unfold DK at hm;refine q_E f90 121 λE=>?_;refine s_vn [] 0 ⟨[(1,vi a2),(2,vp 0 0)],[(0,bx 45 (qM a1))]⟩ (q_sq ?_);obtain⟨v3,h4,hm⟩:=qE hm;refine s_vv [qc 1 [17] 1 (DV a1 v3 h4)] 1 [] [(6,vi v3)] (s_va 1 [(20,vb (v3 !=0))] ?_);refine q_cq hm (λhm=>?_) (λhm=>?_)
 ·refine s_vn [] 1 ⟨[(4,vc (.emp)),(5,vi v3)],[]⟩ (q_fo 4 1 71 2 qC ?_);refine q_fl 4 1 71 2 qC ?_;obtain rfl:=oi hm;exact q_sw 1 0 (q_rt q_rm)
 ·refine q_sk ?_;obtain⟨v6,h7,hm⟩:=qE hm;refine s_vu [qc 1 [22] 1 (BT a1 v6 h7)] 1 [6,20] [(7,vo 1 0 1 v6.length)] [] [(1,ro 0 3 1 v6.length (rf qO v6))] ?_;obtain⟨v8,h9,hm⟩:=qE hm;refine s_vv [qc 1 [25] 2 (qMc a1 v8 h9)] 2 [] [(8,vi v8.1),(9,vi v8.2)] (q_sq ?_);refine q_jn (qGG a1 v6) (λp=>KI a1 v6 p=some r) ?_ ?_
  ·rintro x12 hm;refine q_cq hm (λhm=>?_) (λhm=>?_)
   ·refine s_vn [] 2 ⟨[(4,vc (.emp)),(5,vi 30)],[]⟩ (q_fo 4 2 71 2 qC ?_);refine q_fl 4 2 71 2 qC ?_;obtain rfl:=oi hm;exact q_sw 2 0 (q_rt q_rm)
   ·refine q_sk ?_;obtain⟨g14,hm⟩:=qK hm;refine s_vu [qd 3 (drw 2 0 (rf qC (List.replicate ((a1.Read.length:Int).toNat) (qA.mk 0 0)))) (mkP qC dd (qA.mk 0 0) (a1.Read.length:Int) 16 [ci 0,ci 0] (HK g14) rfl)] 2 [40] [(10,vo 2 0 2 ((a1.Read.length:Int).toNat))] [] [(2,ro 0 71 2 ((a1.Read.length:Int).toNat) (rf qC (List.replicate ((a1.Read.length:Int).toNat) (qA.mk 0 0))))] (q_sq ?_);refine s_va 3 [(45,vo 1 0 1 v6.length),(46,vi (v6.length:Int)),(47,vi 0)] ?_;obtain⟨o39,h40,hm⟩:=qE hm
    refine zL (nd f90 2036) 0 (by kernel_rfl) FUEL qAC o39 (q_hl (NE a1 v6 (List.replicate ((a1.Read.length:Int).toNat) (qA.mk 0 0)) ((a1.Read.length:Int).toNat) 0) (qFQ E a1 v6 FUEL (List.replicate ((a1.Read.length:Int).toNat) (qA.mk 0 0)) ((a1.Read.length:Int).toNat) 0 o39 MU h40)) (s_vv [] 3 [10] [(4,vo 2 0 2 o39.length),(5,vi 0)] ?_);obtain rfl:=oi hm;exact q_sw 2 0 (q_rt q_rm)
  ·rcases bif_c hm with⟨b10,hm⟩|⟨b10,hm⟩
   ·exact q_vv [qf 3 b10] 2 [1,8,9] [(40,vb true)] (q_J (true) hm)
   ·rcases bif_c hm with⟨b11,hm⟩|⟨b11,hm⟩
    ·exact q_vv [qf 3 b10,qf 6 b11] 2 [1,8,9] [(40,vb (decide (v8.2>a2)))] (q_J (decide (v8.2>a2)) hm)
    ·exact q_vv [qf 3 b10,qf 6 b11] 2 [1,8,9] [(40,vb false)] (q_J (false) hm)
def qKL (r:Bool):V:=vb r
def qKO (r:Bool):List (Nat×(Nat×O)):=[]
def qGW (x3:Bool):St:=
 ⟨[(2,vb x3)],[]⟩
theorem SD (a1:Int) (r:Bool) (hm:RU a1=some r):CtX Tryz.prog globs 120 0 0 [.one (ci a1)] [] (qKL r) (qKO r):=by
 unfold RU at hm;refine q_E f120 9 λE=>?_;refine s_vn [] 0 ⟨[(0,vi a1)],[]⟩ (q_jn (qGW) (λp=>VW p=some r) ?_ ?_)
 ·rintro x3 hm;obtain rfl:=oi hm;exact q_rt q_rm
 ·rcases bif_c hm with⟨b2,hm⟩|⟨b2,hm⟩
  ·exact q_vn [qf 2 b2] 0 ⟨[(2,vb (decide (a1<=600)))],[]⟩ (q_J (decide (a1<=600)) hm)
  ·exact q_vn [qf 2 b2] 0 ⟨[(2,vb false)],[]⟩ (q_J (false) hm)
end Saw
end Go.SL

import Derived.Test.YthbamnkheinbgaaGreatDoorSBase
import Derived.Test.YthbamnkheinbgaaGreatDoorSLs
import Derived.Test.YthbamnkheinbgaaGreatDoorSFa2
set_option linter.unusedVariables false
set_option linter.unusedSimpArgs false
namespace Go.SL
namespace Saw
open Go.Proofs Go.Proofs.Tryz
set_option maxHeartbeats 4000000
set_option maxRecDepth 100000
def RG (r:Bool):V:=vb r
def RD (r:Bool):List (Nat×(Nat×O)):=[]
def BX (a1:Scan) (x9:Int) (x11:Int):St:=
 ⟨[(1,vp 0 0),(3,vi x9),(4,vi x11)],[(0,bx 25 (qX a1))]⟩
def CQ (a1:Scan) (x9:Int):St:=
 ⟨[(1,vp 0 0),(3,vi x9)],[(0,bx 25 (qX a1))]⟩
def ND (a1:Scan) (x9:Int):St:=
 ⟨[(1,vp 0 0),(3,vi x9)],[(0,bx 25 (qX a1))]⟩
def qAi :St:=
 ⟨[],[]⟩
def qG7 (a1:Scan) (x7:Bool):St:=
 ⟨[(1,vp 0 0),(12,vb x7)],[(0,bx 25 (qX a1))]⟩
theorem qF6 (E:Env 0) (a1:Scan) (x9:Int):∀(n:Nat) (x11:Int) (res:Bool⊕Unit),QR a1 x9 n x11=some res->HL (kx E 42 0) (nd f25 7460) (jS 2 (λo=>CQ a1 x9) (λv st=>RetQ Tryz.prog f25 (RG v) (RD v) .ret st) res) n (BX a1 x9 x11):=by
 intro n
 induction n with
 |zero=>
  intro x11 res hm;cases hm
 |succ n ih=>
  intro x11 res hm;refine qS (q_sq ?_);obtain⟨g12,hm⟩:=qK hm;refine s_vv [qi 4 g12] 1 [] [(28,vb (decide (x11<((((a1.Rings.getD x9.toNat dd).Read).length:Nat):Int))))] (q_cq hm (λhm=>?_) (λhm=>?_))
  ·refine q_sk (q_sq ?_);refine q_bk 3 ?_;obtain⟨g14,hm⟩:=qK hm;refine s_vv [qi 3 g12,qi 7 g14] 1 [28] [(41,vb (!((((a1.Rings.getD x9.toNat dd).Read).getD x11.toNat dd).Ok)))] (q_cq hm (λhm=>?_) (λhm=>?_))
   ·refine s_vn [] 1 ⟨[(2,vb false)],[]⟩ ?_;obtain rfl:=oi hm;refine q_rt (zZ false ?_);exact q_rm
   ·refine q_sk (q_vv [] 1 [4,41] [(4,vi (w64 (x11+1)))] ?_);exact q_hl (BX a1 x9 (w64 (x11+1))) (ih (w64 (x11+1)) _ hm)
  ·refine q_ex 2 ?_;obtain rfl:=oi hm;exact q_l1 ()
theorem qF4 (E:Env 0) (a1:Scan):∀(n:Nat) (x9:Int) (res:Bool⊕Unit),QP a1 n x9=some res->HL (kx E 42 0) (nd f25 116) (jS 0 (λo=>qAi) (λv st=>RetQ Tryz.prog f25 (RG v) (RD v) .ret st) res) n (ND a1 x9):=by
 intro n
 induction n with
 |zero=>
  intro x9 res hm;cases hm
 |succ n ih=>
  intro x9 res hm;refine qS (q_sq ?_);refine s_va 1 [(17,vb (decide (x9<(a1.Rings.length:Int))))] (q_cq hm (λhm=>?_) (λhm=>?_))
  ·refine q_sk (q_sq ?_);refine q_bk 1 (s_vv [] 1 [17] [(4,vi 0)] ?_);obtain⟨u18,h17,hm⟩:=qE hm;refine wJ (nd f25 7460) 2 (by kernel_rfl) FUEL (λo=>CQ a1 x9) (λv st=>RetQ Tryz.prog f25 (RG v) (RD v) .ret st) u18 (q_hl (BX a1 x9 0) (qF6 E a1 x9 FUEL 0 u18 h17)) ?_ ?_
   ·rintro v19 rfl st hr;obtain rfl:=oi hm;exact zZ v19 hr
   ·rintro o16 rfl;replace hm:_=some res:=hm;exact q_vv [] 1 [3] [(3,vi (w64 (x9+1)))] (q_hl (ND a1 (w64 (x9+1))) (ih (w64 (x9+1)) _ hm))
  ·refine q_ex 0 ?_;obtain rfl:=oi hm;exact q_l1 ()
theorem qIX (a1:Scan) (r:Bool) (hm:RQ a1=some r):CtX Tryz.prog globs 25 0 0 [.agg (qX a1)] [] (RG r) (RD r):=by
 unfold RQ at hm;refine q_E f25 42 λE=>?_;refine s_vn [] 0 ⟨[(1,vp 0 0)],[(0,bx 25 (qX a1))]⟩ (q_sq ?_);refine q_jn (qG7 a1) (λp=>GG a1 p=some r) ?_ ?_
 ·rintro x7 hm;refine q_cq hm (λhm=>?_) (λhm=>?_)
  ·refine s_vn [] 1 ⟨[(2,vb false)],[]⟩ ?_;obtain rfl:=oi hm;exact q_rt q_rm
  ·refine q_sk (q_sq ?_);refine s_vv [] 1 [12] [(3,vi 0)] ?_;obtain⟨u22,h21,hm⟩:=qE hm;refine wJ (nd f25 116) 0 (by kernel_rfl) FUEL (λo=>qAi) (λv st=>RetQ Tryz.prog f25 (RG v) (RD v) .ret st) u22 (q_hl (ND a1 0) (qF4 E a1 FUEL 0 u22 h21)) ?_ ?_
   ·rintro v23 rfl st hr;obtain rfl:=oi hm;exact hr
   ·rintro o20 rfl;replace hm:_=some r:=hm;refine s_vn [] 1 ⟨[(2,vb true)],[]⟩ ?_;obtain rfl:=oi hm;exact q_rt q_rm
 ·obtain⟨v2,h3,hm⟩:=qE hm;rcases bif_c hm with⟨b4,hm⟩|⟨b4,hm⟩
  ·exact q_vv [qc 1 [5] 1 (qEA a1 v2 h3),qf 3 b4] 1 [] [(12,vb true)] (q_J (true) hm)
  ·obtain⟨v5,h6,hm⟩:=qE hm;exact q_vv [qc 1 [5] 1 (qEA a1 v2 h3),qf 3 b4,qk 5 [8,9] 1 ⟨[(8,vb false),(9,va (qX a1))],[]⟩ (QE a1 v5 h6)] 1 [] [(12,vb (v5 !=0))] (q_J (v5 !=0) hm)
end Saw
end Go.SL

import Derived.Test.YthbamnkheinbgaaGreatDoorSBase
import Derived.Test.YthbamnkheinbgaaGreatDoorAwW
import Derived.Test.YthbamnkheinbgaaGreatDoorSFa4
import Derived.Test.YthbamnkheinbgaaGreatDoorSFa7
set_option linter.unusedVariables false
set_option linter.unusedSimpArgs false
namespace Go.SL
namespace Saw
open Go.Proofs Go.Proofs.Tryz
set_option maxHeartbeats 4000000
set_option maxRecDepth 100000
def LD (r:Bool):V:=vb r
def LN (r:Bool):List (Nat×(Nat×O)):=[]
def UA (a1:Scan) (x5:Int):St:=
 ⟨[(1,vp 0 0),(3,vi x5)],[(0,bx 25 (qT a1))]⟩
def MC :St:=
 ⟨[],[]⟩
def qBL (a1:Scan) (x3:Bool):St:=
 ⟨[(1,vp 0 0),(13,vb x3)],[(0,bx 25 (qT a1))]⟩
theorem qAM (E:Env 0) (a1:Scan):∀(n:Nat) (x5:Int) (res:Bool⊕Unit),yI a1 n x5=some res->HL (kx E 29 0) (nd f12 116) (wE 0 (λo=>MC) (λv st=>RetQ Tryz.prog f12 (LD v) (LN v) .ret st) res) n (UA a1 x5):=by
 intro n
 induction n with
 |zero=>
  intro x5 res hm;cases hm
 |succ n ih=>
  intro x5 res hm;refine qR (q_sq ?_);refine s_va 1 [(18,vb (decide (x5<(a1.Rings.length:Int))))] (q_cq hm (λhm=>?_) (λhm=>?_))
  ·refine q_sk (q_sq ?_);refine q_bk 1 ?_;obtain⟨g7,hm⟩:=qI hm;refine s_vv [qi 3 g7] 1 [18] [(28,vb (decide (((((a1.Rings.getD x5.toNat dd).Read).length:Nat):Int)>60)))] (q_cq hm (λhm=>?_) (λhm=>?_))
   ·refine s_vn [] 1 ⟨[(2,vb false)],[]⟩ ?_;obtain rfl:=oi hm;refine q_rt (zA false ?_);exact q_rm
   ·refine q_sk (q_vv [] 1 [3,28] [(3,vi (w64 (x5+1)))] ?_);exact q_hl (UA a1 (w64 (x5+1))) (ih (w64 (x5+1)) _ hm)
  ·refine q_ex 0 ?_;obtain rfl:=oi hm;exact q_l1 ()
theorem BD (a1:Scan) (r:Bool) (hm:VN a1=some r):CtX Tryz.prog globs 12 0 0 [.agg (qT a1)] [] (LD r) (LN r):=by
 unfold VN at hm;refine q_E f12 29 λE=>?_;refine s_vn [] 0 ⟨[(1,vp 0 0)],[(0,bx 25 (qT a1))]⟩ (q_sq ?_);refine q_jn (qBL a1) (λp=>RK a1 p=some r) ?_ ?_
 ·rintro x3 hm;refine q_cq hm (λhm=>?_) (λhm=>?_)
  ·refine s_vn [] 1 ⟨[(2,vb false)],[]⟩ ?_;obtain rfl:=oi hm;exact q_rt q_rm
  ·refine q_sk (q_sq ?_);refine s_vv [] 1 [13] [(3,vi 0)] ?_;obtain⟨u11,h10,hm⟩:=qC hm;refine zI (nd f12 116) 0 (by kernel_rfl) FUEL (λo=>MC) (λv st=>RetQ Tryz.prog f12 (LD v) (LN v) .ret st) u11 (q_hl (UA a1 0) (qAM E a1 FUEL 0 u11 h10)) ?_ ?_
   ·rintro v12 rfl st hr;obtain rfl:=oi hm;exact hr
   ·rintro o9 rfl;replace hm:_=some r:=hm;refine s_vn [] 1 ⟨[(2,vb true)],[]⟩ ?_;obtain rfl:=oi hm;exact q_rt q_rm
 ·rcases bif_c hm with⟨b2,hm⟩|⟨b2,hm⟩
  ·exact q_vv [qf 4 b2] 1 [] [(13,vb true)] (q_J (true) hm)
  ·exact q_vv [qf 4 b2] 1 [] [(13,vb (decide ((a1.Defects.length:Int)>100)))] (q_J (decide ((a1.Defects.length:Int)>100)) hm)
open Go.Proofs
def qC3 (r:Bool):V:=vb r
def qDs (r:Bool):List (Nat×(Nat×O)):=[]
theorem MU (r:Bool) (hm:law15_awake=some r):CtX Tryz.prog globs 15 0 0 [] [] (qC3 r) (qDs r):=by
 unfold law15_awake at hm;obtain rfl:=oi hm;exact qDb rfl rfl λw A hg=>aw_run w A hg
open Go.Proofs Go.Proofs.Tryz
def AN (r:Bool):V:=vb r
def EY (r:Bool):List (Nat×(Nat×O)):=[]
def ML (x14:Bool):St:=
 ⟨[(2,vb x14)],[]⟩
theorem EK (a1:Scan) (r:Bool) (hm:yH a1=some r):CtX Tryz.prog globs 3 0 0 [.agg (qT a1)] [] (AN r) (EY r):=by
 unfold yH at hm;refine q_E f3 16 λE=>?_;refine s_vn [] 0 ⟨[(1,vp 0 0)],[(0,bx 25 (qT a1))]⟩ (q_jn (ML) (λp=>jA p=some r) ?_ ?_)
 ·rintro x14 hm;obtain rfl:=oi hm;exact q_rt q_rm
 ·obtain⟨v2,h3,hm⟩:=qC hm;rcases bif_c hm with⟨b4,hm⟩|⟨b4,hm⟩
  ·obtain⟨v5,h6,hm⟩:=qC hm;exact q_dn [qc 1 [3] 1 (BD a1 v2 h3),qf 3 b4,qk 11 [13] 1 ⟨[(13,vb true)],[]⟩ (MU v5 h6)] [0,1,3,7,15,31,15,127,255,511,1023,2047,4095,8191] 1 ⟨[(2,vb v5)],[]⟩ (q_J (v5) hm)
  ·obtain⟨v7,h8,hm⟩:=qC hm;obtain⟨v9,h10,hm⟩:=qC hm;rcases bif_c hm with⟨b11,hm⟩|⟨b11,hm⟩
   ·obtain⟨v12,h13,hm⟩:=qC hm;exact q_dn [qc 1 [3] 1 (BD a1 v2 h3),qf 3 b4,qk 5 [6,7] 1 ⟨[(6,vb false),(7,va (qT a1))],[]⟩ (yW a1 v7 h8),qk 7 [6,9] 1 ⟨[(6,vb false),(9,va (qT a1))],[]⟩ (MN a1 v9 h10),qf 10 b11,qk 11 [13] 1 ⟨[(13,vb true)],[]⟩ (MU v12 h13)] [0,1,3,7,15,31,15,127,255,511,1023,2047,4095,8191] 1 ⟨[(2,vb v12)],[]⟩ (q_J (v12) hm)
   ·exact q_dn [qc 1 [3] 1 (BD a1 v2 h3),qf 3 b4,qk 5 [6,7] 1 ⟨[(6,vb false),(7,va (qT a1))],[]⟩ (yW a1 v7 h8),qk 7 [6,9] 1 ⟨[(6,vb false),(9,va (qT a1))],[]⟩ (MN a1 v9 h10),qf 10 b11] [0,1,3,7,15,31,15,127,255,511,1023,2047,4095,8191] 1 ⟨[(2,vb false)],[]⟩ (q_J (false) hm)
end Saw
end Go.SL

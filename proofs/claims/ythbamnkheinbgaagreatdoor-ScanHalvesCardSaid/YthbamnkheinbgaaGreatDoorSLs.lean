import Derived.Test.YthbamnkheinbgaaGreatDoorSBase
import Derived.Test.YthbamnkheinbgaaGreatDoorAwW
set_option linter.unusedVariables false
set_option linter.unusedSimpArgs false
namespace Go.SL
namespace Saw
open Go.Proofs Go.Proofs.Tryz
set_option maxHeartbeats 4000000
set_option maxRecDepth 100000
def qB6 (r:Bool):V:=vb r
def qCb (r:Bool):List (Nat×(Nat×O)):=[]
def SJ (a1:Scan) (x5:Int):St:=
 ⟨[(1,vp 0 0),(3,vi x5)],[(0,bx 25 (qX a1))]⟩
def qCW :St:=
 ⟨[],[]⟩
def qI5 (a1:Scan) (x3:Bool):St:=
 ⟨[(1,vp 0 0),(13,vb x3)],[(0,bx 25 (qX a1))]⟩
theorem qIv (E:Env 0) (a1:Scan):∀(n:Nat) (x5:Int) (res:Bool⊕Unit),JE a1 n x5=some res->HL (kx E 29 0) (nd f12 116) (jS 0 (λo=>qCW) (λv st=>RetQ Tryz.prog f12 (qB6 v) (qCb v) .ret st) res) n (SJ a1 x5):=by
 intro n
 induction n with
 |zero=>
  intro x5 res hm;cases hm
 |succ n ih=>
  intro x5 res hm;refine qS (q_sq ?_);refine s_va 1 [(18,vb (decide (x5<(a1.Rings.length:Int))))] (q_cq hm (λhm=>?_) (λhm=>?_))
  ·refine q_sk (q_sq ?_);refine q_bk 1 ?_;obtain⟨g7,hm⟩:=qK hm;refine s_vv [qi 3 g7] 1 [18] [(28,vb (decide (((((a1.Rings.getD x5.toNat dd).Read).length:Nat):Int)>60)))] (q_cq hm (λhm=>?_) (λhm=>?_))
   ·refine s_vn [] 1 ⟨[(2,vb false)],[]⟩ ?_;obtain rfl:=oi hm;refine q_rt (zZ false ?_);exact q_rm
   ·refine q_sk (q_vv [] 1 [3,28] [(3,vi (w64 (x5+1)))] ?_);exact q_hl (SJ a1 (w64 (x5+1))) (ih (w64 (x5+1)) _ hm)
  ·refine q_ex 0 ?_;obtain rfl:=oi hm;exact q_l1 ()
theorem qEA (a1:Scan) (r:Bool) (hm:ES a1=some r):CtX Tryz.prog globs 12 0 0 [.agg (qX a1)] [] (qB6 r) (qCb r):=by
 unfold ES at hm;refine q_E f12 29 λE=>?_;refine s_vn [] 0 ⟨[(1,vp 0 0)],[(0,bx 25 (qX a1))]⟩ (q_sq ?_);refine q_jn (qI5 a1) (λp=>FK a1 p=some r) ?_ ?_
 ·rintro x3 hm;refine q_cq hm (λhm=>?_) (λhm=>?_)
  ·refine s_vn [] 1 ⟨[(2,vb false)],[]⟩ ?_;obtain rfl:=oi hm;exact q_rt q_rm
  ·refine q_sk (q_sq ?_);refine s_vv [] 1 [13] [(3,vi 0)] ?_;obtain⟨u11,h10,hm⟩:=qE hm;refine wJ (nd f12 116) 0 (by kernel_rfl) FUEL (λo=>qCW) (λv st=>RetQ Tryz.prog f12 (qB6 v) (qCb v) .ret st) u11 (q_hl (SJ a1 0) (qIv E a1 FUEL 0 u11 h10)) ?_ ?_
   ·rintro v12 rfl st hr;obtain rfl:=oi hm;exact hr
   ·rintro o9 rfl;replace hm:_=some r:=hm;refine s_vn [] 1 ⟨[(2,vb true)],[]⟩ ?_;obtain rfl:=oi hm;exact q_rt q_rm
 ·rcases bif_c hm with⟨b2,hm⟩|⟨b2,hm⟩
  ·exact q_vv [qf 4 b2] 1 [] [(13,vb true)] (q_J (true) hm)
  ·exact q_vv [qf 4 b2] 1 [] [(13,vb (decide ((a1.Defects.length:Int)>100)))] (q_J (decide ((a1.Defects.length:Int)>100)) hm)
open Go.Proofs
def qKP (r:Bool):V:=vb r
def qKq (r:Bool):List (Nat×(Nat×O)):=[]
theorem qCD (r:Bool) (hm:law15_awake=some r):CtX Tryz.prog globs 15 0 0 [] [] (qKP r) (qKq r):=by
 unfold law15_awake at hm;obtain rfl:=oi hm;exact qK2 rfl rfl λw A hg=>aw_run w A hg
end Saw
end Go.SL

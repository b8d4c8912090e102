import Derived.Test.YthbamnkheinbgaaGreatDoorSBase
import Derived.Test.YthbamnkheinbgaaGreatDoorAwW
set_option linter.unusedVariables false
set_option linter.unusedSimpArgs false
namespace Go.SL
namespace Saw
open Go.Proofs
set_option maxHeartbeats 4000000
def qGf (r:Bool):V:=vb r
def qFX (r:Bool):List (Nat×(Nat×O)):=[]
theorem IM (r:Bool) (hm:law15_awake=some r):CtX Tryz.prog globs 15 0 0 [] [] (qGf r) (qFX r):=by
 unfold law15_awake at hm;obtain rfl:=oi hm;exact qGA rfl rfl λw A hg=>aw_run w A hg
open Go.Proofs Go.Proofs.Tryz
set_option maxRecDepth 100000
def AM (r:Bool):V:=vb r
def AP (r:Bool):List (Nat×(Nat×O)):=[]
def GV (a1:Scan) (x5:Int):St:=
 ⟨[(1,vp 0 0),(3,vi x5)],[(0,bx 25 (qP a1))]⟩
def zbQ :St:=
 ⟨[],[]⟩
def qEI (a1:Scan) (x3:Bool):St:=
 ⟨[(1,vp 0 0),(13,vb x3)],[(0,bx 25 (qP a1))]⟩
theorem qD1 (E:Env 0) (a1:Scan):∀(n:Nat) (x5:Int) (res:Bool⊕Unit),QU a1 n x5=some res->HL (kx E 29 0) (nd f12 116) (wF 0 (λo=>zbQ) (λv st=>RetQ Tryz.prog f12 (AM v) (AP v) .ret st) res) n (GV a1 x5):=by
 intro n
 induction n with
 |zero=>
  intro x5 res hm;cases hm
 |succ n ih=>
  intro x5 res hm;refine qR (q_sq ?_);refine s_va 1 [(18,vb (decide (x5<(a1.Rings.length:Int))))] (q_cq hm (λhm=>?_) (λhm=>?_))
  ·refine q_sk (q_sq ?_);refine q_bk 1 ?_;obtain⟨g7,hm⟩:=qJ hm;refine s_vv [qi 3 g7] 1 [18] [(28,vb (decide (((((a1.Rings.getD x5.toNat dd).Read).length:Nat):Int)>60)))] (q_cq hm (λhm=>?_) (λhm=>?_))
   ·refine s_vn [] 1 ⟨[(2,vb false)],[]⟩ ?_;obtain rfl:=oi hm;refine q_rt (zC false ?_);exact q_rm
   ·refine q_sk (q_vv [] 1 [3,28] [(3,vi (w64 (x5+1)))] ?_);exact q_hl (GV a1 (w64 (x5+1))) (ih (w64 (x5+1)) _ hm)
  ·refine q_ex 0 ?_;obtain rfl:=oi hm;exact q_l1 ()
theorem LZ (a1:Scan) (r:Bool) (hm:UE a1=some r):CtX Tryz.prog globs 12 0 0 [.agg (qP a1)] [] (AM r) (AP r):=by
 unfold UE at hm;refine q_E f12 29 λE=>?_;refine s_vn [] 0 ⟨[(1,vp 0 0)],[(0,bx 25 (qP a1))]⟩ (q_sq ?_);refine q_jn (qEI a1) (λp=>VJ a1 p=some r) ?_ ?_
 ·rintro x3 hm;refine q_cq hm (λhm=>?_) (λhm=>?_)
  ·refine s_vn [] 1 ⟨[(2,vb false)],[]⟩ ?_;obtain rfl:=oi hm;exact q_rt q_rm
  ·refine q_sk (q_sq ?_);refine s_vv [] 1 [13] [(3,vi 0)] ?_;obtain⟨u11,h10,hm⟩:=qE hm;refine zN (nd f12 116) 0 (by kernel_rfl) FUEL (λo=>zbQ) (λv st=>RetQ Tryz.prog f12 (AM v) (AP v) .ret st) u11 (q_hl (GV a1 0) (qD1 E a1 FUEL 0 u11 h10)) ?_ ?_
   ·rintro v12 rfl st hr;obtain rfl:=oi hm;exact hr
   ·rintro o9 rfl;replace hm:_=some r:=hm;refine s_vn [] 1 ⟨[(2,vb true)],[]⟩ ?_;obtain rfl:=oi hm;exact q_rt q_rm
 ·rcases bif_c hm with⟨b2,hm⟩|⟨b2,hm⟩
  ·exact q_vv [qf 4 b2] 1 [] [(13,vb true)] (q_J (true) hm)
  ·exact q_vv [qf 4 b2] 1 [] [(13,vb (decide ((a1.Defects.length:Int)>100)))] (q_J (decide ((a1.Defects.length:Int)>100)) hm)
end Saw
end Go.SL

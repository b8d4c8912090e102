import Derived.Test.YthbamnkheinbgaaGreatDoorSBase
import Derived.Test.YthbamnkheinbgaaGreatDoorSFa2
set_option linter.unusedVariables false
set_option linter.unusedSimpArgs false
namespace Go.SL
namespace Saw
open Go.Proofs Go.Proofs.Tryz
set_option maxHeartbeats 4000000
set_option maxRecDepth 100000
def UL (r:Bool):V:=vb r
def JM (r:Bool):List (Nat×(Nat×O)):=[]
theorem qB8 (r:Bool):yX (JM r):=by
 intro i k o h;unfold JM at h;cases h
def qCs (a1:qC) (a2:List qA) (x3:Int):St:=
 ⟨[(1,vc (tl qB dd a2)),(2,vp 0 0),(5,vi x3)],[(0,bx 48 (qM a1))]⟩
def qI3 (a1:qC) (a2:List qA) (x3:Int) (x18:Bool):St:=
 ⟨[(1,vc (tl qB dd a2)),(2,vp 0 0),(5,vi x3),(65,vb x18)],[(0,bx 48 (qM a1))]⟩
def EF (a1:qC) (a2:List qA) (x3:Int):St:=
 ⟨[(1,vc (tl qB dd a2)),(2,vp 0 0),(5,vi x3)],[(0,bx 48 (qM a1))]⟩
def qCq :St:=
 ⟨[],[]⟩
theorem qHR (E:Env 0) (a1:qC) (a2:List qA):∀(n:Nat) (x3:Int) (res:Bool⊕Unit),wO a1 a2 n x3=some res->HL (kx E 66 0) (nd f28 52) (jJ 0 (λo=>qCq) (λv st=>RetQ Tryz.prog f28 (UL v) (JM v) .ret st) res) n (EF a1 a2 x3):=by
 intro n
 induction n with
 |zero=>
  intro x3 res hm;cases hm
 |succ n ih=>
  intro x3 res hm;refine qU (q_sq ?_);refine s_va 1 [(12,vb (decide (x3<(a1.Rows.length:Int))))] (q_cq hm (λhm=>?_) (λhm=>?_))
  ·refine q_sk (q_jn (ι:=Unit) (λp=>qCs a1 a2 x3) (λp=>MV x3 (wO a1 a2 n)=some res) ?_ ?_)
   ·rintro _ hm;show H _ (qCs a1 a2 x3) _ _;exact q_vv [] 2 [5] [(5,vi (w64 (x3+1)))] (q_hl (EF a1 a2 (w64 (x3+1))) (ih (w64 (x3+1)) _ hm))
   ·refine q_bk 1 ?_;obtain⟨g5,hm⟩:=qH hm;refine s_du [qi 3 g5] [0,1,0,7,15,0,32,0,224,480,0,1055,4095] 1 [12] [(6,vp 1 0),(7,vi (w64 (10*(w64 (a1.Low+x3)))))] [] [(1,bx 64 (qI (a1.Rows.getD x3.toNat dd)))] (q_sq ?_);refine s_va 2 [(29,vb (decide (((a1.Rows.getD x3.toNat dd).A)≥((a1.Rows.getD x3.toNat dd).B))))] (q_cq hm (λhm=>?_) (λhm=>?_))
    ·exact q_ex 1 (q_J () hm)
    ·refine q_sk (q_jn (qI3 a1 a2 x3) (λp=>PL x3 (wO a1 a2 n) p=some res) ?_ ?_)
     ·rintro x18 hm;refine q_cq hm (λhm=>?_) (λhm=>?_)
      ·refine s_vn [] 2 ⟨[(4,vb false)],[]⟩ ?_;obtain rfl:=oi hm;refine q_rt (zR false ?_);exact q_rm
      ·exact q_sk (q_J () hm)
     ·obtain⟨v7,h8,hm⟩:=qE hm;rcases bif_c hm with⟨b9,hm⟩|⟨b9,hm⟩
      ·exact q_vu [qc 5 [30,34] 2 (jU a2 (qA.mk ((a1.Rows.getD x3.toNat dd).A) (w64 (10*(w64 (a1.Low+x3))))) v7 h8),qf 7 b9] 2 [6,7,29] [(65,vb true)] [1] [] (q_J (true) hm)
      ·obtain⟨v10,h11,hm⟩:=qE hm;rcases bif_c hm with⟨b12,hm⟩|⟨b12,hm⟩
       ·exact q_vu [qc 5 [30,34] 2 (jU a2 (qA.mk ((a1.Rows.getD x3.toNat dd).A) (w64 (10*(w64 (a1.Low+x3))))) v7 h8),qf 7 b9,qk 13 [37,38,42] 2 ⟨[(37,vb false),(38,vc (tl qB dd a2)),(42,va [ci ((a1.Rows.getD x3.toNat dd).B),ci (w64 (10*(w64 (a1.Low+x3))))])],[]⟩ (jU a2 (qA.mk ((a1.Rows.getD x3.toNat dd).B) (w64 (10*(w64 (a1.Low+x3))))) v10 h11),qf 16 b12] 2 [6,7,29] [(65,vb true)] [1] [] (q_J (true) hm)
       ·obtain⟨v13,h14,hm⟩:=qE hm;rcases bif_c hm with⟨b15,hm⟩|⟨b15,hm⟩
        ·exact q_vu [qc 5 [30,34] 2 (jU a2 (qA.mk ((a1.Rows.getD x3.toNat dd).A) (w64 (10*(w64 (a1.Low+x3))))) v7 h8),qf 7 b9,qk 13 [37,38,42] 2 ⟨[(37,vb false),(38,vc (tl qB dd a2)),(42,va [ci ((a1.Rows.getD x3.toNat dd).B),ci (w64 (10*(w64 (a1.Low+x3))))])],[]⟩ (jU a2 (qA.mk ((a1.Rows.getD x3.toNat dd).B) (w64 (10*(w64 (a1.Low+x3))))) v10 h11),qf 16 b12,qk 23 [46,47,52] 2 ⟨[(46,vb false),(47,vc (tl qB dd a2)),(52,va [ci ((a1.Rows.getD x3.toNat dd).A),ci (w64 ((w64 (10*(w64 (a1.Low+x3))))+10))])],[]⟩ (jU a2 (qA.mk ((a1.Rows.getD x3.toNat dd).A) (w64 ((w64 (10*(w64 (a1.Low+x3))))+10))) v13 h14),qf 26 b15] 2 [6,7,29] [(65,vb true)] [1] [] (q_J (true) hm)
        ·obtain⟨v16,h17,hm⟩:=qE hm
         refine q_vu [qc 5 [30,34] 2 (jU a2 (qA.mk ((a1.Rows.getD x3.toNat dd).A) (w64 (10*(w64 (a1.Low+x3))))) v7 h8),qf 7 b9,qk 13 [37,38,42] 2 ⟨[(37,vb false),(38,vc (tl qB dd a2)),(42,va [ci ((a1.Rows.getD x3.toNat dd).B),ci (w64 (10*(w64 (a1.Low+x3))))])],[]⟩ (jU a2 (qA.mk ((a1.Rows.getD x3.toNat dd).B) (w64 (10*(w64 (a1.Low+x3))))) v10 h11),qf 16 b12,qk 23 [46,47,52] 2 ⟨[(46,vb false),(47,vc (tl qB dd a2)),(52,va [ci ((a1.Rows.getD x3.toNat dd).A),ci (w64 ((w64 (10*(w64 (a1.Low+x3))))+10))])],[]⟩ (jU a2 (qA.mk ((a1.Rows.getD x3.toNat dd).A) (w64 ((w64 (10*(w64 (a1.Low+x3))))+10))) v13 h14),qf 26 b15,qk 33 [56,57,62] 2 ⟨[(56,vb false),(57,vc (tl qB dd a2)),(62,va [ci ((a1.Rows.getD x3.toNat dd).B),ci (w64 ((w64 (10*(w64 (a1.Low+x3))))+10))])],[]⟩ (jU a2 (qA.mk ((a1.Rows.getD x3.toNat dd).B) (w64 ((w64 (10*(w64 (a1.Low+x3))))+10))) v16 h17)] 2 [6,7,29] [(65,vb (!v16))] [1] [] ?_
         exact q_J (!v16) hm
  ·refine q_ex 0 ?_;obtain rfl:=oi hm;exact q_l1 ()
theorem qAC (a1:qC) (a2:List qA) (r:Bool) (hm:LT a1 a2=some r):CtX Tryz.prog globs 28 0 0 [.agg (qM a1),.one (tl qB dd a2)] [] (UL r) (JM r):=by
 unfold LT at hm;refine q_E f28 66 λE=>?_;refine s_vn [] 0 ⟨[(1,vc (tl qB dd a2)),(2,vp 0 0)],[(0,bx 48 (qM a1))]⟩ (q_sq ?_);refine s_va 1 [(5,vi 0)] ?_;obtain⟨u22,h21,hm⟩:=qE hm;refine zZ (nd f28 52) 0 (by kernel_rfl) FUEL (λo=>qCq) (λv st=>RetQ Tryz.prog f28 (UL v) (JM v) .ret st) u22 (q_hl (EF a1 a2 0) (qHR E a1 a2 FUEL 0 u22 h21)) ?_ ?_
 ·rintro v23 rfl st hr;obtain rfl:=oi hm;exact hr
 ·rintro o20 rfl;replace hm:_=some r:=hm;refine s_vn [] 1 ⟨[(4,vb true)],[]⟩ ?_;obtain rfl:=oi hm;exact q_rt q_rm
end Saw
end Go.SL

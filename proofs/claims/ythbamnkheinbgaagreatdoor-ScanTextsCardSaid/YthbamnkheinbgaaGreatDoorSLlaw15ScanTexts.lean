import Derived.Test.YthbamnkheinbgaaGreatDoorSBase
import Derived.Test.YthbamnkheinbgaaGreatDoorSLs
import Derived.Test.YthbamnkheinbgaaGreatDoorSFa5
import Derived.Test.YthbamnkheinbgaaGreatDoorSFa7
import Derived.Test.YthbamnkheinbgaaGreatDoorSFa6
import Derived.Test.YthbamnkheinbgaaGreatDoorSFa8
set_option linter.unusedVariables false
set_option linter.unusedSimpArgs false
namespace Go.SL
namespace Saw
open Go.Proofs Go.Proofs.Tryz
set_option maxHeartbeats 4000000
set_option maxRecDepth 100000
def qB1 (r:Bool):V:=vb r
def qBM (r:Bool):List (Nat×(Nat×O)):=[]
def CO (x26:Bool):St:=
 ⟨[(4,vb x26)],[]⟩
def CM (a1:Scan) (a2:ByteArray) (x6:Bool):St:=
 ⟨[(1,vc (cs a2)),(2,vp 0 0),(20,vb x6)],[(0,bx 25 (qV a1))]⟩
theorem qAR (a1:Scan) (a2:ByteArray) (r:Bool) (hm:WF a1 a2=some r):CtX Tryz.prog globs 5 0 0 [.agg (qV a1),.one (cs a2)] [] (qB1 r) (qBM r):=by
 unfold WF at hm;refine q_E f5 63 λE=>?_;refine s_vn [] 0 ⟨[(1,vc (cs a2)),(2,vp 0 0)],[(0,bx 25 (qV a1))]⟩ (q_sq ?_);refine q_jn (CM a1 a2) (λp=>jI a1 a2 p=some r) ?_ ?_
 ·rintro x6 hm;refine q_cq hm (λhm=>?_) (λhm=>?_)
  ·obtain⟨v8,h9,hm⟩:=qD hm;refine s_vn [qc 0 [] 1 (AX v8 h9)] 1 ⟨[(4,vb v8)],[]⟩ ?_;obtain rfl:=oi hm;exact q_rt q_rm
  ·refine q_sk ?_;obtain⟨v10,h11,hm⟩:=qD hm;refine s_vv [qc 1 [23] 1 (II a1 v10 h11)] 1 [20] [(5,vc (cs v10.1)),(6,vi v10.2)] ?_;obtain⟨v12,h13,hm⟩:=qD hm;refine s_vu [qc 1 [28] 1 (qDA a1 v12 h13)] 1 [2] [(7,vc (cs v12.1)),(8,vi v12.2)] [0] [] ?_;obtain⟨v14,h15,hm⟩:=qD hm;refine s_vu [qc 1 [33] 1 (zbQ a2 v14 h15)] 1 [] [(9,vp 3 0),(10,vi v14.2)] [] [(1,ro 0 45 2 v14.1.Rings.length (rf qM v14.1.Rings)),(2,ro 0 68 7 v14.1.Defects.length (rf qL v14.1.Defects)),(3,bx 25 [.own 1 0 2 v14.1.Rings.length,.own 2 0 7 v14.1.Defects.length])] ?_;obtain⟨v16,h17,hm⟩:=qD hm
   refine s_vu [qc 1 [38] 4 (qEE a2 v16 h17)] 4 [1] [(11,vp 6 0),(12,vi v16.2)] [] [(4,ro 0 45 2 v16.1.Rings.length (rf qM v16.1.Rings)),(5,ro 0 68 7 v16.1.Defects.length (rf qL v16.1.Defects)),(6,bx 25 [.own 4 0 2 v16.1.Rings.length,.own 5 0 7 v16.1.Defects.length])] (q_jn (CO) (λp=>wH p=some r) ?_ ?_)
   ·rintro x26 hm;obtain rfl:=oi hm;exact q_rt q_rm
   ·rcases bif_c hm with⟨b18,hm⟩|⟨b18,hm⟩
    ·rcases bif_c hm with⟨b19,hm⟩|⟨b19,hm⟩
     ·obtain⟨v20,h21,hm⟩:=qD hm;rcases bif_c hm with⟨b22,hm⟩|⟨b22,hm⟩
      ·rcases bif_c hm with⟨b23,hm⟩|⟨b23,hm⟩
       ·obtain⟨v24,h25,hm⟩:=qD hm
        refine q_vn [qf 3 b18,qf 8 b19,qd 11 (dex (cen [] [] 7 0 (JB v20) (yR v20) [50,51,52] [1,2,4,5])) (zF (K:=(kx E 63 0)) (b:=false) ⟨[(50,vb true),(51,va [.own 1 0 2 v14.1.Rings.length,.own 2 0 7 v14.1.Defects.length]),(52,va [.own 4 0 2 v16.1.Rings.length,.own 5 0 7 v16.1.Defects.length])],[(1,ro 0 45 2 v14.1.Rings.length (rf qM v14.1.Rings)),(2,ro 0 68 7 v14.1.Defects.length (rf qL v14.1.Defects)),(4,ro 0 45 2 v16.1.Rings.length (rf qM v16.1.Rings)),(5,ro 0 68 7 v16.1.Defects.length (rf qL v16.1.Defects))]⟩ (opAt (rg f5 254) 11) [] [] 7 (o1 (And.intro (And.intro (ko v14.1.Rings.length) (ko v14.1.Defects.length)) (And.intro (ko v16.1.Rings.length) (ko v16.1.Defects.length)))) rfl (NM (Scan.mk v14.1.Rings v14.1.Defects) (Scan.mk v16.1.Rings v16.1.Defects) v20 h21) (.inr ⟨(by kernel_rfl),HF v20⟩) (by kernel_rfl)),qf 13 b22,qf 18 b23,qk 19 [60] 7 ⟨[(60,vb true)],[]⟩ (AX v24 h25)] 7 ⟨[(4,vb v24)],[]⟩ ?_
        exact q_J (v24) hm
       ·refine q_vn [qf 3 b18,qf 8 b19,qd 11 (dex (cen [] [] 7 0 (JB v20) (yR v20) [50,51,52] [1,2,4,5])) (zF (K:=(kx E 63 0)) (b:=false) ⟨[(50,vb true),(51,va [.own 1 0 2 v14.1.Rings.length,.own 2 0 7 v14.1.Defects.length]),(52,va [.own 4 0 2 v16.1.Rings.length,.own 5 0 7 v16.1.Defects.length])],[(1,ro 0 45 2 v14.1.Rings.length (rf qM v14.1.Rings)),(2,ro 0 68 7 v14.1.Defects.length (rf qL v14.1.Defects)),(4,ro 0 45 2 v16.1.Rings.length (rf qM v16.1.Rings)),(5,ro 0 68 7 v16.1.Defects.length (rf qL v16.1.Defects))]⟩ (opAt (rg f5 254) 11) [] [] 7 (o1 (And.intro (And.intro (ko v14.1.Rings.length) (ko v14.1.Defects.length)) (And.intro (ko v16.1.Rings.length) (ko v16.1.Defects.length)))) rfl (NM (Scan.mk v14.1.Rings v14.1.Defects) (Scan.mk v16.1.Rings v16.1.Defects) v20 h21) (.inr ⟨(by kernel_rfl),HF v20⟩) (by kernel_rfl)),qf 13 b22,qf 18 b23] 7 ⟨[(4,vb false)],[]⟩ ?_
        exact q_J (false) hm
      ·refine q_vn [qf 3 b18,qf 8 b19,qd 11 (dex (cen [] [] 7 0 (JB v20) (yR v20) [50,51,52] [1,2,4,5])) (zF (K:=(kx E 63 0)) (b:=false) ⟨[(50,vb true),(51,va [.own 1 0 2 v14.1.Rings.length,.own 2 0 7 v14.1.Defects.length]),(52,va [.own 4 0 2 v16.1.Rings.length,.own 5 0 7 v16.1.Defects.length])],[(1,ro 0 45 2 v14.1.Rings.length (rf qM v14.1.Rings)),(2,ro 0 68 7 v14.1.Defects.length (rf qL v14.1.Defects)),(4,ro 0 45 2 v16.1.Rings.length (rf qM v16.1.Rings)),(5,ro 0 68 7 v16.1.Defects.length (rf qL v16.1.Defects))]⟩ (opAt (rg f5 254) 11) [] [] 7 (o1 (And.intro (And.intro (ko v14.1.Rings.length) (ko v14.1.Defects.length)) (And.intro (ko v16.1.Rings.length) (ko v16.1.Defects.length)))) rfl (NM (Scan.mk v14.1.Rings v14.1.Defects) (Scan.mk v16.1.Rings v16.1.Defects) v20 h21) (.inr ⟨(by kernel_rfl),HF v20⟩) (by kernel_rfl)),qf 13 b22] 7 ⟨[(4,vb false)],[]⟩ ?_
       exact q_J (false) hm
     ·exact q_vn [qf 3 b18,qf 8 b19] 7 ⟨[(4,vb false)],[]⟩ (q_J (false) hm)
    ·exact q_vn [qf 3 b18] 7 ⟨[(4,vb false)],[]⟩ (q_J (false) hm)
 ·obtain⟨v3,h4,hm⟩:=qD hm;rcases bif_c hm with⟨b5,hm⟩|⟨b5,hm⟩
  ·exact q_vv [qc 1 [13] 1 (qA3 a1 v3 h4),qf 3 b5] 1 [] [(20,vb true)] (q_J (true) hm)
  ·exact q_vv [qc 1 [13] 1 (qA3 a1 v3 h4),qf 3 b5] 1 [] [(20,vb (decide ((a2.size:Int)>20000)))] (q_J (decide ((a2.size:Int)>20000)) hm)
end Saw
end Go.SL

import Derived.Test.YthbamnkheinbgaaGreatDoorSBase
import Derived.Test.YthbamnkheinbgaaGreatDoorSLs
import Derived.Test.YthbamnkheinbgaaGreatDoorSFa7
import Derived.Test.YthbamnkheinbgaaGreatDoorSFa8
set_option linter.unusedVariables false
set_option linter.unusedSimpArgs false
namespace Go.SL
namespace Saw
open Go.Proofs Go.Proofs.Tryz
set_option maxHeartbeats 4000000
set_option maxRecDepth 100000
def qA0 (r:Bool):V:=vb r
def qAv (r:Bool):List (Nat×(Nat×O)):=[]
def IL (x22:Bool):St:=
 ⟨[(4,vb x22)],[]⟩
def IQ (a1:Scan) (a2:Scan) (x8:Bool):St:=
 ⟨[(2,vp 0 0),(3,vp 1 0),(16,vb x8)],[(0,bx 25 (qR a1)),(1,bx 25 (qR a2))]⟩
theorem qAi (a1:Scan) (a2:Scan) (r:Bool) (hm:QQ a1 a2=some r):CtX Tryz.prog globs 8 0 0 [.agg (qR a1),.agg (qR a2)] [] (qA0 r) (qAv r):=by
 unfold QQ at hm;refine q_E f8 41 λE=>?_;refine s_vn [] 0 ⟨[(2,vp 0 0),(3,vp 1 0)],[(0,bx 25 (qR a1)),(1,bx 25 (qR a2))]⟩ (q_sq ?_);refine q_jn (IQ a1 a2) (λp=>jR a1 a2 p=some r) ?_ ?_
 ·rintro x8 hm;refine q_cq hm (λhm=>?_) (λhm=>?_)
  ·obtain⟨v10,h11,hm⟩:=qG hm;refine s_vn [qc 0 [] 2 (II v10 h11)] 2 ⟨[(4,vb v10)],[]⟩ ?_;obtain rfl:=oi hm;exact q_rt q_rm
  ·refine q_sk ?_;obtain⟨v12,h13,hm⟩:=qG hm;refine s_vu [qc 2 [19,20] 2 (qFL a1 a2 v12 h13)] 2 [16] [(5,vp 4 0),(6,vi v12.2)] [] [(2,ro 0 45 2 v12.1.Rings.length (rf qH v12.1.Rings)),(3,ro 0 68 7 v12.1.Defects.length (rf qD v12.1.Defects)),(4,bx 25 [.own 2 0 2 v12.1.Rings.length,.own 3 0 7 v12.1.Defects.length])] ?_;obtain⟨v14,h15,hm⟩:=qG hm
   refine s_vu [qc 2 [25,26] 5 (qEv a1 a2 v14 h15)] 5 [2,3] [(7,vp 7 0),(8,vi v14.2)] [0,1] [(5,ro 0 45 2 v14.1.Rings.length (rf qH v14.1.Rings)),(6,ro 0 68 7 v14.1.Defects.length (rf qD v14.1.Defects)),(7,bx 25 [.own 5 0 2 v14.1.Rings.length,.own 6 0 7 v14.1.Defects.length])] (q_jn (IL) (λp=>jQ p=some r) ?_ ?_)
   ·rintro x22 hm;obtain rfl:=oi hm;exact q_rt q_rm
   ·obtain⟨v16,h17,hm⟩:=qG hm;rcases bif_c hm with⟨b18,hm⟩|⟨b18,hm⟩
    ·rcases bif_c hm with⟨b19,hm⟩|⟨b19,hm⟩
     ·obtain⟨v20,h21,hm⟩:=qG hm
      refine q_vn [qd 2 (dex (cen [] [] 8 0 (WJ v16) (jY v16) [30,31] [2,3,5,6])) (zG (K:=(kx E 41 0)) (b:=false) ⟨[(30,va [.own 2 0 2 v12.1.Rings.length,.own 3 0 7 v12.1.Defects.length]),(31,va [.own 5 0 2 v14.1.Rings.length,.own 6 0 7 v14.1.Defects.length])],[(2,ro 0 45 2 v12.1.Rings.length (rf qH v12.1.Rings)),(3,ro 0 68 7 v12.1.Defects.length (rf qD v12.1.Defects)),(5,ro 0 45 2 v14.1.Rings.length (rf qH v14.1.Rings)),(6,ro 0 68 7 v14.1.Defects.length (rf qD v14.1.Defects))]⟩ (opAt (rg f8 62) 2) [] [] 8 (o1 (And.intro (And.intro (kg v12.1.Rings.length) (kg v12.1.Defects.length)) (And.intro (kg v14.1.Rings.length) (kg v14.1.Defects.length)))) rfl (BW (Scan.mk v12.1.Rings v12.1.Defects) (Scan.mk v14.1.Rings v14.1.Defects) v16 h17) (.inr ⟨(by kernel_rfl),LA v16⟩) (by kernel_rfl)),qf 3 b18,qf 8 b19,qk 9 [38] 8 ⟨[(38,vb true)],[]⟩ (II v20 h21)] 8 ⟨[(4,vb v20)],[]⟩ ?_
      exact q_J (v20) hm
     ·refine q_vn [qd 2 (dex (cen [] [] 8 0 (WJ v16) (jY v16) [30,31] [2,3,5,6])) (zG (K:=(kx E 41 0)) (b:=false) ⟨[(30,va [.own 2 0 2 v12.1.Rings.length,.own 3 0 7 v12.1.Defects.length]),(31,va [.own 5 0 2 v14.1.Rings.length,.own 6 0 7 v14.1.Defects.length])],[(2,ro 0 45 2 v12.1.Rings.length (rf qH v12.1.Rings)),(3,ro 0 68 7 v12.1.Defects.length (rf qD v12.1.Defects)),(5,ro 0 45 2 v14.1.Rings.length (rf qH v14.1.Rings)),(6,ro 0 68 7 v14.1.Defects.length (rf qD v14.1.Defects))]⟩ (opAt (rg f8 62) 2) [] [] 8 (o1 (And.intro (And.intro (kg v12.1.Rings.length) (kg v12.1.Defects.length)) (And.intro (kg v14.1.Rings.length) (kg v14.1.Defects.length)))) rfl (BW (Scan.mk v12.1.Rings v12.1.Defects) (Scan.mk v14.1.Rings v14.1.Defects) v16 h17) (.inr ⟨(by kernel_rfl),LA v16⟩) (by kernel_rfl)),qf 3 b18,qf 8 b19] 8 ⟨[(4,vb false)],[]⟩ ?_
      exact q_J (false) hm
    ·refine q_vn [qd 2 (dex (cen [] [] 8 0 (WJ v16) (jY v16) [30,31] [2,3,5,6])) (zG (K:=(kx E 41 0)) (b:=false) ⟨[(30,va [.own 2 0 2 v12.1.Rings.length,.own 3 0 7 v12.1.Defects.length]),(31,va [.own 5 0 2 v14.1.Rings.length,.own 6 0 7 v14.1.Defects.length])],[(2,ro 0 45 2 v12.1.Rings.length (rf qH v12.1.Rings)),(3,ro 0 68 7 v12.1.Defects.length (rf qD v12.1.Defects)),(5,ro 0 45 2 v14.1.Rings.length (rf qH v14.1.Rings)),(6,ro 0 68 7 v14.1.Defects.length (rf qD v14.1.Defects))]⟩ (opAt (rg f8 62) 2) [] [] 8 (o1 (And.intro (And.intro (kg v12.1.Rings.length) (kg v12.1.Defects.length)) (And.intro (kg v14.1.Rings.length) (kg v14.1.Defects.length)))) rfl (BW (Scan.mk v12.1.Rings v12.1.Defects) (Scan.mk v14.1.Rings v14.1.Defects) v16 h17) (.inr ⟨(by kernel_rfl),LA v16⟩) (by kernel_rfl)),qf 3 b18] 8 ⟨[(4,vb false)],[]⟩ ?_
     exact q_J (false) hm
 ·obtain⟨v3,h4,hm⟩:=qG hm;rcases bif_c hm with⟨b5,hm⟩|⟨b5,hm⟩
  ·exact q_vv [qc 1 [9] 2 (MT a1 v3 h4),qf 3 b5] 2 [] [(16,vb true)] (q_J (true) hm)
  ·obtain⟨v6,h7,hm⟩:=qG hm;exact q_vv [qc 1 [9] 2 (MT a1 v3 h4),qf 3 b5,qk 5 [12,13] 2 ⟨[(12,vb false),(13,va (qR a2))],[]⟩ (MT a2 v6 h7)] 2 [] [(16,vb (!v6))] (q_J (!v6) hm)
end Saw
end Go.SL

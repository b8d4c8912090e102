import Derived.Test.YthbamnkheinbgaaGreatDoorSBase
import Derived.Test.YthbamnkheinbgaaGreatDoorSLs
import Derived.Test.YthbamnkheinbgaaGreatDoorSFa5
import Derived.Test.YthbamnkheinbgaaGreatDoorSFa4
import Derived.Test.YthbamnkheinbgaaGreatDoorSFa6
set_option linter.unusedVariables false
set_option linter.unusedSimpArgs false
namespace Go.SL
namespace Saw
open Go.Proofs Go.Proofs.Tryz
set_option maxHeartbeats 4000000
set_option maxRecDepth 100000
def qBz (r:Bool):V:=vb r
def qBa (r:Bool):List (Nat×(Nat×O)):=[]
def IZ (x29:Bool):St:=
 ⟨[(4,vb x29)],[]⟩
def IX (x36:Bool):St:=
 ⟨[(4,vb x36)],[]⟩
def IW (a2:ByteArray) (x21:Bool):St:=
 ⟨[(1,vc (cs a2)),(47,vb x21)],[]⟩
def IU (a1:Scan) (a2:ByteArray) (x6:Bool):St:=
 ⟨[(1,vc (cs a2)),(2,vp 0 0),(20,vb x6)],[(0,bx 25 (zA a1))]⟩
theorem qAQ (a1:Scan) (a2:ByteArray) (r:Bool) (hm:WS a1 a2=some r):CtX Tryz.prog globs 6 0 0 [.agg (zA a1),.one (cs a2)] [] (qBz r) (qBa r):=by
 unfold WS at hm;refine q_E f6 81 λE=>?_;refine s_vn [] 0 ⟨[(1,vc (cs a2)),(2,vp 0 0)],[(0,bx 25 (zA a1))]⟩ (q_sq ?_);refine q_jn (IU a1 a2) (λp=>jQ a1 a2 p=some r) ?_ ?_
 ·rintro x6 hm;refine q_cq hm (λhm=>?_) (λhm=>?_)
  ·obtain⟨v8,h9,hm⟩:=qE hm;refine s_vn [qc 0 [] 1 (VW v8 h9)] 1 ⟨[(4,vb v8)],[]⟩ ?_;obtain rfl:=oi hm;exact q_rt q_rm
  ·refine q_sk ?_;obtain⟨v10,h11,hm⟩:=qE hm;refine s_vv [qc 1 [23] 1 (GE a1 v10 h11)] 1 [20] [(5,vc (cs v10.1)),(6,vi v10.2)] (q_sq ?_);obtain⟨v12,h13,hm⟩:=qE hm;refine s_vv [qc 2 [28] 1 (YK a1 v12 h13)] 1 [] [(30,vb (v10.2 !=v12))] (q_cq hm (λhm=>?_) (λhm=>?_))
   ·refine s_vn [] 1 ⟨[(4,vb false)],[]⟩ ?_;obtain rfl:=oi hm;exact q_rt q_rm
   ·refine q_sk (q_sq ?_);obtain⟨v15,h16,hm⟩:=qE hm;refine s_vu [qc 1 [32] 1 (VL v10.1 v15 h16)] 1 [5,30] [(7,vp 3 0),(8,vi v15.2)] [] [(1,ro 0 45 2 v15.1.Rings.length (rf qO v15.1.Rings)),(2,ro 0 68 7 v15.1.Defects.length (rf qM v15.1.Defects)),(3,bx 25 [.own 1 0 2 v15.1.Rings.length,.own 2 0 7 v15.1.Defects.length])] (q_jn (IW a2) (λp=>jS a2 p=some r) ?_ ?_)
    ·rintro x21 hm;refine q_cq hm (λhm=>?_) (λhm=>?_)
     ·refine s_vn [] 4 ⟨[(4,vb false)],[]⟩ ?_;obtain rfl:=oi hm;exact q_rt q_rm
     ·refine q_sk ?_;obtain⟨v23,h24,hm⟩:=qE hm;refine s_vu [qc 1 [49] 4 (VL a2 v23 h24)] 4 [47] [(9,vp 6 0),(10,vi v23.2)] [] [(4,ro 0 45 2 v23.1.Rings.length (rf qO v23.1.Rings)),(5,ro 0 68 7 v23.1.Defects.length (rf qM v23.1.Defects)),(6,bx 25 [.own 4 0 2 v23.1.Rings.length,.own 5 0 7 v23.1.Defects.length])] (q_sq ?_);refine s_vv [] 7 [10] [(54,vb (v23.2 !=0))] (q_cq hm (λhm=>?_) (λhm=>?_))
      ·refine q_jn (IZ) (λp=>QF p=some r) ?_ ?_
       ·rintro x29 hm;obtain rfl:=oi hm;exact q_rt q_rm
       ·rcases bif_c hm with⟨b26,hm⟩|⟨b26,hm⟩
        ·obtain⟨v27,h28,hm⟩:=qE hm;exact q_vn [qf 8 b26,qk 9 [63] 7 ⟨[(63,vb true)],[]⟩ (VW v27 h28)] 7 ⟨[(4,vb v27)],[]⟩ (q_J (v27) hm)
        ·exact q_vn [qf 8 b26] 7 ⟨[(4,vb false)],[]⟩ (q_J (false) hm)
      ·refine q_sk ?_;obtain⟨v30,h31,hm⟩:=qE hm
       refine s_vu [qd 1 (dex (cen [] [] 7 0 (IM v30) (PL v30) [67] [4,5])) (zG (K:=(kx E 81 0)) (b:=false) ⟨[(67,va [.own 4 0 2 v23.1.Rings.length,.own 5 0 7 v23.1.Defects.length])],[(4,ro 0 45 2 v23.1.Rings.length (rf qO v23.1.Rings)),(5,ro 0 68 7 v23.1.Defects.length (rf qM v23.1.Defects))]⟩ (opAt (rg f6 510) 1) [] [] 7 (o1 (And.intro (kr v23.1.Rings.length) (kr v23.1.Defects.length))) rfl (GE (Scan.mk v23.1.Rings v23.1.Defects) v30 h31) (.inr ⟨(by kernel_rfl),qEP v30⟩) (by kernel_rfl))] 7 [9,54] [(11,vc (cs v30.1)),(12,vi v30.2)] [4,5,6] [] (q_jn (IX) (λp=>QJ p=some r) ?_ ?_)
       ·rintro x36 hm;obtain rfl:=oi hm;exact q_rt q_rm
       ·rcases bif_c hm with⟨b32,hm⟩|⟨b32,hm⟩
        ·rcases bif_c hm with⟨b33,hm⟩|⟨b33,hm⟩
         ·obtain⟨v34,h35,hm⟩:=qE hm;exact q_vn [qf 2 b32,qf 7 b33,qk 8 [78] 7 ⟨[(78,vb true)],[]⟩ (VW v34 h35)] 7 ⟨[(4,vb v34)],[]⟩ (q_J (v34) hm)
         ·exact q_vn [qf 2 b32,qf 7 b33] 7 ⟨[(4,vb false)],[]⟩ (q_J (false) hm)
        ·exact q_vn [qf 2 b32] 7 ⟨[(4,vb false)],[]⟩ (q_J (false) hm)
    ·rcases bif_c hm with⟨b17,hm⟩|⟨b17,hm⟩
     ·rcases bif_c hm with⟨b18,hm⟩|⟨b18,hm⟩
      ·exact q_vn [qf 2 b17,qf 5 b18] 4 ⟨[(1,vc (cs a2)),(47,vb true)],[]⟩ (q_J (true) hm)
      ·obtain⟨v19,h20,hm⟩:=qE hm
       exact q_vn [qf 2 b17,qf 5 b18,qd 8 (dex (cen [] [] 4 0 (qA8 v19) (GR v19) [41,42,43] [1,2])) (zG (K:=(kx E 81 0)) (b:=false) ⟨[(41,vb false),(42,va [.own 1 0 2 v15.1.Rings.length,.own 2 0 7 v15.1.Defects.length]),(43,va (zA a1))],[(1,ro 0 45 2 v15.1.Rings.length (rf qO v15.1.Rings)),(2,ro 0 68 7 v15.1.Defects.length (rf qM v15.1.Defects))]⟩ (opAt (rg f6 250) 8) [] [] 4 (o1 (And.intro (kr v15.1.Rings.length) (kr v15.1.Defects.length))) rfl (qAd (Scan.mk v15.1.Rings v15.1.Defects) a1 v19 h20) (.inr ⟨(by kernel_rfl),qGH v19⟩) (by kernel_rfl))] 4 ⟨[(1,vc (cs a2)),(47,vb (!v19))],[]⟩ (q_J (!v19) hm)
     ·exact q_vn [qf 2 b17] 4 ⟨[(1,vc (cs a2)),(47,vb false)],[]⟩ (q_J (false) hm)
 ·obtain⟨v3,h4,hm⟩:=qE hm;rcases bif_c hm with⟨b5,hm⟩|⟨b5,hm⟩
  ·exact q_vv [qc 1 [13] 1 (OR a1 v3 h4),qf 3 b5] 1 [] [(20,vb true)] (q_J (true) hm)
  ·exact q_vv [qc 1 [13] 1 (OR a1 v3 h4),qf 3 b5] 1 [] [(20,vb (decide ((a2.size:Int)>20000)))] (q_J (decide ((a2.size:Int)>20000)) hm)
end Saw
end Go.SL

import Derived.Test.YthbamnkheinbgaaGreatDoorSBase
import Derived.Test.YthbamnkheinbgaaGreatDoorSLs
import Derived.Test.YthbamnkheinbgaaGreatDoorSFa7
import Derived.Test.YthbamnkheinbgaaGreatDoorSFa8
import Derived.Test.YthbamnkheinbgaaGreatDoorSFa6
set_option linter.unusedVariables false
set_option linter.unusedSimpArgs false
namespace Go.SL
namespace Saw
open Go.Proofs Go.Proofs.Tryz
set_option maxHeartbeats 4000000
set_option maxRecDepth 100000
def qB0 (r:Bool):V:=vb r
def qB5 (r:Bool):List (Nat×(Nat×O)):=[]
def CP (x27:Bool):St:=
 ⟨[(6,vb x27)],[]⟩
def CY (a1:Scan) (a2:Scan) (a3:Int) (x9:Bool):St:=
 ⟨[(2,vi a3),(3,vp 0 0),(4,vp 1 0),(14,vb x9)],[(0,bx 25 (qP a1)),(1,bx 25 (qP a2))]⟩
theorem qBr (a1:Scan) (a2:Scan) (a3:Int) (r:Bool) (hm:ZS a1 a2 a3=some r):CtX Tryz.prog globs 10 0 0 [.agg (qP a1),.agg (qP a2),.one (ci a3)] [] (qB0 r) (qB5 r):=by
 unfold ZS at hm;refine q_E f10 35 λE=>?_;refine s_vn [] 0 ⟨[(2,vi a3),(3,vp 0 0),(4,vp 1 0)],[(0,bx 25 (qP a1)),(1,bx 25 (qP a2))]⟩ (q_sq ?_);refine q_jn (CY a1 a2 a3) (λp=>jA a1 a2 a3 p=some r) ?_ ?_
 ·rintro x9 hm;refine q_cq hm (λhm=>?_) (λhm=>?_)
  ·obtain⟨v11,h12,hm⟩:=qE hm;refine s_vn [qc 0 [] 2 (IM v11 h12)] 2 ⟨[(6,vb v11)],[]⟩ ?_;obtain rfl:=oi hm;exact q_rt q_rm
  ·refine q_sk (q_jn (CP) (λp=>yK p=some r) ?_ ?_)
   ·rintro x27 hm;obtain rfl:=oi hm;exact q_rt q_rm
   ·obtain⟨v13,h14,hm⟩:=qE hm;obtain⟨v15,h16,hm⟩:=qE hm;obtain⟨v17,h18,hm⟩:=qE hm;rcases bif_c hm with⟨b19,hm⟩|⟨b19,hm⟩
    ·obtain⟨v20,h21,hm⟩:=qE hm;obtain⟨v22,h23,hm⟩:=qE hm;rcases bif_c hm with⟨b24,hm⟩|⟨b24,hm⟩
     ·obtain⟨v25,h26,hm⟩:=qE hm
      refine q_dn [qc 2 [16,17] 2 (HU a1 a3 v13 h14),qc 5 [19,20] 4 (NX a1 a3 v15 h16),qd 6 (dex (cen [] [] 4 0 (WV v17) (yI v17) [18,21] [2,3])) (zJ (K:=(kx E 35 0)) (b:=false) ⟨[(18,va [.own 2 0 2 v13.Rings.length,.own 3 0 7 v13.Defects.length]),(21,va (qP v15))],[(2,ro 0 45 2 v13.Rings.length (rf qI v13.Rings)),(3,ro 0 68 7 v13.Defects.length (rf qG v13.Defects))]⟩ (opAt (rg f10 14) 6) [] [] 4 (o1 (And.intro (kg v13.Rings.length) (kg v13.Defects.length))) rfl (YH (Scan.mk v13.Rings v13.Defects) v15 v17 h18) (.inr ⟨(by kernel_rfl),LV v17⟩) (by kernel_rfl)),qf 7 b19,qk 10 [23,24,25] 4 ⟨[(23,vb true),(24,va (qP a1)),(25,va (qP a2))],[]⟩ (MO a1 a2 v20 h21),qk 13 [23,27,28] 4 ⟨[(23,vb true),(27,va (qP a1)),(28,va (qP a2))],[]⟩ (YH a1 a2 v22 h23),qf 16 b24,qk 17 [32] 4 ⟨[(32,vb true)],[]⟩ (IM v25 h26)] [0,0,3,0,0,31,63,127,255,255,1023,255,255,8191,16383,32767,65535,131071,262143,524287] 2 ⟨[(6,vb v25)],[]⟩ ?_
      exact q_J (v25) hm
     ·refine q_dn [qc 2 [16,17] 2 (HU a1 a3 v13 h14),qc 5 [19,20] 4 (NX a1 a3 v15 h16),qd 6 (dex (cen [] [] 4 0 (WV v17) (yI v17) [18,21] [2,3])) (zJ (K:=(kx E 35 0)) (b:=false) ⟨[(18,va [.own 2 0 2 v13.Rings.length,.own 3 0 7 v13.Defects.length]),(21,va (qP v15))],[(2,ro 0 45 2 v13.Rings.length (rf qI v13.Rings)),(3,ro 0 68 7 v13.Defects.length (rf qG v13.Defects))]⟩ (opAt (rg f10 14) 6) [] [] 4 (o1 (And.intro (kg v13.Rings.length) (kg v13.Defects.length))) rfl (YH (Scan.mk v13.Rings v13.Defects) v15 v17 h18) (.inr ⟨(by kernel_rfl),LV v17⟩) (by kernel_rfl)),qf 7 b19,qk 10 [23,24,25] 4 ⟨[(23,vb true),(24,va (qP a1)),(25,va (qP a2))],[]⟩ (MO a1 a2 v20 h21),qk 13 [23,27,28] 4 ⟨[(23,vb true),(27,va (qP a1)),(28,va (qP a2))],[]⟩ (YH a1 a2 v22 h23),qf 16 b24] [0,0,3,0,0,31,63,127,255,255,1023,255,255,8191,16383,32767,65535,131071,262143,524287] 2 ⟨[(6,vb false)],[]⟩ ?_
      exact q_J (false) hm
    ·exact q_dn [qc 2 [16,17] 2 (HU a1 a3 v13 h14),qc 5 [19,20] 4 (NX a1 a3 v15 h16),qd 6 (dex (cen [] [] 4 0 (WV v17) (yI v17) [18,21] [2,3])) (zJ (K:=(kx E 35 0)) (b:=false) ⟨[(18,va [.own 2 0 2 v13.Rings.length,.own 3 0 7 v13.Defects.length]),(21,va (qP v15))],[(2,ro 0 45 2 v13.Rings.length (rf qI v13.Rings)),(3,ro 0 68 7 v13.Defects.length (rf qG v13.Defects))]⟩ (opAt (rg f10 14) 6) [] [] 4 (o1 (And.intro (kg v13.Rings.length) (kg v13.Defects.length))) rfl (YH (Scan.mk v13.Rings v13.Defects) v15 v17 h18) (.inr ⟨(by kernel_rfl),LV v17⟩) (by kernel_rfl)),qf 7 b19] [0,0,3,0,0,31,63,127,255,255,1023,255,255,8191,16383,32767,65535,131071,262143,524287] 2 ⟨[(6,vb false)],[]⟩ (q_J (false) hm)
 ·obtain⟨v4,h5,hm⟩:=qE hm;rcases bif_c hm with⟨b6,hm⟩|⟨b6,hm⟩
  ·exact q_vv [qc 1 [7] 2 (LZ a1 v4 h5),qf 3 b6] 2 [] [(14,vb true)] (q_J (true) hm)
  ·obtain⟨v7,h8,hm⟩:=qE hm;exact q_vv [qc 1 [7] 2 (LZ a1 v4 h5),qf 3 b6,qk 5 [10,11] 2 ⟨[(10,vb false),(11,va (qP a2))],[]⟩ (LZ a2 v7 h8)] 2 [] [(14,vb (!v7))] (q_J (!v7) hm)
end Saw
end Go.SL

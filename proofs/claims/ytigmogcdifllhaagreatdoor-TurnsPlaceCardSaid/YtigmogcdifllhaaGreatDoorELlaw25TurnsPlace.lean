import Derived.Test.YtigmogcdifllhaaGreatDoorEBase
import Derived.Test.YtigmogcdifllhaaGreatDoorELlaw25awake
import Derived.Test.YtigmogcdifllhaaGreatDoorEFa2
import Derived.Test.YtigmogcdifllhaaGreatDoorEFa6
import Derived.Test.YtigmogcdifllhaaGreatDoorELs
import Derived.Test.YtigmogcdifllhaaGreatDoorEFa13
set_option linter.unusedVariables false
set_option linter.unusedSimpArgs false
namespace Go.SL
namespace Saw
open Go.Proofs Go.Proofs.Tryz
set_option maxHeartbeats 4000000
set_option maxRecDepth 100000
def qJg (r:Bool):V:=vb r
def qJn (r:Bool):List (Nat×(Nat×O)):=[]
def qGN (x37:Bool):St:=
 ⟨[(6,vb x37)],[]⟩
def qHr (a1:ZQ) (a2:Int) (a3:Int) (x9:Bool):St:=
 ⟨[(1,vc (.val (.int .i8 a2))),(2,vc (.val (.int .i8 a3))),(3,vp 0 0),(26,vb x9)],[(0,bx 27 (MN a1))]⟩
theorem qIM (a1:ZQ) (a2:Int) (a3:Int) (r:Bool) (hm:XV a1 a2 a3=some r):CtX Tryz.prog globs 5 0 0 [.agg (MN a1),.one (.val (.int .i8 a2)),.one (.val (.int .i8 a3))] [] (qJg r) (qJn r):=by
 unfold XV at hm;refine q_E f5 109 λE=>?_;refine s_vn [] 0 ⟨[(1,vc (.val (.int .i8 a2))),(2,vc (.val (.int .i8 a3))),(3,vp 0 0)],[(0,bx 27 (MN a1))]⟩ (q_sq ?_);refine q_jn (qHr a1 a2 a3) (λp=>yZ a1 a2 a3 p=some r) ?_ ?_
 ·rintro x9 hm;refine q_cq hm (λhm=>?_) (λhm=>?_)
  ·obtain⟨v11,h12,hm⟩:=qB hm;refine s_vn [qc 0 [] 1 (qHj v11 h12)] 1 ⟨[(6,vb v11)],[]⟩ ?_;obtain rfl:=oi hm;exact q_rt q_rm
  ·refine q_sk ?_;obtain⟨v13,h14,hm⟩:=qB hm;refine s_vu [qc 4 [29,31] 1 (qKr a1.Scan (w64 (a2)) v13 h14)] 1 [26] [(7,vp 3 0)] [] [(1,ro 0 71 2 v13.Rings.length (rf qX v13.Rings)),(2,ro 0 87 7 v13.Defects.length (rf qI v13.Defects)),(3,bx 25 [.own 1 0 2 v13.Rings.length,.own 2 0 7 v13.Defects.length])] ?_;obtain⟨v15,h16,hm⟩:=qB hm
   refine s_vu [qd 7 (dpr [.frz 1,.frz 2] (dex (cen [] [] 4 0 (qCn v15) (qCy v15) [34,36,38,40] []))) (And.intro (And.intro (ke v13.Rings.length) (ke v13.Rings.length)) (And.intro (ke v13.Defects.length) (ke v13.Defects.length))),qd 7 dN (wB (K:=(kx E 109 0)) ⟨[(34,va (zZ v13)),(36,vi (w64 (a3))),(38,vi a1.Limit),(40,vi a1.Most)],[]⟩ (opAt (rg f5 30) 7) [] [] 4 o0 rfl (RW v13 (w64 (a3)) a1.Limit a1.Most v15 h16) (.inl rfl) (by kernel_rfl))] 4 [7] [(8,vc (tl qM dd v15.1)),(9,vc (tl qI dd v15.2.1)),(10,vi v15.2.2)] [1,2,3] [] ?_;obtain⟨v17,h18,hm⟩:=qB hm
   refine s_vv [qc 11 [47,52,54,56] 4 (RW a1.Scan (w64 ((w64 (a2))+(w64 (a3)))) a1.Limit a1.Most v17 h18)] 4 [] [(11,vc (tl qM dd v17.1)),(12,vc (tl qI dd v17.2.1)),(13,vi v17.2.2)] ?_;obtain⟨v19,h20,hm⟩:=qB hm;refine s_vu [qc 12 [63,69,71,73] 4 (RW a1.Scan (w64 ((w64 ((w64 (a2))+(w64 (a3))))+4)) a1.Limit a1.Most v19 h20)] 4 [1,2,3] [(14,vc (tl qM dd v19.1)),(15,vc (tl qI dd v19.2.1)),(16,vi v19.2.2)] [0] [] (q_jn (qGN) (λp=>wP p=some r) ?_ ?_)
   ·rintro x37 hm;obtain rfl:=oi hm;exact q_rt q_rm
   ·rcases bif_c hm with⟨b21,hm⟩|⟨b21,hm⟩
    ·obtain⟨v22,h23,hm⟩:=qB hm;rcases bif_c hm with⟨b24,hm⟩|⟨b24,hm⟩
     ·obtain⟨v25,h26,hm⟩:=qB hm;rcases bif_c hm with⟨b27,hm⟩|⟨b27,hm⟩
      ·rcases bif_c hm with⟨b28,hm⟩|⟨b28,hm⟩
       ·obtain⟨v29,h30,hm⟩:=qB hm;rcases bif_c hm with⟨b31,hm⟩|⟨b31,hm⟩
        ·obtain⟨v32,h33,hm⟩:=qB hm;rcases bif_c hm with⟨b34,hm⟩|⟨b34,hm⟩
         ·obtain⟨v35,h36,hm⟩:=qB hm
          exact q_vn [qf 3 b21,qk 6 [81,82,83] 4 ⟨[(81,vb true),(82,vc (tl qM dd v15.1)),(83,vc (tl qM dd v17.1))],[]⟩ (wU v15.1 v17.1 v22 h23),qf 8 b24,qk 11 [86,87,88] 4 ⟨[(86,vb true),(87,vc (tl qI dd v15.2.1)),(88,vc (tl qI dd v17.2.1))],[]⟩ (QG v15.2.1 v17.2.1 v25 h26),qf 13 b27,qf 18 b28,qk 21 [96,97,98] 4 ⟨[(96,vb true),(97,vc (tl qM dd v19.1)),(98,vc (tl qM dd v17.1))],[]⟩ (wU v19.1 v17.1 v29 h30),qf 23 b31,qk 26 [101,102,103] 4 ⟨[(101,vb true),(102,vc (tl qI dd v19.2.1)),(103,vc (tl qI dd v17.2.1))],[]⟩ (QG v19.2.1 v17.2.1 v32 h33),qf 28 b34,qk 29 [106] 4 ⟨[(106,vb true)],[]⟩ (qHj v35 h36)] 4 ⟨[(6,vb v35)],[]⟩ (q_J (v35) hm)
         ·exact q_vn [qf 3 b21,qk 6 [81,82,83] 4 ⟨[(81,vb true),(82,vc (tl qM dd v15.1)),(83,vc (tl qM dd v17.1))],[]⟩ (wU v15.1 v17.1 v22 h23),qf 8 b24,qk 11 [86,87,88] 4 ⟨[(86,vb true),(87,vc (tl qI dd v15.2.1)),(88,vc (tl qI dd v17.2.1))],[]⟩ (QG v15.2.1 v17.2.1 v25 h26),qf 13 b27,qf 18 b28,qk 21 [96,97,98] 4 ⟨[(96,vb true),(97,vc (tl qM dd v19.1)),(98,vc (tl qM dd v17.1))],[]⟩ (wU v19.1 v17.1 v29 h30),qf 23 b31,qk 26 [101,102,103] 4 ⟨[(101,vb true),(102,vc (tl qI dd v19.2.1)),(103,vc (tl qI dd v17.2.1))],[]⟩ (QG v19.2.1 v17.2.1 v32 h33),qf 28 b34] 4 ⟨[(6,vb false)],[]⟩ (q_J (false) hm)
        ·exact q_vn [qf 3 b21,qk 6 [81,82,83] 4 ⟨[(81,vb true),(82,vc (tl qM dd v15.1)),(83,vc (tl qM dd v17.1))],[]⟩ (wU v15.1 v17.1 v22 h23),qf 8 b24,qk 11 [86,87,88] 4 ⟨[(86,vb true),(87,vc (tl qI dd v15.2.1)),(88,vc (tl qI dd v17.2.1))],[]⟩ (QG v15.2.1 v17.2.1 v25 h26),qf 13 b27,qf 18 b28,qk 21 [96,97,98] 4 ⟨[(96,vb true),(97,vc (tl qM dd v19.1)),(98,vc (tl qM dd v17.1))],[]⟩ (wU v19.1 v17.1 v29 h30),qf 23 b31] 4 ⟨[(6,vb false)],[]⟩ (q_J (false) hm)
       ·exact q_vn [qf 3 b21,qk 6 [81,82,83] 4 ⟨[(81,vb true),(82,vc (tl qM dd v15.1)),(83,vc (tl qM dd v17.1))],[]⟩ (wU v15.1 v17.1 v22 h23),qf 8 b24,qk 11 [86,87,88] 4 ⟨[(86,vb true),(87,vc (tl qI dd v15.2.1)),(88,vc (tl qI dd v17.2.1))],[]⟩ (QG v15.2.1 v17.2.1 v25 h26),qf 13 b27,qf 18 b28] 4 ⟨[(6,vb false)],[]⟩ (q_J (false) hm)
      ·exact q_vn [qf 3 b21,qk 6 [81,82,83] 4 ⟨[(81,vb true),(82,vc (tl qM dd v15.1)),(83,vc (tl qM dd v17.1))],[]⟩ (wU v15.1 v17.1 v22 h23),qf 8 b24,qk 11 [86,87,88] 4 ⟨[(86,vb true),(87,vc (tl qI dd v15.2.1)),(88,vc (tl qI dd v17.2.1))],[]⟩ (QG v15.2.1 v17.2.1 v25 h26),qf 13 b27] 4 ⟨[(6,vb false)],[]⟩ (q_J (false) hm)
     ·exact q_vn [qf 3 b21,qk 6 [81,82,83] 4 ⟨[(81,vb true),(82,vc (tl qM dd v15.1)),(83,vc (tl qM dd v17.1))],[]⟩ (wU v15.1 v17.1 v22 h23),qf 8 b24] 4 ⟨[(6,vb false)],[]⟩ (q_J (false) hm)
    ·exact q_vn [qf 3 b21] 4 ⟨[(6,vb false)],[]⟩ (q_J (false) hm)
 ·obtain⟨v4,h5,hm⟩:=qB hm;rcases bif_c hm with⟨b6,hm⟩|⟨b6,hm⟩
  ·exact q_vv [qc 2 [18] 1 (qJX a1.Scan v4 h5),qf 4 b6] 1 [] [(26,vb true)] (q_J (true) hm)
  ·obtain⟨v7,h8,hm⟩:=qB hm;exact q_vv [qc 2 [18] 1 (qJX a1.Scan v4 h5),qf 4 b6,qk 7 [21,23] 1 ⟨[(21,vb false),(23,va (zZ a1.Scan))],[]⟩ (qQF a1.Scan v7 h8)] 1 [] [(26,vb (v7 !=0))] (q_J (v7 !=0) hm)
end Saw
end Go.SL

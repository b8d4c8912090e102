import Derived.Test.YtidlfgiogdjkaaaGreatDoorEBase
import Derived.Test.YtidlfgiogdjkaaaGreatDoorELs
import Derived.Test.YtidlfgiogdjkaaaGreatDoorELlaw24awake
import Derived.Test.YtidlfgiogdjkaaaGreatDoorEFa14
set_option linter.unusedVariables false
set_option linter.unusedSimpArgs false
namespace Go.SL
namespace Saw
open Go.Proofs Go.Proofs.Tryz
set_option maxHeartbeats 4000000
set_option maxRecDepth 100000
def qLr (r:Bool):V:=vb r
def qL9 (r:Bool):List (Nat×(Nat×O)):=[]
def qI8 (x18:Bool):St:=
 ⟨[(2,vb x18)],[]⟩
theorem qKC (a1:zB) (r:Bool) (hm:MG a1=some r):CtX Tryz.prog globs 4 0 0 [.agg (QG a1)] [] (qLr r) (qL9 r):=by
 unfold MG at hm;refine q_E f4 52 λE=>?_;refine s_vn [] 0 ⟨[(1,vp 0 0)],[(0,bx 42 (QG a1))]⟩ (q_sq ?_);obtain⟨v2,h3,hm⟩:=qB hm;refine s_vv [qc 1 [9] 1 (qRj a1 v2 h3)] 1 [] [(11,vb (!v2))] (q_cq hm (λhm=>?_) (λhm=>?_))
 ·obtain⟨v5,h6,hm⟩:=qB hm;refine s_vn [qc 0 [] 1 (qHD v5 h6)] 1 ⟨[(2,vb v5)],[]⟩ ?_;obtain rfl:=oi hm;exact q_rt q_rm
 ·refine q_sk ?_;obtain⟨v7,h8,hm⟩:=qB hm;refine s_vu [qc 1 [14] 1 (qDR a1 v7 h8)] 1 [11] [(3,vp 2 0),(4,vi v7.2.1),(5,vi v7.2.2)] [] [(1,ro 0 65 2 v7.1.Nodes.length (rf qE v7.1.Nodes)),(2,bx 46 [ci v7.1.Frame.X.A,ci v7.1.Frame.X.B,ci v7.1.Frame.Y.A,ci v7.1.Frame.Y.B,.own 1 0 2 v7.1.Nodes.length])] ?_;obtain⟨v9,h10,hm⟩:=qB hm
  refine s_vu [qc 12 [21,23,25,27,29,31] 3 (qUu a1.Solid a1.Defects a1.Products a1.Frame a1.Saw a1.Rates v9 h10)] 3 [1] [(6,vp 4 0),(7,vi v9.2.1),(8,vi v9.2.2)] [0] [(3,ro 0 65 2 v9.1.Nodes.length (rf qE v9.1.Nodes)),(4,bx 46 [ci v9.1.Frame.X.A,ci v9.1.Frame.X.B,ci v9.1.Frame.Y.A,ci v9.1.Frame.Y.B,.own 3 0 2 v9.1.Nodes.length])] (q_jn (qI8) (λp=>jI p=some r) ?_ ?_)
  ·rintro x18 hm;obtain rfl:=oi hm;exact q_rt q_rm
  ·obtain⟨v11,h12,hm⟩:=qB hm;rcases bif_c hm with⟨b13,hm⟩|⟨b13,hm⟩
   ·rcases bif_c hm with⟨b14,hm⟩|⟨b14,hm⟩
    ·rcases bif_c hm with⟨b15,hm⟩|⟨b15,hm⟩
     ·obtain⟨v16,h17,hm⟩:=qB hm
      refine q_vn [qd 2 (dex (cen [] [] 5 0 (RR v11) (JM v11) [36,37] [1,3])) (wU (K:=(kx E 52 0)) (b:=false) ⟨[(36,va [ci v7.1.Frame.X.A,ci v7.1.Frame.X.B,ci v7.1.Frame.Y.A,ci v7.1.Frame.Y.B,.own 1 0 2 v7.1.Nodes.length]),(37,va [ci v9.1.Frame.X.A,ci v9.1.Frame.X.B,ci v9.1.Frame.Y.A,ci v9.1.Frame.Y.B,.own 3 0 2 v9.1.Nodes.length])],[(1,ro 0 65 2 v7.1.Nodes.length (rf qE v7.1.Nodes)),(3,ro 0 65 2 v9.1.Nodes.length (rf qE v9.1.Nodes))]⟩ (opAt (rg f4 62) 2) [] [] 5 (o1 (And.intro (ki v7.1.Nodes.length) (ki v9.1.Nodes.length))) rfl (CB (qN.mk v7.1.Frame v7.1.Nodes) (qN.mk v9.1.Frame v9.1.Nodes) v11 h12) (.inr ⟨(by kernel_rfl),qBH v11⟩) (by kernel_rfl)),qf 3 b13,qf 8 b14,qf 13 b15,qk 14 [49] 5 ⟨[(49,vb true)],[]⟩ (qHD v16 h17)] 5 ⟨[(2,vb v16)],[]⟩ ?_
      exact q_J (v16) hm
     ·exact q_vn [qd 2 (dex (cen [] [] 5 0 (RR v11) (JM v11) [36,37] [1,3])) (wU (K:=(kx E 52 0)) (b:=false) ⟨[(36,va [ci v7.1.Frame.X.A,ci v7.1.Frame.X.B,ci v7.1.Frame.Y.A,ci v7.1.Frame.Y.B,.own 1 0 2 v7.1.Nodes.length]),(37,va [ci v9.1.Frame.X.A,ci v9.1.Frame.X.B,ci v9.1.Frame.Y.A,ci v9.1.Frame.Y.B,.own 3 0 2 v9.1.Nodes.length])],[(1,ro 0 65 2 v7.1.Nodes.length (rf qE v7.1.Nodes)),(3,ro 0 65 2 v9.1.Nodes.length (rf qE v9.1.Nodes))]⟩ (opAt (rg f4 62) 2) [] [] 5 (o1 (And.intro (ki v7.1.Nodes.length) (ki v9.1.Nodes.length))) rfl (CB (qN.mk v7.1.Frame v7.1.Nodes) (qN.mk v9.1.Frame v9.1.Nodes) v11 h12) (.inr ⟨(by kernel_rfl),qBH v11⟩) (by kernel_rfl)),qf 3 b13,qf 8 b14,qf 13 b15] 5 ⟨[(2,vb false)],[]⟩ (q_J (false) hm)
    ·exact q_vn [qd 2 (dex (cen [] [] 5 0 (RR v11) (JM v11) [36,37] [1,3])) (wU (K:=(kx E 52 0)) (b:=false) ⟨[(36,va [ci v7.1.Frame.X.A,ci v7.1.Frame.X.B,ci v7.1.Frame.Y.A,ci v7.1.Frame.Y.B,.own 1 0 2 v7.1.Nodes.length]),(37,va [ci v9.1.Frame.X.A,ci v9.1.Frame.X.B,ci v9.1.Frame.Y.A,ci v9.1.Frame.Y.B,.own 3 0 2 v9.1.Nodes.length])],[(1,ro 0 65 2 v7.1.Nodes.length (rf qE v7.1.Nodes)),(3,ro 0 65 2 v9.1.Nodes.length (rf qE v9.1.Nodes))]⟩ (opAt (rg f4 62) 2) [] [] 5 (o1 (And.intro (ki v7.1.Nodes.length) (ki v9.1.Nodes.length))) rfl (CB (qN.mk v7.1.Frame v7.1.Nodes) (qN.mk v9.1.Frame v9.1.Nodes) v11 h12) (.inr ⟨(by kernel_rfl),qBH v11⟩) (by kernel_rfl)),qf 3 b13,qf 8 b14] 5 ⟨[(2,vb false)],[]⟩ (q_J (false) hm)
   ·exact q_vn [qd 2 (dex (cen [] [] 5 0 (RR v11) (JM v11) [36,37] [1,3])) (wU (K:=(kx E 52 0)) (b:=false) ⟨[(36,va [ci v7.1.Frame.X.A,ci v7.1.Frame.X.B,ci v7.1.Frame.Y.A,ci v7.1.Frame.Y.B,.own 1 0 2 v7.1.Nodes.length]),(37,va [ci v9.1.Frame.X.A,ci v9.1.Frame.X.B,ci v9.1.Frame.Y.A,ci v9.1.Frame.Y.B,.own 3 0 2 v9.1.Nodes.length])],[(1,ro 0 65 2 v7.1.Nodes.length (rf qE v7.1.Nodes)),(3,ro 0 65 2 v9.1.Nodes.length (rf qE v9.1.Nodes))]⟩ (opAt (rg f4 62) 2) [] [] 5 (o1 (And.intro (ki v7.1.Nodes.length) (ki v9.1.Nodes.length))) rfl (CB (qN.mk v7.1.Frame v7.1.Nodes) (qN.mk v9.1.Frame v9.1.Nodes) v11 h12) (.inr ⟨(by kernel_rfl),qBH v11⟩) (by kernel_rfl)),qf 3 b13] 5 ⟨[(2,vb false)],[]⟩ (q_J (false) hm)
end Saw
end Go.SL

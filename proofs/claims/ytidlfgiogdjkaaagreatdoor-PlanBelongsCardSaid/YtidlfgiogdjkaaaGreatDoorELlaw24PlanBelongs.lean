import Derived.Test.YtidlfgiogdjkaaaGreatDoorEBase
import Derived.Test.YtidlfgiogdjkaaaGreatDoorELs
import Derived.Test.YtidlfgiogdjkaaaGreatDoorELlaw24awake
import Derived.Test.YtidlfgiogdjkaaaGreatDoorEFa10
set_option linter.unusedVariables false
set_option linter.unusedSimpArgs false
namespace Go.SL
namespace Saw
open Go.Proofs
set_option maxHeartbeats 4000000
set_option maxRecDepth 100000
def qEJ (r:Bool):V:=vb r
def qEI (r:Bool):List (Nat×(Nat×O)):=[]
def FT (x15:Bool):St:=
 ⟨[(2,vb x15)],[]⟩
def FZ (x25:Bool):St:=
 ⟨[(2,vb x25)],[]⟩
theorem qD3 (a1:Law24_Given) (r:Bool) (hm:RE a1=some r):CtX Tryz.prog globs 7 0 0 [.agg (jZ a1)] [] (qEJ r) (qEI r):=by
 unfold RE at hm;refine q_E Tryz.f7 61 λE=>?_;refine s_vn [] 0 ⟨[(1,vp 0 0)],[(0,bx 42 (jZ a1))]⟩ ?_;refine q_sq ?_;obtain⟨v2,h3,hm⟩:=qB hm;refine s_vu [qc 1 [6] 1 (qJN a1 v2 h3)] 1 [] [(8,vb (!v2))] [] [] ?_;refine q_cm hm (λb4 hm=>?_) (λb4 hm=>?_)
 ·obtain⟨v5,h6,hm⟩:=qB hm;refine s_vn [qc 0 [] 1 (AO v5 h6)] 1 ⟨[(2,vb v5)],[]⟩ ?_;obtain rfl:=oi hm;refine q_rt ?_;exact q_rm
 ·refine q_sk ?_;obtain⟨v7,h8,hm⟩:=qB hm;refine s_vu [qc 1 [11] 1 (law24_best_ok a1 v7 h8)] 1 [8] [(3,vp 2 0),(4,vi v7.2.1),(5,vi v7.2.2)] [] [(1,ro 0 65 2 v7.1.Nodes.length (rf e_Node v7.1.Nodes)),(2,bx 46 [ci v7.1.Frame.X.A,ci v7.1.Frame.X.B,ci v7.1.Frame.Y.A,ci v7.1.Frame.Y.B,.own 1 0 2 v7.1.Nodes.length])] ?_;refine q_sq ?_;refine s_vu [] 3 [5] [(17,vb (v7.2.2 !=0))] [] [] ?_;refine q_cm hm (λb9 hm=>?_) (λb9 hm=>?_)
  ·refine q_jn (ι:=Bool) (λp=>FT p) (λp=>zX p=some r) ?_ ?_
   ·rintro x15 hm;show H _ (FT x15) _ _;obtain rfl:=oi hm;refine q_rt ?_;exact q_rm
   ·rcases bif_c hm with⟨b10,hm⟩|⟨b10,hm⟩
    ·rcases bif_c hm with⟨b11,hm⟩|⟨b11,hm⟩
     ·rcases bif_c hm with⟨b12,hm⟩|⟨b12,hm⟩
      ·obtain⟨v13,h14,hm⟩:=qB hm;refine q_vn [qf 4 b10,qf 10 b11,qf 14 b12,qk 15 [32] 3 ⟨[(32,vb true)],[]⟩ (AO v13 h14)] 3 ⟨[(2,vb v13)],[]⟩ ?_;exact q_J (v13) hm
      ·refine q_vn [qf 4 b10,qf 10 b11,qf 14 b12] 3 ⟨[(2,vb false)],[]⟩ ?_;exact q_J (false) hm
     ·refine q_vn [qf 4 b10,qf 10 b11] 3 ⟨[(2,vb false)],[]⟩ ?_;exact q_J (false) hm
    ·refine q_vn [qf 4 b10] 3 ⟨[(2,vb false)],[]⟩ ?_;exact q_J (false) hm
  ·refine q_sk ?_;refine q_jn (ι:=Bool) (λp=>FZ p) (λp=>zW p=some r) ?_ ?_
   ·rintro x25 hm;show H _ (FZ x25) _ _;obtain rfl:=oi hm;refine q_rt ?_;exact q_rm
   ·rcases bif_c hm with⟨b16,hm⟩|⟨b16,hm⟩
    ·obtain⟨v17,h18,hm⟩:=qB hm;rcases bif_c hm with⟨b19,hm⟩|⟨b19,hm⟩
     ·obtain⟨v20,h21,hm⟩:=qB hm;rcases bif_c hm with⟨b22,hm⟩|⟨b22,hm⟩
      ·obtain⟨v23,h24,hm⟩:=qB hm
       refine q_vn [qf 5 b16,qd 12 (dex (cen [] [] 3 0 (GG v17) (JU v17) [40,41,43,46] [1])) (wF (K:=(kx E 61 0)) (b:=false) ⟨[(40,vb true),(41,va [ci v7.1.Frame.X.A,ci v7.1.Frame.X.B,ci v7.1.Frame.Y.A,ci v7.1.Frame.Y.B,.own 1 0 2 v7.1.Nodes.length]),(43,vc (tl qC default a1.Products)),(46,vi a1.Saw.Kerf)],[(1,ro 0 65 2 v7.1.Nodes.length (rf e_Node v7.1.Nodes))]⟩ (opAt (rg Tryz.f7 62) 12) [] [] 3 (o1 (Nat.le_refl v7.1.Nodes.length)) rfl (ML (Pattern.mk v7.1.Frame v7.1.Nodes) a1.Products a1.Saw.Kerf v17 h18) (.inr ⟨(by kernel_rfl),SJ v17⟩) (by kernel_rfl)),qf 15 b19,qd 21 (dex (cen [] [] 3 0 (KE v20) (ZQ v20) [50,51,53,55] [1])) (wF (K:=(kx E 61 0)) (b:=false) ⟨[(50,vb true),(51,va [ci v7.1.Frame.X.A,ci v7.1.Frame.X.B,ci v7.1.Frame.Y.A,ci v7.1.Frame.Y.B,.own 1 0 2 v7.1.Nodes.length]),(53,vc (tl qC default a1.Products)),(55,va (qU a1.Saw))],[(1,ro 0 65 2 v7.1.Nodes.length (rf e_Node v7.1.Nodes))]⟩ (opAt (rg Tryz.f7 62) 21) [] [] 3 (o1 (Nat.le_refl v7.1.Nodes.length)) rfl (plan_Member_ok (Pattern.mk v7.1.Frame v7.1.Nodes) a1.Products a1.Saw v20 h21) (.inr ⟨(by kernel_rfl),qAc v20⟩) (by kernel_rfl)),qf 23 b22,qk 24 [58] 3 ⟨[(58,vb true)],[]⟩ (AO v23 h24)] 3 ⟨[(2,vb v23)],[]⟩ ?_
       exact q_J (v23) hm
      ·refine q_vn [qf 5 b16,qd 12 (dex (cen [] [] 3 0 (GG v17) (JU v17) [40,41,43,46] [1])) (wF (K:=(kx E 61 0)) (b:=false) ⟨[(40,vb true),(41,va [ci v7.1.Frame.X.A,ci v7.1.Frame.X.B,ci v7.1.Frame.Y.A,ci v7.1.Frame.Y.B,.own 1 0 2 v7.1.Nodes.length]),(43,vc (tl qC default a1.Products)),(46,vi a1.Saw.Kerf)],[(1,ro 0 65 2 v7.1.Nodes.length (rf e_Node v7.1.Nodes))]⟩ (opAt (rg Tryz.f7 62) 12) [] [] 3 (o1 (Nat.le_refl v7.1.Nodes.length)) rfl (ML (Pattern.mk v7.1.Frame v7.1.Nodes) a1.Products a1.Saw.Kerf v17 h18) (.inr ⟨(by kernel_rfl),SJ v17⟩) (by kernel_rfl)),qf 15 b19,qd 21 (dex (cen [] [] 3 0 (KE v20) (ZQ v20) [50,51,53,55] [1])) (wF (K:=(kx E 61 0)) (b:=false) ⟨[(50,vb true),(51,va [ci v7.1.Frame.X.A,ci v7.1.Frame.X.B,ci v7.1.Frame.Y.A,ci v7.1.Frame.Y.B,.own 1 0 2 v7.1.Nodes.length]),(53,vc (tl qC default a1.Products)),(55,va (qU a1.Saw))],[(1,ro 0 65 2 v7.1.Nodes.length (rf e_Node v7.1.Nodes))]⟩ (opAt (rg Tryz.f7 62) 21) [] [] 3 (o1 (Nat.le_refl v7.1.Nodes.length)) rfl (plan_Member_ok (Pattern.mk v7.1.Frame v7.1.Nodes) a1.Products a1.Saw v20 h21) (.inr ⟨(by kernel_rfl),qAc v20⟩) (by kernel_rfl)),qf 23 b22] 3 ⟨[(2,vb false)],[]⟩ ?_
       exact q_J (false) hm
     ·refine q_vn [qf 5 b16,qd 12 (dex (cen [] [] 3 0 (GG v17) (JU v17) [40,41,43,46] [1])) (wF (K:=(kx E 61 0)) (b:=false) ⟨[(40,vb true),(41,va [ci v7.1.Frame.X.A,ci v7.1.Frame.X.B,ci v7.1.Frame.Y.A,ci v7.1.Frame.Y.B,.own 1 0 2 v7.1.Nodes.length]),(43,vc (tl qC default a1.Products)),(46,vi a1.Saw.Kerf)],[(1,ro 0 65 2 v7.1.Nodes.length (rf e_Node v7.1.Nodes))]⟩ (opAt (rg Tryz.f7 62) 12) [] [] 3 (o1 (Nat.le_refl v7.1.Nodes.length)) rfl (ML (Pattern.mk v7.1.Frame v7.1.Nodes) a1.Products a1.Saw.Kerf v17 h18) (.inr ⟨(by kernel_rfl),SJ v17⟩) (by kernel_rfl)),qf 15 b19] 3 ⟨[(2,vb false)],[]⟩ ?_
      exact q_J (false) hm
    ·refine q_vn [qf 5 b16] 3 ⟨[(2,vb false)],[]⟩ ?_;exact q_J (false) hm
end Saw
end Go.SL

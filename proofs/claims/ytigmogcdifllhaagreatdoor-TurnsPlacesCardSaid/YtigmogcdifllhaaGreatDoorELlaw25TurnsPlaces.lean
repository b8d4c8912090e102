import Derived.Test.YtigmogcdifllhaaGreatDoorEBase
import Derived.Test.YtigmogcdifllhaaGreatDoorELs
import Derived.Test.YtigmogcdifllhaaGreatDoorELlaw25awake
import Derived.Test.YtigmogcdifllhaaGreatDoorEFa6
import Derived.Test.YtigmogcdifllhaaGreatDoorEFa16
set_option linter.unusedVariables false
set_option linter.unusedSimpArgs false
namespace Go.SL
namespace Saw
open Go.Proofs Go.Proofs.Tryz
set_option maxHeartbeats 4000000
set_option maxRecDepth 100000
def qKJ (r:Bool):V:=vb r
def qKV (r:Bool):List (Nat×(Nat×O)):=[]
def qHR (x21:Bool):St:=
 ⟨[(4,vb x21)],[]⟩
theorem qJC (a1:XT) (a2:Int) (r:Bool) (hm:XG a1 a2=some r):CtX Tryz.prog globs 3 0 0 [.agg (qCy a1),.one (ci a2)] [] (qKJ r) (qKV r):=by
 unfold XG at hm;refine q_E f3 56 λE=>?_;refine s_vn [] 0 ⟨[(1,vi a2),(2,vp 0 0)],[(0,bx 27 (qCy a1))]⟩ (q_sq ?_);obtain⟨v3,h4,hm⟩:=qC hm;refine s_vv [qc 2 [12] 1 (qXe a1.Scan v3 h4)] 1 [] [(14,vb (!v3))] (q_cq hm (λhm=>?_) (λhm=>?_))
 ·obtain⟨v6,h7,hm⟩:=qC hm;refine s_vn [qc 0 [] 1 (qIg v6 h7)] 1 ⟨[(4,vb v6)],[]⟩ ?_;obtain rfl:=oi hm;exact q_rt q_rm
 ·refine q_sk ?_;obtain⟨v8,h9,hm⟩:=qC hm;refine s_vv [qc 7 [18,19,21,23] 1 (qCt a1.Scan a2 a1.Limit a1.Most v8 h9)] 1 [14] [(5,vc (tl qO dd v8.1)),(6,vc (tl qJ dd v8.2.1)),(7,vi v8.2.2)] ?_;obtain⟨v10,h11,hm⟩:=qC hm;refine s_vu [qc 7 [30,31,33,35] 1 (qSj a1.Scan a2 a1.Limit a1.Most v10 h11)] 1 [1,2] [(8,vo 1 0 3 v10.1.length),(9,vc (tl qJ dd v10.2.1)),(10,vi v10.2.2)] [0] [(1,ro 0 80 3 v10.1.length (rf qO v10.1))] (q_jn (qHR) (λp=>yX p=some r) ?_ ?_)
  ·rintro x21 hm;obtain rfl:=oi hm;exact q_rt q_rm
  ·obtain⟨v12,h13,hm⟩:=qC hm;rcases bif_c hm with⟨b14,hm⟩|⟨b14,hm⟩
   ·obtain⟨v15,h16,hm⟩:=qC hm;rcases bif_c hm with⟨b17,hm⟩|⟨b17,hm⟩
    ·rcases bif_c hm with⟨b18,hm⟩|⟨b18,hm⟩
     ·obtain⟨v19,h20,hm⟩:=qC hm;exact q_vn [qd 2 (dex (cen [] [] 2 0 (XE v12) (QJ v12) [40,41] [1])) (zW (K:=(kx E 56 0)) (b:=false) ⟨[(40,vc (tl qO dd v8.1)),(41,vo 1 0 3 v10.1.length)],[(1,ro 0 80 3 v10.1.length (rf qO v10.1))]⟩ (opAt (rg f3 62) 2) [] [] 2 (o1 (kd v10.1.length)) rfl (RU v8.1 v10.1 v12 h13) (.inr ⟨(by kernel_rfl),TH v12⟩) (by kernel_rfl)),qf 3 b14,qk 6 [43,44,45] 2 ⟨[(43,vb true),(44,vc (tl qJ dd v8.2.1)),(45,vc (tl qJ dd v10.2.1))],[]⟩ (DA v8.2.1 v10.2.1 v15 h16),qf 8 b17,qf 13 b18,qk 14 [53] 2 ⟨[(53,vb true)],[]⟩ (qIg v19 h20)] 2 ⟨[(4,vb v19)],[]⟩ (q_J (v19) hm)
     ·exact q_vn [qd 2 (dex (cen [] [] 2 0 (XE v12) (QJ v12) [40,41] [1])) (zW (K:=(kx E 56 0)) (b:=false) ⟨[(40,vc (tl qO dd v8.1)),(41,vo 1 0 3 v10.1.length)],[(1,ro 0 80 3 v10.1.length (rf qO v10.1))]⟩ (opAt (rg f3 62) 2) [] [] 2 (o1 (kd v10.1.length)) rfl (RU v8.1 v10.1 v12 h13) (.inr ⟨(by kernel_rfl),TH v12⟩) (by kernel_rfl)),qf 3 b14,qk 6 [43,44,45] 2 ⟨[(43,vb true),(44,vc (tl qJ dd v8.2.1)),(45,vc (tl qJ dd v10.2.1))],[]⟩ (DA v8.2.1 v10.2.1 v15 h16),qf 8 b17,qf 13 b18] 2 ⟨[(4,vb false)],[]⟩ (q_J (false) hm)
    ·exact q_vn [qd 2 (dex (cen [] [] 2 0 (XE v12) (QJ v12) [40,41] [1])) (zW (K:=(kx E 56 0)) (b:=false) ⟨[(40,vc (tl qO dd v8.1)),(41,vo 1 0 3 v10.1.length)],[(1,ro 0 80 3 v10.1.length (rf qO v10.1))]⟩ (opAt (rg f3 62) 2) [] [] 2 (o1 (kd v10.1.length)) rfl (RU v8.1 v10.1 v12 h13) (.inr ⟨(by kernel_rfl),TH v12⟩) (by kernel_rfl)),qf 3 b14,qk 6 [43,44,45] 2 ⟨[(43,vb true),(44,vc (tl qJ dd v8.2.1)),(45,vc (tl qJ dd v10.2.1))],[]⟩ (DA v8.2.1 v10.2.1 v15 h16),qf 8 b17] 2 ⟨[(4,vb false)],[]⟩ (q_J (false) hm)
   ·exact q_vn [qd 2 (dex (cen [] [] 2 0 (XE v12) (QJ v12) [40,41] [1])) (zW (K:=(kx E 56 0)) (b:=false) ⟨[(40,vc (tl qO dd v8.1)),(41,vo 1 0 3 v10.1.length)],[(1,ro 0 80 3 v10.1.length (rf qO v10.1))]⟩ (opAt (rg f3 62) 2) [] [] 2 (o1 (kd v10.1.length)) rfl (RU v8.1 v10.1 v12 h13) (.inr ⟨(by kernel_rfl),TH v12⟩) (by kernel_rfl)),qf 3 b14] 2 ⟨[(4,vb false)],[]⟩ (q_J (false) hm)
end Saw
end Go.SL

import Derived.Test.YtidlfgiogdjkaaaGreatDoorEBase
import Derived.Test.YtidlfgiogdjkaaaGreatDoorELlaw24awake
import Derived.Test.YtidlfgiogdjkaaaGreatDoorEFa7
import Derived.Test.YtidlfgiogdjkaaaGreatDoorEFa10
import Derived.Test.YtidlfgiogdjkaaaGreatDoorELs
import Derived.Test.YtidlfgiogdjkaaaGreatDoorEFa8
set_option linter.unusedVariables false
set_option linter.unusedSimpArgs false
namespace Go.SL
namespace Saw
open Go.Proofs
set_option maxHeartbeats 4000000
set_option maxRecDepth 100000
def qFf (r:Bool):V:=vb r
def qFe (r:Bool):List (Nat×(Nat×O)):=[]
def LC (x26:Bool):St:=
 ⟨[(4,vb x26)],[]⟩
def LA (a1:List Product) (a2:List qB) (x8:Bool):St:=
 ⟨[(0,vc (tl qC default a1)),(1,vc (tl qE default a2)),(12,vb x8)],[]⟩
theorem qEw (a1:List Product) (a2:List qB) (r:Bool) (hm:PN a1 a2=some r):CtX Tryz.prog globs 3 0 0 [.one (tl qC default a1),.one (tl qE default a2)] [] (qFf r) (qFe r):=by
 unfold PN at hm;refine q_E Tryz.f3 29 λE=>?_;refine s_vn [] 0 ⟨[(0,vc (tl qC default a1)),(1,vc (tl qE default a2))],[]⟩ ?_;refine q_sq ?_;refine q_jn (ι:=Bool) (λp=>LA a1 a2 p) (λp=>TL a1 a2 p=some r) ?_ ?_
 ·rintro x8 hm;show H _ (LA a1 a2 x8) _ _;refine q_cm hm (λb9 hm=>?_) (λb9 hm=>?_)
  ·obtain⟨v10,h11,hm⟩:=qA hm;refine s_vn [qc 0 [] 0 (qDM v10 h11)] 0 ⟨[(4,vb v10)],[]⟩ ?_;obtain rfl:=oi hm;refine q_rt ?_;exact q_rm
  ·refine q_sk ?_;refine q_jn (ι:=Bool) (λp=>LC p) (λp=>wW p=some r) ?_ ?_
   ·rintro x26 hm;show H _ (LC x26) _ _;obtain rfl:=oi hm;refine q_rt ?_;exact q_rm
   ·obtain⟨v12,h13,hm⟩:=qA hm;obtain⟨v14,h15,hm⟩:=qA hm;obtain⟨v16,h17,hm⟩:=qA hm;rcases bif_c hm with⟨b18,hm⟩|⟨b18,hm⟩
    ·obtain⟨v19,h20,hm⟩:=qA hm;obtain⟨v21,h22,hm⟩:=qA hm;rcases bif_c hm with⟨b23,hm⟩|⟨b23,hm⟩
     ·obtain⟨v24,h25,hm⟩:=qA hm
      refine q_vn [qc 1 [14] 0 (JB a1 v12 h13),qc 3 [16] 1 (MV a1 v14 h15),qd 4 (dex (cen [] [] 2 0 (ZX v16) (jG v16) [15,17] [0,1])) (wJ (K:=(kx E 29 0)) (b:=false) ⟨[(15,vo 0 0 1 v12.length),(17,vo 1 0 1 v14.length)],[(0,ro 0 3 1 v12.length (rf e_i64 v12)),(1,ro 0 3 1 v14.length (rf e_i64 v14))]⟩ (opAt (rg Tryz.f3 14) 4) [] [] 2 (o1 (And.intro (Nat.le_refl v12.length) (Nat.le_refl v14.length))) rfl (law24_sameInts_ok v12 v14 v16 h17) (.inr ⟨(by kernel_rfl),MI v16⟩) (by kernel_rfl)),qf 5 b18,qk 7 [19,20] 2 ⟨[(19,vb true),(20,vc (tl qE default a2))],[]⟩ (CY a2 v19 h20),qk 9 [19,22] 2 ⟨[(19,vb true),(22,vc (tl qE default a2))],[]⟩ (qDF a2 v21 h22),qf 12 b23,qk 13 [26] 2 ⟨[(26,vb true)],[]⟩ (qDM v24 h25)] 0 ⟨[(4,vb v24)],[]⟩ ?_
      exact q_J (v24) hm
     ·refine q_vn [qc 1 [14] 0 (JB a1 v12 h13),qc 3 [16] 1 (MV a1 v14 h15),qd 4 (dex (cen [] [] 2 0 (ZX v16) (jG v16) [15,17] [0,1])) (wJ (K:=(kx E 29 0)) (b:=false) ⟨[(15,vo 0 0 1 v12.length),(17,vo 1 0 1 v14.length)],[(0,ro 0 3 1 v12.length (rf e_i64 v12)),(1,ro 0 3 1 v14.length (rf e_i64 v14))]⟩ (opAt (rg Tryz.f3 14) 4) [] [] 2 (o1 (And.intro (Nat.le_refl v12.length) (Nat.le_refl v14.length))) rfl (law24_sameInts_ok v12 v14 v16 h17) (.inr ⟨(by kernel_rfl),MI v16⟩) (by kernel_rfl)),qf 5 b18,qk 7 [19,20] 2 ⟨[(19,vb true),(20,vc (tl qE default a2))],[]⟩ (CY a2 v19 h20),qk 9 [19,22] 2 ⟨[(19,vb true),(22,vc (tl qE default a2))],[]⟩ (qDF a2 v21 h22),qf 12 b23] 0 ⟨[(4,vb false)],[]⟩ ?_
      exact q_J (false) hm
    ·refine q_vn [qc 1 [14] 0 (JB a1 v12 h13),qc 3 [16] 1 (MV a1 v14 h15),qd 4 (dex (cen [] [] 2 0 (ZX v16) (jG v16) [15,17] [0,1])) (wJ (K:=(kx E 29 0)) (b:=false) ⟨[(15,vo 0 0 1 v12.length),(17,vo 1 0 1 v14.length)],[(0,ro 0 3 1 v12.length (rf e_i64 v12)),(1,ro 0 3 1 v14.length (rf e_i64 v14))]⟩ (opAt (rg Tryz.f3 14) 4) [] [] 2 (o1 (And.intro (Nat.le_refl v12.length) (Nat.le_refl v14.length))) rfl (law24_sameInts_ok v12 v14 v16 h17) (.inr ⟨(by kernel_rfl),MI v16⟩) (by kernel_rfl)),qf 5 b18] 0 ⟨[(4,vb false)],[]⟩ ?_;exact q_J (false) hm
 ·obtain⟨v3,h4,hm⟩:=qA hm;rcases bif_c hm with⟨b5,hm⟩|⟨b5,hm⟩
  ·refine q_vu [qc 1 [5] 0 (qFF a1 v3 h4),qf 3 b5] 0 [] [(12,vb true)] [] [] ?_;exact q_J (true) hm
  ·obtain⟨v6,h7,hm⟩:=qA hm;refine q_vu [qc 1 [5] 0 (qFF a1 v3 h4),qf 3 b5,qk 5 [8,9] 0 ⟨[(8,vb false),(9,vc (tl qE default a2))],[]⟩ (qJT a2 v6 h7)] 0 [] [(12,vb (!v6))] [] [] ?_;exact q_J (!v6) hm
end Saw
end Go.SL

import Derived.Test.YtidlfgiogdjkaaaGreatDoorEBase
import Derived.Test.YtidlfgiogdjkaaaGreatDoorELlaw24sample
import Derived.Test.YtidlfgiogdjkaaaGreatDoorELs
import Derived.Test.YtidlfgiogdjkaaaGreatDoorEFa7
import Derived.Test.YtidlfgiogdjkaaaGreatDoorEFa8
import Derived.Test.YtidlfgiogdjkaaaGreatDoorEFa9
set_option linter.unusedVariables false
set_option linter.unusedSimpArgs false
namespace Go.SL
namespace Saw
open Go.Proofs
set_option maxHeartbeats 4000000
set_option maxRecDepth 100000
def qNF (r:Bool):V:=vb r
def qNm (r:Bool):List (Nat×(Nat×O)):=[]
def qIH (x28:Bool):St:=
 ⟨[(0,vb x28)],[]⟩
theorem LE (r:Bool) (hm:JW=some r):CtX Tryz.prog globs 12 0 0 [] [] (qNF r) (qNm r):=by
 unfold JW at hm;refine q_E Tryz.f12 89 λE=>?_;refine s_vn [] 0 ⟨[],[]⟩ ?_;obtain⟨v1,h2,hm⟩:=qA hm;refine s_vn [qk 0 [] 0 ⟨[],[]⟩ (qCn 97 v1 h2)] 0 ⟨[(1,vp 3 0)],[(0,ro 0 72 3 v1.Solid.length (rf qI v1.Solid)),(1,ro 0 212 7 v1.Defects.length (rf qJ v1.Defects)),(2,ro 0 54 7 v1.Products.length (rf qC v1.Products)),(3,bx 42 [.own 0 0 3 v1.Solid.length,.own 1 0 7 v1.Defects.length,.own 2 0 7 v1.Products.length,ci v1.Frame.X.A,ci v1.Frame.X.B,ci v1.Frame.Y.A,ci v1.Frame.Y.B,ci v1.Saw.Kerf,ci v1.Saw.Trim,ci v1.Saw.Pitch,ci v1.Saw.Step,ci v1.Rates.Chip,ci v1.Rates.Dust,ci v1.Rates.Fine])]⟩ ?_
 obtain⟨v3,h4,hm⟩:=qA hm
 refine s_vu [qd 1 (dex (cen [] [] 4 0 (qB0 v3) (FB v3) [12] [0,1,2])) (wV (K:=(kx E 89 0)) (b:=false) ⟨[(12,va [.own 0 0 3 v1.Solid.length,.own 1 0 7 v1.Defects.length,.own 2 0 7 v1.Products.length,ci v1.Frame.X.A,ci v1.Frame.X.B,ci v1.Frame.Y.A,ci v1.Frame.Y.B,ci v1.Saw.Kerf,ci v1.Saw.Trim,ci v1.Saw.Pitch,ci v1.Saw.Step,ci v1.Rates.Chip,ci v1.Rates.Dust,ci v1.Rates.Fine])],[(0,ro 0 72 3 v1.Solid.length (rf qI v1.Solid)),(1,ro 0 212 7 v1.Defects.length (rf qJ v1.Defects)),(2,ro 0 54 7 v1.Products.length (rf qC v1.Products))]⟩ (opAt (rg Tryz.f12 14) 1) [] [] 4 (o1 (And.intro (Nat.le_refl v1.Solid.length) (And.intro (Nat.le_refl v1.Defects.length) (Nat.le_refl v1.Products.length)))) rfl (law24_best_ok (Law24_Given.mk v1.Solid v1.Defects v1.Products v1.Frame v1.Saw v1.Rates) v3 h4) (.inr ⟨(by kernel_rfl),qFN v3⟩) (by kernel_rfl))] 4 [] [(2,vp 5 0),(3,vi v3.2.1),(4,vi v3.2.2)] [] [(4,ro 0 65 2 v3.1.Nodes.length (rf e_Node v3.1.Nodes)),(5,bx 46 [ci v3.1.Frame.X.A,ci v3.1.Frame.X.B,ci v3.1.Frame.Y.A,ci v3.1.Frame.Y.B,.own 4 0 2 v3.1.Nodes.length])] ?_
 obtain⟨v5,h6,hm⟩:=qA hm;obtain⟨v7,h8,hm⟩:=qA hm
 refine s_vv [qk 0 [] 6 ⟨[],[]⟩ (qCn 96 v5 h6),qd 1 (dex (cen [] [] 9 0 (qB0 v7) (FB v7) [18] [6,7,8])) (wV (K:=(kx E 89 0)) (b:=false) ⟨[(18,va [.own 6 0 3 v5.Solid.length,.own 7 0 7 v5.Defects.length,.own 8 0 7 v5.Products.length,ci v5.Frame.X.A,ci v5.Frame.X.B,ci v5.Frame.Y.A,ci v5.Frame.Y.B,ci v5.Saw.Kerf,ci v5.Saw.Trim,ci v5.Saw.Pitch,ci v5.Saw.Step,ci v5.Rates.Chip,ci v5.Rates.Dust,ci v5.Rates.Fine])],[(6,ro 0 72 3 v5.Solid.length (rf qI v5.Solid)),(7,ro 0 212 7 v5.Defects.length (rf qJ v5.Defects)),(8,ro 0 54 7 v5.Products.length (rf qC v5.Products))]⟩ (opAt (rg Tryz.f12 30) 1) [] [] 9 (o1 (And.intro (Nat.le_refl v5.Solid.length) (And.intro (Nat.le_refl v5.Defects.length) (Nat.le_refl v5.Products.length)))) rfl (law24_best_ok (Law24_Given.mk v5.Solid v5.Defects v5.Products v5.Frame v5.Saw v5.Rates) v7 h8) (.inr ⟨(by kernel_rfl),qFN v7⟩) (by kernel_rfl))] 6 [] [(6,vi v7.2.1),(7,vi v7.2.2)] ?_
 obtain⟨v9,h10,hm⟩:=qA hm;refine s_vu [qd 2 (dex (cen [] [] 11 0 (qDZ v9) (LB v9) [24] [2])) (wV (K:=(kx E 89 0)) (b:=false) ⟨[(24,vo 2 0 7 v1.Products.length)],[(2,ro 0 54 7 v1.Products.length (rf qC v1.Products))]⟩ (opAt (rg Tryz.f12 62) 2) [] [] 11 (o1 (Nat.le_refl v1.Products.length)) rfl (AI v1.Products v9 h10) (.inr ⟨(by kernel_rfl),qMd v9⟩) (by kernel_rfl))] 11 [] [(8,vo 11 0 1 v9.length)] [] [(11,ro 0 3 1 v9.length (rf e_i64 v9))] ?_;obtain⟨v11,h12,hm⟩:=qA hm
 refine s_vu [qd 2 (dex (cen [] [] 12 0 (qFY v11) (AT v11) [27] [0])) (wV (K:=(kx E 89 0)) (b:=false) ⟨[(27,vo 0 0 3 v1.Solid.length)],[(0,ro 0 72 3 v1.Solid.length (rf qI v1.Solid))]⟩ (opAt (rg Tryz.f12 126) 2) [] [] 12 (o1 (Nat.le_refl v1.Solid.length)) rfl (qNt v1.Solid v11 h12) (.inr ⟨(by kernel_rfl),qPP v11⟩) (by kernel_rfl))] 12 [] [(9,vp 12 0)] [] [(12,bx 33 (qE v11))] ?_;refine q_jn (qIH) (λp=>qU p=some r) ?_ ?_
 ·rintro x28 hm;obtain rfl:=oi hm;refine q_rt ?_;exact q_rm
 ·rcases bif_c hm with⟨b13,hm⟩|⟨b13,hm⟩
  ·rcases bif_c hm with⟨b14,hm⟩|⟨b14,hm⟩
   ·rcases bif_c hm with⟨b15,hm⟩|⟨b15,hm⟩
    ·rcases bif_c hm with⟨b16,hm⟩|⟨b16,hm⟩
     ·rcases bif_c hm with⟨b17,hm⟩|⟨b17,hm⟩
      ·obtain⟨g18,hm⟩:=qG hm;rcases bif_c hm with⟨b19,hm⟩|⟨b19,hm⟩
       ·obtain⟨g20,hm⟩:=qG hm;rcases bif_c hm with⟨b21,hm⟩|⟨b21,hm⟩
        ·rcases bif_c hm with⟨b22,hm⟩|⟨b22,hm⟩
         ·rcases bif_c hm with⟨b23,hm⟩|⟨b23,hm⟩
          ·obtain⟨g24,hm⟩:=qG hm;rcases bif_c hm with⟨b25,hm⟩|⟨b25,hm⟩
           ·obtain⟨v26,h27,hm⟩:=qA hm
            refine q_vn [qf 2 b13,qf 6 b14,qf 10 b15,qf 14 b16,qf 19 b17,qi 21 g18,qd 22 dN (toNat_lt (inb_of g18)),qf 25 b19,qi 27 g20,qd 28 dN (toNat_lt (inb_of g20)),qf 31 b21,qf 38 b22,qf 44 b23,qi 47 g24,qd 48 dN (toNat_lt (inb_of g24)),qf 52 b25,qd 58 (dex (cen [] [] 13 0 (HY v26) (PN v26) [81,82,84,86] [4,2])) (wV (K:=(kx E 89 0)) (b:=false) ⟨[(81,vb true),(82,va [ci v3.1.Frame.X.A,ci v3.1.Frame.X.B,ci v3.1.Frame.Y.A,ci v3.1.Frame.Y.B,.own 4 0 2 v3.1.Nodes.length]),(84,vo 2 0 7 v1.Products.length),(86,va (zB v1.Saw))],[(4,ro 0 65 2 v3.1.Nodes.length (rf e_Node v3.1.Nodes)),(2,ro 0 54 7 v1.Products.length (rf qC v1.Products))]⟩ (opAt (rg Tryz.f12 254) 58) [] [] 13 (o1 (And.intro (Nat.le_refl v3.1.Nodes.length) (Nat.le_refl v1.Products.length))) rfl (plan_Member_ok (Pattern.mk v3.1.Frame v3.1.Nodes) v1.Products v1.Saw v26 h27) (.inr ⟨(by kernel_rfl),qNi v26⟩) (by kernel_rfl))] 13 ⟨[(0,vb v26)],[]⟩ ?_
            exact q_J (v26) hm
           ·refine q_vn [qf 2 b13,qf 6 b14,qf 10 b15,qf 14 b16,qf 19 b17,qi 21 g18,qd 22 dN (toNat_lt (inb_of g18)),qf 25 b19,qi 27 g20,qd 28 dN (toNat_lt (inb_of g20)),qf 31 b21,qf 38 b22,qf 44 b23,qi 47 g24,qd 48 dN (toNat_lt (inb_of g24)),qf 52 b25] 13 ⟨[(0,vb false)],[]⟩ ?_;exact q_J (false) hm
          ·refine q_vn [qf 2 b13,qf 6 b14,qf 10 b15,qf 14 b16,qf 19 b17,qi 21 g18,qd 22 dN (toNat_lt (inb_of g18)),qf 25 b19,qi 27 g20,qd 28 dN (toNat_lt (inb_of g20)),qf 31 b21,qf 38 b22,qf 44 b23] 13 ⟨[(0,vb false)],[]⟩ ?_;exact q_J (false) hm
         ·refine q_vn [qf 2 b13,qf 6 b14,qf 10 b15,qf 14 b16,qf 19 b17,qi 21 g18,qd 22 dN (toNat_lt (inb_of g18)),qf 25 b19,qi 27 g20,qd 28 dN (toNat_lt (inb_of g20)),qf 31 b21,qf 38 b22] 13 ⟨[(0,vb false)],[]⟩ ?_;exact q_J (false) hm
        ·refine q_vn [qf 2 b13,qf 6 b14,qf 10 b15,qf 14 b16,qf 19 b17,qi 21 g18,qd 22 dN (toNat_lt (inb_of g18)),qf 25 b19,qi 27 g20,qd 28 dN (toNat_lt (inb_of g20)),qf 31 b21] 13 ⟨[(0,vb false)],[]⟩ ?_;exact q_J (false) hm
       ·refine q_vn [qf 2 b13,qf 6 b14,qf 10 b15,qf 14 b16,qf 19 b17,qi 21 g18,qd 22 dN (toNat_lt (inb_of g18)),qf 25 b19] 13 ⟨[(0,vb false)],[]⟩ ?_;exact q_J (false) hm
      ·refine q_vn [qf 2 b13,qf 6 b14,qf 10 b15,qf 14 b16,qf 19 b17] 13 ⟨[(0,vb false)],[]⟩ ?_;exact q_J (false) hm
     ·refine q_vn [qf 2 b13,qf 6 b14,qf 10 b15,qf 14 b16] 13 ⟨[(0,vb false)],[]⟩ ?_;exact q_J (false) hm
    ·refine q_vn [qf 2 b13,qf 6 b14,qf 10 b15] 13 ⟨[(0,vb false)],[]⟩ ?_;exact q_J (false) hm
   ·refine q_vn [qf 2 b13,qf 6 b14] 13 ⟨[(0,vb false)],[]⟩ ?_;exact q_J (false) hm
  ·refine q_vn [qf 2 b13] 13 ⟨[(0,vb false)],[]⟩ ?_;exact q_J (false) hm
end Saw
end Go.SL

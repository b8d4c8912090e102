import Derived.Test.YtidlfgiogdjkaaaGreatDoorEBase
import Derived.Test.YtidlfgiogdjkaaaGreatDoorELlaw24sample
import Derived.Test.YtidlfgiogdjkaaaGreatDoorELs
import Derived.Test.YtidlfgiogdjkaaaGreatDoorEFa7
import Derived.Test.YtidlfgiogdjkaaaGreatDoorEFa8
import Derived.Test.YtidlfgiogdjkaaaGreatDoorEFa9
set_option linter.unusedVariables false
set_option linter.unusedSimpArgs false
namespace Go.SL
namespace Saw
open Go.Proofs Go.Proofs.Tryz
set_option maxHeartbeats 4000000
set_option maxRecDepth 100000
def qTG (r:Bool):V:=vb r
def qTM (r:Bool):List (Nat×(Nat×O)):=[]
def qNA (x28:Bool):St:=
 ⟨[(0,vb x28)],[]⟩
theorem qHD (r:Bool) (hm:VQ=some r):CtX Tryz.prog globs 12 0 0 [] [] (qTG r) (qTM r):=by
 unfold VQ at hm;refine q_E f12 89 λE=>?_;refine s_vn [] 0 ⟨[],[]⟩ ?_;obtain⟨v1,h2,hm⟩:=qB hm;refine s_vn [qk 0 [] 0 ⟨[],[]⟩ (qGM 97 v1 h2)] 0 ⟨[(1,vp 3 0)],[(0,ro 0 72 3 v1.Solid.length (rf qL v1.Solid)),(1,ro 0 212 7 v1.Defects.length (rf qP v1.Defects)),(2,ro 0 54 7 v1.Products.length (rf qH v1.Products)),(3,bx 42 [.own 0 0 3 v1.Solid.length,.own 1 0 7 v1.Defects.length,.own 2 0 7 v1.Products.length,ci v1.Frame.X.A,ci v1.Frame.X.B,ci v1.Frame.Y.A,ci v1.Frame.Y.B,ci v1.Saw.Kerf,ci v1.Saw.Trim,ci v1.Saw.Pitch,ci v1.Saw.Step,ci v1.Rates.Chip,ci v1.Rates.Dust,ci v1.Rates.Fine])]⟩ ?_
 obtain⟨v3,h4,hm⟩:=qB hm
 refine s_vu [qd 1 (dex (cen [] [] 4 0 (qFh v3) (SQ v3) [12] [0,1,2])) (wU (K:=(kx E 89 0)) (b:=false) ⟨[(12,va [.own 0 0 3 v1.Solid.length,.own 1 0 7 v1.Defects.length,.own 2 0 7 v1.Products.length,ci v1.Frame.X.A,ci v1.Frame.X.B,ci v1.Frame.Y.A,ci v1.Frame.Y.B,ci v1.Saw.Kerf,ci v1.Saw.Trim,ci v1.Saw.Pitch,ci v1.Saw.Step,ci v1.Rates.Chip,ci v1.Rates.Dust,ci v1.Rates.Fine])],[(0,ro 0 72 3 v1.Solid.length (rf qL v1.Solid)),(1,ro 0 212 7 v1.Defects.length (rf qP v1.Defects)),(2,ro 0 54 7 v1.Products.length (rf qH v1.Products))]⟩ (opAt (rg f12 14) 1) [] [] 4 (o1 (And.intro (ki v1.Solid.length) (And.intro (ki v1.Defects.length) (ki v1.Products.length)))) rfl (qDR (zB.mk v1.Solid v1.Defects v1.Products v1.Frame v1.Saw v1.Rates) v3 h4) (.inr ⟨(by kernel_rfl),qKU v3⟩) (by kernel_rfl))] 4 [] [(2,vp 5 0),(3,vi v3.2.1),(4,vi v3.2.2)] [] [(4,ro 0 65 2 v3.1.Nodes.length (rf qE v3.1.Nodes)),(5,bx 46 [ci v3.1.Frame.X.A,ci v3.1.Frame.X.B,ci v3.1.Frame.Y.A,ci v3.1.Frame.Y.B,.own 4 0 2 v3.1.Nodes.length])] ?_
 obtain⟨v5,h6,hm⟩:=qB hm;obtain⟨v7,h8,hm⟩:=qB hm
 refine s_vv [qk 0 [] 6 ⟨[],[]⟩ (qGM 96 v5 h6),qd 1 (dex (cen [] [] 9 0 (qFh v7) (SQ v7) [18] [6,7,8])) (wU (K:=(kx E 89 0)) (b:=false) ⟨[(18,va [.own 6 0 3 v5.Solid.length,.own 7 0 7 v5.Defects.length,.own 8 0 7 v5.Products.length,ci v5.Frame.X.A,ci v5.Frame.X.B,ci v5.Frame.Y.A,ci v5.Frame.Y.B,ci v5.Saw.Kerf,ci v5.Saw.Trim,ci v5.Saw.Pitch,ci v5.Saw.Step,ci v5.Rates.Chip,ci v5.Rates.Dust,ci v5.Rates.Fine])],[(6,ro 0 72 3 v5.Solid.length (rf qL v5.Solid)),(7,ro 0 212 7 v5.Defects.length (rf qP v5.Defects)),(8,ro 0 54 7 v5.Products.length (rf qH v5.Products))]⟩ (opAt (rg f12 30) 1) [] [] 9 (o1 (And.intro (ki v5.Solid.length) (And.intro (ki v5.Defects.length) (ki v5.Products.length)))) rfl (qDR (zB.mk v5.Solid v5.Defects v5.Products v5.Frame v5.Saw v5.Rates) v7 h8) (.inr ⟨(by kernel_rfl),qKU v7⟩) (by kernel_rfl))] 6 [] [(6,vi v7.2.1),(7,vi v7.2.2)] ?_
 obtain⟨v9,h10,hm⟩:=qB hm;refine s_vu [qd 2 (dex (cen [] [] 11 0 (qH9 v9) (ER v9) [24] [2])) (wU (K:=(kx E 89 0)) (b:=false) ⟨[(24,vo 2 0 7 v1.Products.length)],[(2,ro 0 54 7 v1.Products.length (rf qH v1.Products))]⟩ (opAt (rg f12 62) 2) [] [] 11 (o1 (ki v1.Products.length)) rfl (qBM v1.Products v9 h10) (.inr ⟨(by kernel_rfl),qR6 v9⟩) (by kernel_rfl))] 11 [] [(8,vo 11 0 1 v9.length)] [] [(11,ro 0 3 1 v9.length (rf qA v9))] ?_;obtain⟨v11,h12,hm⟩:=qB hm
 refine s_vu [qd 2 (dex (cen [] [] 12 0 (qJS v11) (qBJ v11) [27] [0])) (wU (K:=(kx E 89 0)) (b:=false) ⟨[(27,vo 0 0 3 v1.Solid.length)],[(0,ro 0 72 3 v1.Solid.length (rf qL v1.Solid))]⟩ (opAt (rg f12 126) 2) [] [] 12 (o1 (ki v1.Solid.length)) rfl (qUy v1.Solid v11 h12) (.inr ⟨(by kernel_rfl),qWt v11⟩) (by kernel_rfl))] 12 [] [(9,vp 12 0)] [] [(12,bx 33 (qO v11))] (q_jn (qNA) (λp=>zS p=some r) ?_ ?_)
 ·rintro x28 hm;obtain rfl:=oi hm;exact q_rt q_rm
 ·rcases bif_c hm with⟨b13,hm⟩|⟨b13,hm⟩
  ·rcases bif_c hm with⟨b14,hm⟩|⟨b14,hm⟩
   ·rcases bif_c hm with⟨b15,hm⟩|⟨b15,hm⟩
    ·rcases bif_c hm with⟨b16,hm⟩|⟨b16,hm⟩
     ·rcases bif_c hm with⟨b17,hm⟩|⟨b17,hm⟩
      ·obtain⟨g18,hm⟩:=qI hm;rcases bif_c hm with⟨b19,hm⟩|⟨b19,hm⟩
       ·obtain⟨g20,hm⟩:=qI hm;rcases bif_c hm with⟨b21,hm⟩|⟨b21,hm⟩
        ·rcases bif_c hm with⟨b22,hm⟩|⟨b22,hm⟩
         ·rcases bif_c hm with⟨b23,hm⟩|⟨b23,hm⟩
          ·obtain⟨g24,hm⟩:=qI hm;rcases bif_c hm with⟨b25,hm⟩|⟨b25,hm⟩
           ·obtain⟨v26,h27,hm⟩:=qB hm
            refine q_vn [qf 2 b13,qf 6 b14,qf 10 b15,qf 14 b16,qf 19 b17,qi 21 g18,qd 22 dN (qV (zC g18)),qf 25 b19,qi 27 g20,qd 28 dN (qV (zC g20)),qf 31 b21,qf 38 b22,qf 44 b23,qi 47 g24,qd 48 dN (qV (zC g24)),qf 52 b25,qd 58 (dex (cen [] [] 13 0 (CD v26) (TU v26) [81,82,84,86] [4,2])) (wU (K:=(kx E 89 0)) (b:=false) ⟨[(81,vb true),(82,va [ci v3.1.Frame.X.A,ci v3.1.Frame.X.B,ci v3.1.Frame.Y.A,ci v3.1.Frame.Y.B,.own 4 0 2 v3.1.Nodes.length]),(84,vo 2 0 7 v1.Products.length),(86,va (zW v1.Saw))],[(4,ro 0 65 2 v3.1.Nodes.length (rf qE v3.1.Nodes)),(2,ro 0 54 7 v1.Products.length (rf qH v1.Products))]⟩ (opAt (rg f12 254) 58) [] [] 13 (o1 (And.intro (ki v3.1.Nodes.length) (ki v1.Products.length))) rfl (qQZ (qN.mk v3.1.Frame v3.1.Nodes) v1.Products v1.Saw v26 h27) (.inr ⟨(by kernel_rfl),qUa v26⟩) (by kernel_rfl))] 13 ⟨[(0,vb v26)],[]⟩ ?_
            exact q_J (v26) hm
           ·exact q_vn [qf 2 b13,qf 6 b14,qf 10 b15,qf 14 b16,qf 19 b17,qi 21 g18,qd 22 dN (qV (zC g18)),qf 25 b19,qi 27 g20,qd 28 dN (qV (zC g20)),qf 31 b21,qf 38 b22,qf 44 b23,qi 47 g24,qd 48 dN (qV (zC g24)),qf 52 b25] 13 ⟨[(0,vb false)],[]⟩ (q_J (false) hm)
          ·exact q_vn [qf 2 b13,qf 6 b14,qf 10 b15,qf 14 b16,qf 19 b17,qi 21 g18,qd 22 dN (qV (zC g18)),qf 25 b19,qi 27 g20,qd 28 dN (qV (zC g20)),qf 31 b21,qf 38 b22,qf 44 b23] 13 ⟨[(0,vb false)],[]⟩ (q_J (false) hm)
         ·exact q_vn [qf 2 b13,qf 6 b14,qf 10 b15,qf 14 b16,qf 19 b17,qi 21 g18,qd 22 dN (qV (zC g18)),qf 25 b19,qi 27 g20,qd 28 dN (qV (zC g20)),qf 31 b21,qf 38 b22] 13 ⟨[(0,vb false)],[]⟩ (q_J (false) hm)
        ·exact q_vn [qf 2 b13,qf 6 b14,qf 10 b15,qf 14 b16,qf 19 b17,qi 21 g18,qd 22 dN (qV (zC g18)),qf 25 b19,qi 27 g20,qd 28 dN (qV (zC g20)),qf 31 b21] 13 ⟨[(0,vb false)],[]⟩ (q_J (false) hm)
       ·exact q_vn [qf 2 b13,qf 6 b14,qf 10 b15,qf 14 b16,qf 19 b17,qi 21 g18,qd 22 dN (qV (zC g18)),qf 25 b19] 13 ⟨[(0,vb false)],[]⟩ (q_J (false) hm)
      ·exact q_vn [qf 2 b13,qf 6 b14,qf 10 b15,qf 14 b16,qf 19 b17] 13 ⟨[(0,vb false)],[]⟩ (q_J (false) hm)
     ·exact q_vn [qf 2 b13,qf 6 b14,qf 10 b15,qf 14 b16] 13 ⟨[(0,vb false)],[]⟩ (q_J (false) hm)
    ·exact q_vn [qf 2 b13,qf 6 b14,qf 10 b15] 13 ⟨[(0,vb false)],[]⟩ (q_J (false) hm)
   ·exact q_vn [qf 2 b13,qf 6 b14] 13 ⟨[(0,vb false)],[]⟩ (q_J (false) hm)
  ·exact q_vn [qf 2 b13] 13 ⟨[(0,vb false)],[]⟩ (q_J (false) hm)
end Saw
end Go.SL

import Derived.Test.YtigmogcdifllhaaGreatDoorEBase
import Derived.Test.YtigmogcdifllhaaGreatDoorEFa9
set_option linter.unusedVariables false
set_option linter.unusedSimpArgs false
namespace Go.SL
namespace Saw
open Go.Proofs Go.Proofs.Tryz
set_option maxHeartbeats 4000000
set_option maxRecDepth 100000
def qHC (r:qD):V:=va (qS r)
def BW (r:qD):List (Nat×(Nat×O)):=[]
theorem qQ8 (r:qD):wQ (BW r):=by
 intro i k o h;unfold BW at h;cases h
def WA (a1:Line) (a2:Int) (a3:List Int) (a4:List qD) (x5:Int):St:=
 ⟨[(1,vi a2),(2,vc (tl qF dd a3)),(3,vc (tl qS dd a4)),(4,vp 0 0),(8,vp 1 0),(9,vp 2 0),(18,vc (tl qF dd a1.Sizes)),(19,vi (a1.Sizes.length:Int)),(20,vi x5)],[(0,bx 123 (yM a1)),(1,bx 184 [ci 0,ci 0,ci 0])]⟩
def qMp (a1:Line) (a2:Int) (a3:List Int) (a4:List qD) (x5:Int) (x26:qD):St:=
 (WA a1 a2 a3 a4 x5).up [] [] [] [(2,bx 184 (qS x26))]
def qLM (a1:Line) (a2:Int) (a3:List Int) (a4:List qD) (x5:Int) (x6:qD) (x22:qD) (x24:Bool):St:=
 (WA a1 a2 a3 a4 x5).up [] [(13,vp 3 0),(89,vb x24)] [] [(2,bx 184 (qS x6)),(3,bx 184 (qS x22))]
def qLv (a1:Line) (a2:Int) (a3:List Int) (a4:List qD) (x5:Int) (x6:qD) (x22:qD):St:=
 (WA a1 a2 a3 a4 x5).up [] [(13,vp 3 0)] [] [(2,bx 184 (qS x6)),(3,bx 184 (qS x22))]
def qLu (a1:Line) (a2:Int) (a3:List Int) (a4:List qD) (x5:Int) (x6:qD) (x12:Bool):St:=
 (WA a1 a2 a3 a4 x5).up [] [(10,vi x5),(12,vi (w64 (a2+(a1.Sizes.getD x5.toNat dd)))),(42,vb x12)] [] [(2,bx 184 (qS x6))]
def FX (a1:Line) (a2:Int) (a3:List Int) (a4:List qD) (x5:Int) (x6:qD):St:=
 (WA a1 a2 a3 a4 x5).up [] [] [] [(2,bx 184 (qS x6))]
def qDw (x27:qD):St:=
 ⟨[(8,vp 1 0),(9,vp 2 0)],[(1,bx 184 [ci 0,ci 0,ci 0]),(2,bx 184 (qS x27))]⟩
theorem qKX (E:Env 0) (a1:Line) (a2:Int) (a3:List Int) (a4:List qD):∀(n:Nat) (x5:Int) (x6:qD) (res:qD),yO a1 a2 a3 a4 n x5 x6=some res->HL (kx E 93 0) (nd f182 116) (zF 0 qDw res) n (FX a1 a2 a3 a4 x5 x6):=by
 intro n
 induction n with
 |zero=>
  intro x5 x6 res hm;cases hm
 |succ n ih=>
  intro x5 x6 res hm;refine qR (s_va 3 [(21,vb (decide (x5<(a1.Sizes.length:Int))))] ?_);refine q_sq (q_cq hm (λhm=>?_) (λhm=>?_))
  ·refine q_sk (q_jn (qMp a1 a2 a3 a4 x5) (λp=>GI x5 (yO a1 a2 a3 a4 n) p=some res) ?_ ?_)
   ·rintro x26 hm;exact q_vv [] 4 [20] [(20,vi (w64 (x5+1)))] (q_hl (FX a1 a2 a3 a4 (w64 (x5+1)) x26) (ih (w64 (x5+1)) x26 _ hm))
   ·refine q_bk 1 ?_;obtain⟨g8,hm⟩:=qI hm;refine s_vv [qi 1 g8] 3 [21] [(10,vi x5),(11,vi (a1.Sizes.getD x5.toNat dd))] (s_vv [] 3 [11] [(12,vi (w64 (a2+(a1.Sizes.getD x5.toNat dd))))] ?_);refine q_sq (q_jn (qLu a1 a2 a3 a4 x5 x6) (λp=>IH a1 a2 a3 a4 x5 x6 (yO a1 a2 a3 a4 n) p=some res) ?_ ?_)
    ·rintro x12 hm;refine q_cq hm (λhm=>?_) (λhm=>?_)
     ·exact q_ex 1 (q_J (x6) hm)
     ·refine q_sk ?_;obtain⟨g14,hm⟩:=qI hm;obtain⟨g15,hm⟩:=qI hm;refine s_vu [qi 6 g14,qi 9 g15] 3 [10,42] [(13,vp 3 0)] [] [(3,bx 184 [ci x5,ci a2,ci ((a1.Gain.getD x5.toNat dd).getD a2.toNat dd)])] (q_jn (qLv a1 a2 a3 a4 x5 x6) (λp=>ON x5 x6 (yO a1 a2 a3 a4 n) p=some res) ?_ ?_)
      ·rintro x22 hm;refine q_jn (qLM a1 a2 a3 a4 x5 x6 x22) (λp=>IR x5 x6 (yO a1 a2 a3 a4 n) x22 p=some res) ?_ ?_
       ·rintro x24 hm;refine q_cq hm (λhm=>?_) (λhm=>?_)
        ·exact q_vu [] 4 [13,89] [] [2,3] [(2,bx 184 (qS x22))] (q_J (x22) hm)
        ·exact q_sk (q_J (x6) hm)
       ·rcases bif_c hm with⟨b23,hm⟩|⟨b23,hm⟩
        ·exact q_vv [qf 4 b23] 4 [] [(89,vb true)] (q_J (true) hm)
        ·exact q_vv [qf 4 b23] 4 [] [(89,vb (decide (x22.value>x6.value)))] (q_J (decide (x22.value>x6.value)) hm)
      ·obtain⟨v16,h17,hm⟩:=qC hm;refine s_vv [qc 2 [55,56] 4 (qEK a1 (w64 (a2+(a1.Sizes.getD x5.toNat dd))) v16 h17)] 4 [] [(14,vi v16)] (s_va 4 [(59,vb (decide (v16≥0)))] ?_);refine q_cq hm (λhm=>?_) (λhm=>?_)
       ·obtain⟨g19,hm⟩:=qI hm;obtain⟨g20,hm⟩:=qI hm;obtain⟨g21,hm⟩:=qI hm
        exact q_du [qi 4 g19,qi 8 g20,qi 13 g21] [0,1,0,0,12,28,0,0,192,448,1020,0,0,6144,14336,30720,65532,131071,262143,524287] 4 [12,14,59] [] [3] [(3,bx 184 [ci x5,ci a2,ci (w64 (((a1.Gain.getD x5.toNat dd).getD a2.toNat dd)+(w64 ((w64 ((a3.getD v16.toNat dd)-(a3.getD (w64 (a2+(a1.Sizes.getD x5.toNat dd))).toNat dd)))+((a4.getD v16.toNat dd).value)))))])] (q_J ((qD.mk (zX.mk x5 a2) (w64 (((a1.Gain.getD x5.toNat dd).getD a2.toNat dd)+(w64 ((w64 ((a3.getD v16.toNat dd)-(a3.getD (w64 (a2+(a1.Sizes.getD x5.toNat dd))).toNat dd)))+((a4.getD v16.toNat dd).value))))))) hm)
       ·exact q_sk (q_J ((qD.mk (zX.mk x5 a2) ((a1.Gain.getD x5.toNat dd).getD a2.toNat dd))) hm)
    ·rcases bif_c hm with⟨b9,hm⟩|⟨b9,hm⟩
     ·exact q_vv [qf 4 b9] 3 [] [(42,vb true)] (q_J (true) hm)
     ·obtain⟨g10,hm⟩:=qI hm;obtain⟨g11,hm⟩:=qI hm;exact q_vv [qf 4 b9,qi 8 g10,qi 11 g11] 3 [] [(42,vb (decide (((a1.Gain.getD x5.toNat dd).getD a2.toNat dd)<0)))] (q_J (decide (((a1.Gain.getD x5.toNat dd).getD a2.toNat dd)<0)) hm)
  ·refine q_ex 0 ?_;obtain rfl:=oi hm;exact q_l0
theorem qPK (a1:Line) (a2:Int) (a3:List Int) (a4:List qD) (r:qD) (hm:qDD a1 a2 a3 a4=some r):CtX Tryz.prog globs 182 0 0 [.agg (yM a1),.one (ci a2),.one (tl qF dd a3),.one (tl qS dd a4)] [] (qHC r) (BW r):=by
 unfold qDD at hm;refine q_E f182 93 λE=>?_;refine s_vn [] 0 ⟨[(1,vi a2),(2,vc (tl qF dd a3)),(3,vc (tl qS dd a4)),(4,vp 0 0),(8,vp 1 0)],[(0,bx 123 (yM a1)),(1,bx 184 [ci 0,ci 0,ci 0])]⟩ (s_vu [] 2 [] [(9,vp 2 0)] [] [(2,bx 184 [ci (-1),ci (-1),ci 0])] ?_);refine q_sq (s_va 3 [(18,vc (tl qF dd a1.Sizes)),(19,vi (a1.Sizes.length:Int)),(20,vi 0)] ?_);obtain⟨o28,h29,hm⟩:=qC hm
 refine zB (nd f182 116) 0 (by kernel_rfl) FUEL qDw o28 (q_hl (FX a1 a2 a3 a4 0 (qD.mk (zX.mk (-1) (-1)) 0)) (qKX E a1 a2 a3 a4 FUEL 0 (qD.mk (zX.mk (-1) (-1)) 0) o28 h29)) (s_vu [] 3 [9] [] [1,2] [(1,bx 184 (qS o28))] ?_);obtain rfl:=oi hm;exact q_rt q_rm
def qS5 (r:(List Int)):V:=vo 0 0 1 r.length
def qSk (r:(List Int)):List (Nat×(Nat×O)):=[(0,ro 0 3 1 r.length (rf qF r))]
def ED (a1:List Int) (l3:List Int) (l3n:Nat) (x4:Int):St:=
 ⟨[(3,vo 0 0 1 l3n),(10,vc (tl qF dd a1)),(11,vi (a1.length:Int)),(12,vi x4)],[(0,ro 0 3 1 l3n (rf qF l3))]⟩
def qEq (l9:List Int):St:=
 ⟨[(3,vo 0 0 1 l9.length)],[(0,ro 0 3 1 l9.length (rf qF l9))]⟩
theorem qLD (E:Env 0) (a1:List Int):∀(n:Nat) (l3:List Int) (l3n:Nat) (x4:Int) (res:(List Int)),l3.length=l3n->qA6 a1 n l3 x4=some res->HL (kx E 29 0) (nd f181 116) (zF 0 qEq res) n (ED a1 l3 l3n x4):=by
 intro n
 induction n with
 |zero=>
  intro l3 l3n x4 res hl0 hm;cases hm
 |succ n ih=>
  intro l3 l3n x4 res hl0 hm;subst hl0;refine qR (s_va 1 [(13,vb (decide (x4<(a1.length:Int))))] ?_);refine q_sq (q_cq hm (λhm=>?_) (λhm=>?_))
  ·refine q_sk (q_sq ?_);refine q_bk 1 ?_;obtain⟨g6,hm⟩:=qI hm;refine s_vv [qi 1 g6] 1 [13] [(4,vi x4),(5,vi (a1.getD x4.toNat dd))] ?_;obtain⟨g7,hm⟩:=qI hm;obtain⟨g8,hm⟩:=qI hm
   refine q_vu [qi 5 g7,qd 6 dN (qW (zD g7)),qi 9 g8,qd 10 (drw 0 0 (rf qF (l3.set ((w64 (x4+1)).toNat) (w64 ((l3.getD x4.toNat dd)+(a1.getD x4.toNat dd)))))) (stP qF dd (w64 ((l3.getD x4.toNat dd)+(a1.getD x4.toNat dd))) l3 l3.length ((w64 (x4+1)).toNat) 0 [ci (w64 ((l3.getD x4.toNat dd)+(a1.getD x4.toNat dd)))] rfl (qW (zD g8)) rfl)] 1 [4,5] [] [0] [(0,ro 0 3 1 l3.length (rf qF (l3.set ((w64 (x4+1)).toNat) (w64 ((l3.getD x4.toNat dd)+(a1.getD x4.toNat dd))))))] (q_vv [] 1 [12] [(12,vi (w64 (x4+1)))] ?_)
   exact q_hl (ED a1 (l3.set ((w64 (x4+1)).toNat) (w64 ((l3.getD x4.toNat dd)+(a1.getD x4.toNat dd)))) l3.length (w64 (x4+1))) (ih (l3.set ((w64 (x4+1)).toNat) (w64 ((l3.getD x4.toNat dd)+(a1.getD x4.toNat dd)))) l3.length (w64 (x4+1)) _ (jI rfl) hm)
  ·refine q_ex 0 ?_;obtain rfl:=oi hm;exact q_l0
theorem qHJ (a1:List Int) (r:(List Int)) (hm:qAh a1=some r):CtX Tryz.prog globs 181 0 0 [.one (tl qF dd a1)] [] (qS5 r) (qSk r):=by
 unfold qAh at hm;refine q_E f181 29 λE=>?_;refine s_vn [] 0 ⟨[(0,vc (tl qF dd a1))],[]⟩ ?_;obtain⟨g2,hm⟩:=qI hm;refine s_vu [qd 3 (drw 0 0 (rf qF (List.replicate ((w64 ((a1.length:Int)+1)).toNat) 0))) (mkP qF dd 0 (w64 ((a1.length:Int)+1)) 8 [ci 0] (UQ g2) rfl)] 0 [] [(3,vo 0 0 1 ((w64 ((a1.length:Int)+1)).toNat))] [] [(0,ro 0 3 1 ((w64 ((a1.length:Int)+1)).toNat) (rf qF (List.replicate ((w64 ((a1.length:Int)+1)).toNat) 0)))] (q_sq ?_);refine s_vv [] 1 [0] [(10,vc (tl qF dd a1)),(11,vi (a1.length:Int)),(12,vi 0)] ?_;obtain⟨o10,h11,hm⟩:=qC hm
 refine zB (nd f181 116) 0 (by kernel_rfl) FUEL qEq o10 (q_hl (ED a1 (List.replicate ((w64 ((a1.length:Int)+1)).toNat) 0) ((w64 ((a1.length:Int)+1)).toNat) 0) (qLD E a1 FUEL (List.replicate ((w64 ((a1.length:Int)+1)).toNat) 0) ((w64 ((a1.length:Int)+1)).toNat) 0 o10 TV h11)) (s_vv [] 1 [3] [(2,vo 0 0 1 o10.length)] ?_);obtain rfl:=oi hm;exact q_rt q_rm
def qMY (r:(List qD)):V:=vo 0 0 3 r.length
def qM6 (r:(List qD)):List (Nat×(Nat×O)):=[(0,ro 0 184 3 r.length (rf qS r))]
def jS (a1:Line) (v2:(List Int)) (v4:(List Int)) (l7:List qD) (l8:List qD) (x9:Int) (v11:qD):St:=
 ⟨[(1,vp 0 0),(3,vo 1 0 1 v2.length),(4,vo 2 0 1 v4.length),(5,vo 3 0 3 l7.length),(6,vo 4 0 3 l8.length),(7,vi x9),(8,vp 5 0)],[(0,bx 123 (yM a1)),(1,ro 0 3 1 v2.length (rf qF v2)),(2,ro 0 3 1 v4.length (rf qF v4)),(3,ro 0 184 3 l7.length (rf qS l7)),(4,ro 0 184 3 l8.length (rf qS (l8.set x9.toNat v11)))]⟩
def qJZ (a1:Line) (v2:(List Int)) (v4:(List Int)) (l7:List qD) (l8:List qD) (x9:Int) (v11:qD) (x20:Int) (x31:qD):St:=
 (jS a1 v2 v4 l7 l8 x9 v11).up [] [(10,vi x20)] [] [(5,bx 184 (qS x31))]
def qJV (a1:Line) (v2:(List Int)) (v4:(List Int)) (l7:List qD) (l8:List qD) (x9:Int) (v11:qD) (x20:Int) (x21:qD) (x29:Bool):St:=
 (jS a1 v2 v4 l7 l8 x9 v11).up [] [(10,vi x20),(11,vp 7 0),(125,vb x29)] [] [(5,bx 184 (qS x21)),(7,bx 184 [ci ((((l8.set x9.toNat v11).getD x20.toNat dd).piece).Size),ci ((((l8.set x9.toNat v11).getD x20.toNat dd).piece).At),ci (w64 ((((l8.set x9.toNat v11).getD x20.toNat dd).value)+(w64 ((w64 ((w64 ((v2.getD ((w64 (x20-a1.Kerf)).toNat) dd)-(v2.getD x9.toNat dd)))+(v4.getD x20.toNat dd)))-(v4.getD ((w64 (x20-a1.Kerf)).toNat) dd)))))])]
def VQ (a1:Line) (v2:(List Int)) (v4:(List Int)) (l7:List qD) (l8:List qD) (x9:Int) (v11:qD) (x20:Int) (x21:qD):St:=
 (jS a1 v2 v4 l7 l8 x9 v11).up [] [(10,vi x20)] [] [(5,bx 184 (qS x21))]
def qAc (a1:Line) (v2:(List Int)) (v4:(List Int)) (l7:List qD) (l8:List qD) (x9:Int) (v11:qD) (x32:qD):St:=
 (jS a1 v2 v4 l7 l8 x9 v11).up [] [] [] [(5,bx 184 (qS x32))]
def qJO (a1:Line) (v2:(List Int)) (v4:(List Int)) (l7:List qD) (l8:List qD) (x9:Int) (v11:qD) (x19:qD):St:=
 (jS a1 v2 v4 l7 l8 x9 v11).up [] [] [] [(5,bx 184 (qS x19))]
def qJo (a1:Line) (v2:(List Int)) (v4:(List Int)) (l7:List qD) (l8:List qD) (x9:Int) (v11:qD) (x17:Bool):St:=
 (jS a1 v2 v4 l7 l8 x9 v11).up [] [(9,vp 6 0),(67,vb x17)] [] [(5,bx 184 [ci (-1),ci (-1),ci (w64 ((v2.getD a1.Len.toNat dd)-(v2.getD x9.toNat dd)))]),(6,bx 184 (qS ((l8.set x9.toNat v11).getD x9.toNat dd)))]
def VV (a1:Line) (v2:(List Int)) (v4:(List Int)) (l7:List qD) (l7n:Nat) (l8:List qD) (l8n:Nat) (x9:Int):St:=
 ⟨[(1,vp 0 0),(3,vo 1 0 1 v2.length),(4,vo 2 0 1 v4.length),(5,vo 3 0 3 l7n),(6,vo 4 0 3 l8n),(7,vi x9)],[(0,bx 123 (yM a1)),(1,ro 0 3 1 v2.length (rf qF v2)),(2,ro 0 3 1 v4.length (rf qF v4)),(3,ro 0 184 3 l7n (rf qS l7)),(4,ro 0 184 3 l8n (rf qS l8))]⟩
def qBs (l36:List qD):St:=
 ⟨[(5,vo 3 0 3 l36.length)],[(3,ro 0 184 3 l36.length (rf qS l36))]⟩
theorem qIs (E:Env 0) (a1:Line) (v2:(List Int)) (v4:(List Int)) (l7:List qD) (l8:List qD) (x9:Int) (v11:qD):∀(n:Nat) (x20:Int) (x21:qD) (res:qD),ZL a1 v2 v4 l8 x9 v11 n x20 x21=some res->HL (kx E 132 0) (nd f114 512628) (zF 2 (λo=>qAc a1 v2 v4 l7 l8 x9 v11 o) res) n (VQ a1 v2 v4 l7 l8 x9 v11 x20 x21):=by
 intro n
 induction n with
 |zero=>
  intro x20 x21 res hm;cases hm
 |succ n ih=>
  intro x20 x21 res hm;refine qR (q_sq ?_);refine s_va 7 [(79,vb (decide (x20<=a1.Len)))] (q_cq hm (λhm=>?_) (λhm=>?_))
  ·refine q_sk (q_jn (qJZ a1 v2 v4 l7 l8 x9 v11 x20) (λp=>LR a1 x20 (ZL a1 v2 v4 l8 x9 v11 n) p=some res) ?_ ?_)
   ·rintro x31 hm;exact q_vv [] 8 [10] [(10,vi (w64 (x20+a1.Pitch)))] (q_hl (VQ a1 v2 v4 l7 l8 x9 v11 (w64 (x20+a1.Pitch)) x31) (ih (w64 (x20+a1.Pitch)) x31 _ hm))
   ·refine q_bk 3 ?_;obtain⟨g23,hm⟩:=qI hm;refine s_vu [qi 2 g23,qd 3 dN (qW (zD g23))] 7 [79] [(11,vp 7 0)] [] [(7,bx 184 (qS ((l8.set x9.toNat v11).getD x20.toNat dd)))] (s_va 8 [(12,vi (w64 (x20-a1.Kerf)))] ?_);obtain⟨g24,hm⟩:=qI hm;obtain⟨g25,hm⟩:=qI hm;obtain⟨g26,hm⟩:=qI hm;obtain⟨g27,hm⟩:=qI hm
    refine s_du [qi 4 g24,qd 5 dN (qW (zD g24)),qi 8 g25,qd 9 dN (qW (zD g25)),qi 13 g26,qd 14 dN (qW (zD g26)),qi 18 g27,qd 19 dN (qW (zD g27))] [0,1,0,0,12,28,0,0,192,448,1020,0,0,6144,14336,32764,0,0,196608,458752,1048572,2097151,4194303,8388607] 8 [12] [] [7] [(7,bx 184 [ci ((((l8.set x9.toNat v11).getD x20.toNat dd).piece).Size),ci ((((l8.set x9.toNat v11).getD x20.toNat dd).piece).At),ci (w64 ((((l8.set x9.toNat v11).getD x20.toNat dd).value)+(w64 ((w64 ((w64 ((v2.getD ((w64 (x20-a1.Kerf)).toNat) dd)-(v2.getD x9.toNat dd)))+(v4.getD x20.toNat dd)))-(v4.getD ((w64 (x20-a1.Kerf)).toNat) dd)))))])] ?_
    refine q_jn (qJV a1 v2 v4 l7 l8 x9 v11 x20 x21) (λp=>FK a1 v2 v4 l8 x9 v11 x20 x21 (ZL a1 v2 v4 l8 x9 v11 n) p=some res) ?_ ?_
    ·rintro x29 hm;refine q_cq hm (λhm=>?_) (λhm=>?_)
     ·exact q_vu [] 8 [11,125] [] [5,7] [(5,bx 184 [ci ((((l8.set x9.toNat v11).getD x20.toNat dd).piece).Size),ci ((((l8.set x9.toNat v11).getD x20.toNat dd).piece).At),ci (w64 ((((l8.set x9.toNat v11).getD x20.toNat dd).value)+(w64 ((w64 ((w64 ((v2.getD ((w64 (x20-a1.Kerf)).toNat) dd)-(v2.getD x9.toNat dd)))+(v4.getD x20.toNat dd)))-(v4.getD ((w64 (x20-a1.Kerf)).toNat) dd)))))])] (q_J ((qD.mk (((l8.set x9.toNat v11).getD x20.toNat dd).piece) (w64 ((((l8.set x9.toNat v11).getD x20.toNat dd).value)+(w64 ((w64 ((w64 ((v2.getD ((w64 (x20-a1.Kerf)).toNat) dd)-(v2.getD x9.toNat dd)))+(v4.getD x20.toNat dd)))-(v4.getD ((w64 (x20-a1.Kerf)).toNat) dd))))))) hm)
     ·exact q_sk (q_J (x21) hm)
    ·rcases bif_c hm with⟨b28,hm⟩|⟨b28,hm⟩
     ·exact q_vv [qf 4 b28] 8 [] [(125,vb (decide ((w64 ((((l8.set x9.toNat v11).getD x20.toNat dd).value)+(w64 ((w64 ((w64 ((v2.getD ((w64 (x20-a1.Kerf)).toNat) dd)-(v2.getD x9.toNat dd)))+(v4.getD x20.toNat dd)))-(v4.getD ((w64 (x20-a1.Kerf)).toNat) dd)))))>x21.value)))] (q_J (decide ((w64 ((((l8.set x9.toNat v11).getD x20.toNat dd).value)+(w64 ((w64 ((w64 ((v2.getD ((w64 (x20-a1.Kerf)).toNat) dd)-(v2.getD x9.toNat dd)))+(v4.getD x20.toNat dd)))-(v4.getD ((w64 (x20-a1.Kerf)).toNat) dd)))))>x21.value)) hm)
     ·exact q_vv [qf 4 b28] 8 [] [(125,vb false)] (q_J (false) hm)
  ·refine q_ex 2 ?_;obtain rfl:=oi hm;exact q_l0
theorem qIu (E:Env 0) (a1:Line) (v2:(List Int)) (v4:(List Int)):∀(n:Nat) (l7:List qD) (l7n:Nat) (l8:List qD) (l8n:Nat) (x9:Int) (res:(List qD)),l7.length=l7n->l8.length=l8n->ZK a1 v2 v4 n l7 l8 x9=some res->HL (kx E 132 0) (nd f114 500) (zF 0 qBs res) n (VV a1 v2 v4 l7 l7n l8 l8n x9):=by
 intro n
 induction n with
 |zero=>
  intro l7 l7n l8 l8n x9 res hl0 hl1 hm;cases hm
 |succ n ih=>
  intro l7 l7n l8 l8n x9 res hl0 hl1 hm;subst hl0;subst hl1;refine qR (q_sq ?_);refine s_va 5 [(30,vb (decide (x9≥0)))] (q_cq hm (λhm=>?_) (λhm=>?_))
  ·refine q_sk (q_sq ?_);refine q_bk 1 ?_;obtain⟨v11,h12,hm⟩:=qC hm;obtain⟨g13,hm⟩:=qI hm
   refine s_vu [qd 6 (dex (cen [] [] 5 0 (qHC v11) (BW v11) [35,36,37,38] [2,3])) (zW (K:=(kx E 132 0)) (b:=false) ⟨[(35,va (yM a1)),(36,vi x9),(37,vo 2 0 1 v4.length),(38,vo 3 0 3 l7.length)],[(2,ro 0 3 1 v4.length (rf qF v4)),(3,ro 0 184 3 l7.length (rf qS l7))]⟩ (opAt (rg f114 8008) 6) [] [] 5 (o1 (And.intro (kd v4.length) (kd l7.length))) rfl (qPK a1 x9 v4 l7 v11 h12) (.inr ⟨(by kernel_rfl),qQ8 v11⟩) (by kernel_rfl)),qi 7 g13,qd 8 (drw 0 0 (rf qS (l8.set x9.toNat v11))) (stP qS dd v11 l8 l8.length x9.toNat 0 (qS v11) rfl (qW (zD g13)) rfl)] 5 [30] [] [4] [(4,ro 0 184 3 l8.length (rf qS (l8.set x9.toNat v11)))] ?_
   obtain⟨g14,hm⟩:=qI hm;obtain⟨g15,hm⟩:=qI hm;refine s_du [qi 4 g14,qd 5 dN (qW (zD g14)),qi 8 g15,qd 9 dN (qW (zD g15))] [0,0,0,4,14,30,0,0,192,448,1022,2047,0,8191] 5 [] [(8,vp 5 0)] [] [(5,bx 184 [ci (-1),ci (-1),ci (w64 ((v2.getD a1.Len.toNat dd)-(v2.getD x9.toNat dd)))])] (q_jn (qJO a1 v2 v4 l7 l8 x9 v11) (λp=>FB a1 v2 v4 l7 l8 x9 (ZK a1 v2 v4 n) v11 p=some res) ?_ ?_)
   ·rintro x19 hm;refine q_sq (s_va 7 [(10,vi (w64 ((w64 (x9+a1.Pitch))+a1.Kerf)))] ?_);obtain⟨o33,h34,hm⟩:=qC hm;refine zB (nd f114 512628) 2 (by kernel_rfl) FUEL (λo=>qAc a1 v2 v4 l7 l8 x9 v11 o) o33 (q_hl (VQ a1 v2 v4 l7 l8 x9 v11 (w64 ((w64 (x9+a1.Pitch))+a1.Kerf)) x19) (qIs E a1 v2 v4 l7 l8 x9 v11 FUEL (w64 ((w64 (x9+a1.Pitch))+a1.Kerf)) x19 o33 h34)) ?_;obtain⟨g35,hm⟩:=qI hm
    refine q_vu [qi 3 g35,qd 4 (drw 0 0 (rf qS (l7.set x9.toNat o33))) (stP qS dd o33 l7 l7.length x9.toNat 0 (qS o33) rfl (qW (zD g35)) rfl)] 7 [8] [] [3,5] [(3,ro 0 184 3 l7.length (rf qS (l7.set x9.toNat o33)))] (q_vv [] 7 [7] [(7,vi (w64 (x9-1)))] ?_);exact q_hl (VV a1 v2 v4 (l7.set x9.toNat o33) l7.length (l8.set x9.toNat v11) l8.length (w64 (x9-1))) (ih (l7.set x9.toNat o33) l7.length (l8.set x9.toNat v11) l8.length (w64 (x9-1)) _ (jI rfl) (jI rfl) hm)
   ·refine s_vu [qi 2 g13,qd 3 dN (qW (zD g13))] 6 [] [(9,vp 6 0)] [] [(6,bx 184 (qS ((l8.set x9.toNat v11).getD x9.toNat dd)))] (q_jn (qJo a1 v2 v4 l7 l8 x9 v11) (λp=>NP a1 v2 v4 l7 l8 x9 (ZK a1 v2 v4 n) v11 p=some res) ?_ ?_)
    ·rintro x17 hm;refine q_cq hm (λhm=>?_) (λhm=>?_)
     ·exact q_vu [] 7 [9,67] [] [5,6] [(5,bx 184 (qS ((l8.set x9.toNat v11).getD x9.toNat dd)))] (q_J (((l8.set x9.toNat v11).getD x9.toNat dd)) hm)
     ·exact q_sk (q_J ((qD.mk (zX.mk (-1) (-1)) (w64 ((v2.getD a1.Len.toNat dd)-(v2.getD x9.toNat dd))))) hm)
    ·rcases bif_c hm with⟨b16,hm⟩|⟨b16,hm⟩
     ·exact q_vv [qf 4 b16] 7 [] [(67,vb (decide ((((l8.set x9.toNat v11).getD x9.toNat dd).value)>(w64 ((v2.getD a1.Len.toNat dd)-(v2.getD x9.toNat dd))))))] (q_J (decide ((((l8.set x9.toNat v11).getD x9.toNat dd).value)>(w64 ((v2.getD a1.Len.toNat dd)-(v2.getD x9.toNat dd))))) hm)
     ·exact q_vv [qf 4 b16] 7 [] [(67,vb false)] (q_J (false) hm)
  ·refine q_ex 0 ?_;obtain rfl:=oi hm;exact q_l0
theorem qLT (a1:Line) (r:(List qD)) (hm:qAM a1=some r):CtX Tryz.prog globs 114 0 0 [.agg (yM a1)] [] (qMY r) (qM6 r):=by
 unfold qAM at hm;refine q_E f114 132 λE=>?_;refine s_vn [] 0 ⟨[(1,vp 0 0)],[(0,bx 123 (yM a1))]⟩ ?_;obtain⟨v2,h3,hm⟩:=qC hm;obtain⟨v4,h5,hm⟩:=qC hm;refine s_du [qc 2 [14] 1 (qHJ a1.Chip v2 h3),qc 5 [17] 2 (qHJ a1.Dust v4 h5)] [0,1,3,0,8,31,63,127] 1 [] [(3,vo 1 0 1 v2.length),(4,vo 2 0 1 v4.length)] [] [(1,ro 0 3 1 v2.length (rf qF v2)),(2,ro 0 3 1 v4.length (rf qF v4))] ?_;obtain⟨g6,hm⟩:=qI hm
 refine s_vu [qd 3 (drw 3 0 (rf qS (List.replicate ((w64 (a1.Len+1)).toNat) (qD.mk (zX.mk 0 0) 0)))) (mkP qS dd (qD.mk (zX.mk 0 0) 0) (w64 (a1.Len+1)) 24 [ci 0,ci 0,ci 0] (UQ g6) rfl)] 3 [] [(5,vo 3 0 3 ((w64 (a1.Len+1)).toNat))] [] [(3,ro 0 184 3 ((w64 (a1.Len+1)).toNat) (rf qS (List.replicate ((w64 (a1.Len+1)).toNat) (qD.mk (zX.mk 0 0) 0))))] ?_
 refine s_vu [qd 3 (drw 4 0 (rf qS (List.replicate ((w64 (a1.Len+1)).toNat) (qD.mk (zX.mk 0 0) 0)))) (mkP qS dd (qD.mk (zX.mk 0 0) 0) (w64 (a1.Len+1)) 24 [ci 0,ci 0,ci 0] (UQ g6) rfl)] 4 [] [(6,vo 4 0 3 ((w64 (a1.Len+1)).toNat))] [] [(4,ro 0 184 3 ((w64 (a1.Len+1)).toNat) (rf qS (List.replicate ((w64 (a1.Len+1)).toNat) (qD.mk (zX.mk 0 0) 0))))] (q_sq ?_);refine s_va 5 [(7,vi a1.Len)] ?_;obtain⟨o37,h38,hm⟩:=qC hm
 refine zB (nd f114 500) 0 (by kernel_rfl) FUEL qBs o37 (q_hl (VV a1 v2 v4 (List.replicate ((w64 (a1.Len+1)).toNat) (qD.mk (zX.mk 0 0) 0)) ((w64 (a1.Len+1)).toNat) (List.replicate ((w64 (a1.Len+1)).toNat) (qD.mk (zX.mk 0 0) 0)) ((w64 (a1.Len+1)).toNat) a1.Len) (qIu E a1 v2 v4 FUEL (List.replicate ((w64 (a1.Len+1)).toNat) (qD.mk (zX.mk 0 0) 0)) ((w64 (a1.Len+1)).toNat) (List.replicate ((w64 (a1.Len+1)).toNat) (qD.mk (zX.mk 0 0) 0)) ((w64 (a1.Len+1)).toNat) a1.Len o37 TV TV h38)) (s_vv [] 5 [5] [(2,vo 3 0 3 o37.length)] ?_);obtain rfl:=oi hm;exact q_sw 3 0 (q_rt q_rm)
open Go.Proofs Go.Proofs.Tryz
def qBX (r:(List zX)×Int×Int):V:= .tup [.one (.own 0 0 2 r.1.length),.one (ci r.2.1),.one (ci r.2.2)]
def TT (r:(List zX)×Int×Int):List (Nat×(Nat×O)):=[(0,ro 0 132 2 r.1.length (rf yG r.1))]
theorem qI5 (r:(List zX)×Int×Int):wQ (TT r):=by
 intro i k o h;unfold TT at h;rw[look_cons] at h;split at h
 ·cases h;exact λ_ _=>rfl
 ·cases h
def SA (a1:Line) (v5:(List qD)) (l7:List zX) (l7n:Nat) (x8:Int):St:=
 ⟨[(1,vp 0 0),(6,vo 1 0 3 v5.length),(7,vo 2 0 2 l7n),(8,vi x8)],[(0,bx 123 (yM a1)),(1,ro 0 184 3 v5.length (rf qS v5)),(2,ro 0 132 2 l7n (rf yG l7))]⟩
def qEB (v5:(List qD)) (l16:List zX):St:=
 ⟨[(6,vo 1 0 3 v5.length),(7,vo 2 0 2 l16.length)],[(1,ro 0 184 3 v5.length (rf qS v5)),(2,ro 0 132 2 l16.length (rf yG l16))]⟩
theorem qLL (E:Env 0) (a1:Line) (v5:(List qD)):∀(n:Nat) (l7:List zX) (l7n:Nat) (x8:Int) (res:(List zX)),l7.length=l7n->qAG a1 v5 n l7 x8=some res->HL (kx E 47 0) (nd f55 500) (zF 0 (λo=>qEB v5 o) res) n (SA a1 v5 l7 l7n x8):=by
 intro n
 induction n with
 |zero=>
  intro l7 l7n x8 res hl0 hm;cases hm
 |succ n ih=>
  intro l7 l7n x8 res hl0 hm;subst hl0;refine qR (q_sq ?_);refine s_va 3 [(18,vb (decide (x8≥0)))] (q_cq hm (λhm=>?_) (λhm=>?_))
  ·refine q_sk (q_bk 1 ?_);obtain⟨g10,hm⟩:=qI hm;refine s_vu [qi 2 g10,qd 4 dN (qW (zD g10))] 3 [8,18] [(9,vp 3 0)] [] [(3,bx 132 (yG ((v5.getD x8.toNat dd).piece)))] (q_sq ?_);refine s_va 4 [(26,vb (((((v5.getD x8.toNat dd).piece).Size)==(-1))&&(((((v5.getD x8.toNat dd).piece).At)==(-1))&&true)))] (q_cq hm (λhm=>?_) (λhm=>?_))
   ·refine q_ex 0 ?_;obtain rfl:=oi hm;exact q_l0
   ·refine q_sk ?_;obtain⟨g12,hm⟩:=qI hm;refine s_vu [qd 2 (drw 4 0 (rf yG [(v5.getD x8.toNat dd).piece])) (litP yG dd 2 (λ_=>rfl) ([(v5.getD x8.toNat dd).piece]:List zX) 1 rfl),qd 3 (drw 2 1 (rf yG (l7++[(v5.getD x8.toNat dd).piece]))) (apP yG dd l7 ([(v5.getD x8.toNat dd).piece]:List zX) l7.length 1 2 16 (1<=1) (kd _) rfl rfl (λ_=>rfl) (zN g12))] 4 [7,26] [(7,vo 2 1 2 (l7.length+1))] [2] [(2,ro 1 132 2 (l7.length+1) (rf yG (l7++[(v5.getD x8.toNat dd).piece])))] ?_;obtain⟨g13,hm⟩:=qI hm;obtain⟨v14,h15,hm⟩:=qC hm
    exact q_du [qi 7 g13,qc 10 [31,40] 5 (qEK a1 (w64 ((((v5.getD x8.toNat dd).piece).At)+(a1.Sizes.getD (((v5.getD x8.toNat dd).piece).Size).toNat dd))) v14 h15)] [0,0,2,0,8,0,32,120,248,510,1023,2047] 5 [9] [(8,vi v14)] [3] [] (q_hl (SA a1 v5 (l7++[(v5.getD x8.toNat dd).piece]) (l7.length+1) v14) (ih (l7++[(v5.getD x8.toNat dd).piece]) (l7.length+1) v14 _ (zH rfl rfl) hm))
  ·refine q_ex 0 ?_;obtain rfl:=oi hm;exact q_l0
theorem qHG (a1:Line) (r:(List zX)×Int×Int) (hm:yT a1=some r):CtX Tryz.prog globs 55 0 0 [.agg (yM a1)] [] (qBX r) (TT r):=by
 unfold yT at hm;refine q_E f55 47 λE=>?_;refine s_vn [] 0 ⟨[(1,vp 0 0)],[(0,bx 123 (yM a1))]⟩ (q_sq ?_);obtain⟨v2,h3,hm⟩:=qC hm;refine s_vv [qc 1 [10] 1 (qPb a1 v2 h3)] 1 [] [(5,vi v2)] (s_va 1 [(13,vb (v2 !=0))] ?_);refine q_cq hm (λhm=>?_) (λhm=>?_)
 ·refine s_vn [] 1 ⟨[(2,vc (.emp)),(3,vi 0),(4,vi v2)],[]⟩ (q_fo 2 1 132 2 yG ?_);refine q_fl 2 1 132 2 yG ?_;obtain rfl:=oi hm;exact q_sw 1 0 (q_rt q_rm)
 ·refine q_sk ?_;obtain⟨v5,h6,hm⟩:=qC hm;refine s_vu [qc 1 [15] 1 (qLT a1 v5 h6)] 1 [5,13] [(6,vo 1 0 3 v5.length)] [] [(1,ro 0 184 3 v5.length (rf qS v5))] (s_va 2 [(7,vc (.emp))] ?_);refine q_sq (s_va 2 [(8,vi 0)] ?_);refine q_fo 7 2 132 2 yG ?_;obtain⟨o17,h18,hm⟩:=qC hm;refine zB (nd f55 500) 0 (by kernel_rfl) FUEL (λo=>qEB v5 o) o17 (q_hl (SA a1 v5 ([]:List zX) 0 0) (qLL E a1 v5 FUEL ([]:List zX) 0 0 o17 rfl h18)) ?_;obtain⟨g19,hm⟩:=qI hm
  refine s_du [qi 2 g19,qd 4 dN (qW (zD g19))] [0,0,2,6,14,1,63,127] 3 [6,7] [(2,vo 2 0 2 o17.length),(3,vi ((v5.getD ((0:Int).toNat) dd).value)),(4,vi 0)] [1] [] ?_;obtain rfl:=oi hm;exact q_sw 2 0 (q_rt q_rm)
def JW (a1:List Node) (a2:Int) (a3:List Node) (r:Int×(List Node)):V:= .undef
def yS (a1:List Node) (a2:Int) (a3:List Node) (r:Int×(List Node)):List (Nat×(Nat×O)):=[(0,bx 3 [ci r.1]),(1,bx 56 [.own 2 0 2 r.2.length]),(2,ro 0 156 2 r.2.length (rf qN r.2))]
theorem NZ (a1:List Node) (a2:Int) (a3:List Node) (r:Int×(List Node)):wQ (yS a1 a2 a3 r):=by
 intro i k o h;unfold yS at h;rw[look_cons] at h;split at h
 ·cases h;rfl
 ·rw[look_cons] at h;split at h
  ·cases h;rfl
  ·rw[look_cons] at h;split at h
   ·cases h;exact λ_ _=>rfl
   ·cases h
theorem KY (a1:List Node) (a2:Int) (a3:List Node) (r:Int×(List Node)) (hm:JF a1 a2 a3=some r):CtX Tryz.prog globs 117 3 2 [.one (tl qN dd a1),.one (.bptr 0 0 0),.one (.bptr 1 0 0)] [(0,bx 3 [ci a2]),(1,bx 56 [.own 2 0 2 a3.length]),(2,ro 0 156 2 a3.length (rf qN a3))] (JW a1 a2 a3 r) (yS a1 a2 a3 r):=by
 unfold JF at hm;refine q_E f117 13 λE=>?_;refine s_vn [] 3 ⟨[(0,vc (tl qN dd a1)),(1,vp 0 0),(2,vp 1 0)],[(0,bx 3 [ci (w64 (a2+(a1.length:Int)))]),(1,bx 56 [.own 2 0 2 a3.length]),(2,ro 0 156 2 a3.length (rf qN a3))]⟩ (s_vv [] 3 [1] [(9,vb (decide ((w64 (a2+(a1.length:Int)))<=127)))] ?_);refine q_cq hm (λhm=>?_) (λhm=>?_)
 ·obtain⟨g5,hm⟩:=qI hm;refine q_wu [qd 2 (drw 2 1 (rf qN (a3++a1))) (apP qN dd a3 a1 a3.length a1.length 2 16 (True) trivial rfl rfl (λ_=>rfl) (zN g5))] [.len 2 ((a3++a1).length)] (o1 (And.intro (Eq.symm (show(a3++a1).length=(a3.length+a1.length) from(zH rfl rfl))) (And.intro (Eq.symm (show(a3++a1).length=(a3.length+a1.length) from(zH rfl rfl))) (Eq.symm (show(a3++a1).length=(a3.length+a1.length) from(zH rfl rfl)))))) 3 [0,2,9] [] [1,2] [(1,bx 56 [.own 2 1 2 ((a3++a1).length)]),(2,ro 1 156 2 ((a3++a1).length) (rf qN (a3++a1)))] ?_;obtain rfl:=oi hm;exact q_rm
 ·refine q_sk ?_;obtain rfl:=oi hm;exact q_rm
def qQD (r:Bool):V:=vb r
def qSh (r:Bool):List (Nat×(Nat×O)):=[]
def qLb (x3:Bool):St:=
 ⟨[(2,vb x3)],[]⟩
theorem qPr (a1:Int) (r:Bool) (hm:qDB a1=some r):CtX Tryz.prog globs 116 0 0 [.one (ci a1)] [] (qQD r) (qSh r):=by
 unfold qDB at hm;refine q_E f116 9 λE=>?_;refine s_vn [] 0 ⟨[(0,vi a1)],[]⟩ (q_jn (qLb) (λp=>IW p=some r) ?_ ?_)
 ·rintro x3 hm;obtain rfl:=oi hm;exact q_rt q_rm
 ·rcases bif_c hm with⟨b2,hm⟩|⟨b2,hm⟩
  ·exact q_vn [qf 2 b2] 0 ⟨[(2,vb true)],[]⟩ (q_J (true) hm)
  ·exact q_vn [qf 2 b2] 0 ⟨[(2,vb (a1==3))],[]⟩ (q_J (a1==3) hm)
open Go.Proofs Go.Proofs.Tryz
def qRs (r:Span):V:=va (qE r)
def qR4 (r:Span):List (Nat×(Nat×O)):=[]
theorem qOs (a1:Rect) (a2:Int) (r:Span) (hm:qDO a1 a2=some r):CtX Tryz.prog globs 118 0 0 [.agg (qX a1),.one (ci a2)] [] (qRs r) (qR4 r):=by
 unfold qDO at hm;refine q_E f118 11 λE=>?_;refine s_vn [] 0 ⟨[(1,vi a2),(2,vp 0 0),(4,vp 1 0)],[(0,bx 55 (qX a1)),(1,bx 53 [ci 0,ci 0])]⟩ (q_sq ?_);refine s_vv [] 2 [1] [(6,vb (a2==2))] (q_cq hm (λhm=>?_) (λhm=>?_))
 ·refine s_vn [] 2 ⟨[(4,vp 1 0)],[(1,bx 53 (qE a1.X))]⟩ ?_;obtain rfl:=oi hm;exact q_rt q_rm
 ·refine q_sk (s_vn [] 2 ⟨[(4,vp 1 0)],[(1,bx 53 (qE a1.Y))]⟩ ?_);obtain rfl:=oi hm;exact q_rt q_rm
def SH (r:Bool):V:=vb r
def SK (r:Bool):List (Nat×(Nat×O)):=[]
def qJQ (a1:Rect) (x2:Int) (x7:Bool):St:=
 ⟨[(9,va (qX a1)),(10,vi x2),(27,vb x7)],[]⟩
def GF (a1:Rect) (x2:Int):St:=
 ⟨[(9,va (qX a1)),(10,vi x2)],[]⟩
def CY :St:=
 ⟨[],[]⟩
theorem qJd (E:Env 0) (a1:Rect):∀(n:Nat) (x2:Int) (res:Bool⊕Unit),ZF a1 n x2=some res->HL (kx E 29 0) (nd f81 52) (wC 0 (λo=>CY) (λv st=>RetQ Tryz.prog f81 (SH v) (SK v) .ret st) res) n (GF a1 x2):=by
 intro n
 induction n with
 |zero=>
  intro x2 res hm;cases hm
 |succ n ih=>
  intro x2 res hm;refine qR (s_va 1 [(11,vb (decide (x2<2)))] ?_);refine q_sq (q_cq hm (λhm=>?_) (λhm=>?_))
  ·refine q_sk (q_sq ?_);refine q_bk 1 ?_;obtain⟨g4,hm⟩:=qI hm;refine s_vu [qi 0 g4] 1 [11] [(4,vp 1 0)] [] [(1,bx 53 [ci (([a1.X.A,a1.X.B,a1.Y.A,a1.Y.B]:List Int).getD (x2.toNat*2+0) 0),ci (([a1.X.A,a1.X.B,a1.Y.A,a1.Y.B]:List Int).getD (x2.toNat*2+1) 0)])] (q_jn (qJQ a1 x2) (λp=>RA x2 (ZF a1 n) p=some res) ?_ ?_)
   ·rintro x7 hm;refine q_cq hm (λhm=>?_) (λhm=>?_)
    ·refine s_vn [] 2 ⟨[(2,vb false)],[]⟩ ?_;obtain rfl:=oi hm;refine q_rt (zJ false ?_);exact q_rm
    ·refine q_sk (q_vv [] 2 [10,27] [(10,vi (w64 (x2+1)))] ?_);exact q_hl (GF a1 (w64 (x2+1))) (ih (w64 (x2+1)) _ hm)
   ·rcases bif_c hm with⟨b5,hm⟩|⟨b5,hm⟩
    ·exact q_vu [qf 3 b5] 2 [4] [(27,vb true)] [1] [] (q_J (true) hm)
    ·rcases bif_c hm with⟨b6,hm⟩|⟨b6,hm⟩
     ·exact q_vu [qf 3 b5,qf 8 b6] 2 [4] [(27,vb true)] [1] [] (q_J (true) hm)
     ·exact q_vu [qf 3 b5,qf 8 b6] 2 [4] [(27,vb (decide ((([a1.X.A,a1.X.B,a1.Y.A,a1.Y.B]:List Int).getD (x2.toNat*2+0) 0)≥(([a1.X.A,a1.X.B,a1.Y.A,a1.Y.B]:List Int).getD (x2.toNat*2+1) 0))))] [1] [] (q_J (decide ((([a1.X.A,a1.X.B,a1.Y.A,a1.Y.B]:List Int).getD (x2.toNat*2+0) 0)≥(([a1.X.A,a1.X.B,a1.Y.A,a1.Y.B]:List Int).getD (x2.toNat*2+1) 0))) hm)
  ·refine q_ex 0 ?_;obtain rfl:=oi hm;exact q_l1 ()
theorem qDc (a1:Rect) (r:Bool) (hm:CL a1=some r):CtX Tryz.prog globs 81 0 0 [.agg (qX a1)] [] (SH r) (SK r):=by
 unfold CL at hm;refine q_E f81 29 λE=>?_;refine s_vn [] 0 ⟨[(1,vp 0 0)],[(0,bx 55 (qX a1))]⟩ (q_sq ?_);refine s_vn [] 1 ⟨[(9,va (qX a1)),(10,vi 0)],[]⟩ ?_;obtain⟨u11,h10,hm⟩:=qC hm;refine zQ (nd f81 52) 0 (by kernel_rfl) FUEL (λo=>CY) (λv st=>RetQ Tryz.prog f81 (SH v) (SK v) .ret st) u11 (q_hl (GF a1 0) (qJd E a1 FUEL 0 u11 h10)) ?_ ?_
 ·rintro v12 rfl st hr;obtain rfl:=oi hm;exact hr
 ·rintro o9 rfl;replace hm:_=some r:=hm;refine s_vn [] 1 ⟨[(2,vb true)],[]⟩ ?_;obtain rfl:=oi hm;exact q_rt q_rm
end Saw
end Go.SL

import Derived.Test.YtigmogcdifllhaaGreatDoorEBase
import Derived.Test.YtigmogcdifllhaaGreatDoorEFa9
set_option linter.unusedVariables false
set_option linter.unusedSimpArgs false
namespace Go.SL
namespace Saw
open Go.Proofs Go.Proofs.Tryz
set_option maxHeartbeats 4000000
set_option maxRecDepth 100000
def qF5 (r:qB):V:=va (qQ r)
def FV (r:qB):List (Nat×(Nat×O)):=[]
theorem qOx (r:qB):ZE (FV r):=by
 intro i k o h;unfold FV at h;cases h
def WU (a1:Line) (a2:Int) (a3:List Int) (a4:List qB) (x5:Int):St:=
 ⟨[(1,vi a2),(2,vc (tl qD dd a3)),(3,vc (tl qQ dd a4)),(4,vp 0 0),(8,vp 1 0),(9,vp 2 0),(18,vc (tl qD dd a1.Sizes)),(19,vi (a1.Sizes.length:Int)),(20,vi x5)],[(0,bx 123 (QK a1)),(1,bx 184 [ci 0,ci 0,ci 0])]⟩
def qLa (a1:Line) (a2:Int) (a3:List Int) (a4:List qB) (x5:Int) (x26:qB):St:=
 (WU a1 a2 a3 a4 x5).up [] [] [] [(2,bx 184 (qQ x26))]
def qKI (a1:Line) (a2:Int) (a3:List Int) (a4:List qB) (x5:Int) (x6:qB) (x22:qB) (x24:Bool):St:=
 (WU a1 a2 a3 a4 x5).up [] [(13,vp 3 0),(89,vb x24)] [] [(2,bx 184 (qQ x6)),(3,bx 184 (qQ x22))]
def qKe (a1:Line) (a2:Int) (a3:List Int) (a4:List qB) (x5:Int) (x6:qB) (x22:qB):St:=
 (WU a1 a2 a3 a4 x5).up [] [(13,vp 3 0)] [] [(2,bx 184 (qQ x6)),(3,bx 184 (qQ x22))]
def qKw (a1:Line) (a2:Int) (a3:List Int) (a4:List qB) (x5:Int) (x6:qB) (x12:Bool):St:=
 (WU a1 a2 a3 a4 x5).up [] [(10,vi x5),(12,vi (w64 (a2+(a1.Sizes.getD x5.toNat dd)))),(42,vb x12)] [] [(2,bx 184 (qQ x6))]
def MA (a1:Line) (a2:Int) (a3:List Int) (a4:List qB) (x5:Int) (x6:qB):St:=
 (WU a1 a2 a3 a4 x5).up [] [] [] [(2,bx 184 (qQ x6))]
def qCV (x27:qB):St:=
 ⟨[(8,vp 1 0),(9,vp 2 0)],[(1,bx 184 [ci 0,ci 0,ci 0]),(2,bx 184 (qQ x27))]⟩
theorem qJM (E:Env 0) (a1:Line) (a2:Int) (a3:List Int) (a4:List qB):∀(n:Nat) (x5:Int) (x6:qB) (res:qB),wV a1 a2 a3 a4 n x5 x6=some res->HL (kx E 93 0) (nd f182 116) (zL 0 qCV res) n (MA a1 a2 a3 a4 x5 x6):=by
 intro n
 induction n with
 |zero=>
  intro x5 x6 res hm;cases hm
 |succ n ih=>
  intro x5 x6 res hm;refine qS (s_va 3 [(21,vb (decide (x5<(a1.Sizes.length:Int))))] ?_);refine q_sq (q_cq hm (λhm=>?_) (λhm=>?_))
  ·refine q_sk (q_jn (qLa a1 a2 a3 a4 x5) (λp=>BC x5 (wV a1 a2 a3 a4 n) p=some res) ?_ ?_)
   ·rintro x26 hm;exact q_vv [] 4 [20] [(20,vi (w64 (x5+1)))] (q_hl (MA a1 a2 a3 a4 (w64 (x5+1)) x26) (ih (w64 (x5+1)) x26 _ hm))
   ·refine q_bk 1 ?_;obtain⟨g8,hm⟩:=qJ hm;refine s_vv [qi 1 g8] 3 [21] [(10,vi x5),(11,vi (a1.Sizes.getD x5.toNat dd))] (s_vv [] 3 [11] [(12,vi (w64 (a2+(a1.Sizes.getD x5.toNat dd))))] ?_);refine q_sq (q_jn (qKw a1 a2 a3 a4 x5 x6) (λp=>BG a1 a2 a3 a4 x5 x6 (wV a1 a2 a3 a4 n) p=some res) ?_ ?_)
    ·rintro x12 hm;refine q_cq hm (λhm=>?_) (λhm=>?_)
     ·exact q_ex 1 (q_J (x6) hm)
     ·refine q_sk ?_;obtain⟨g14,hm⟩:=qJ hm;obtain⟨g15,hm⟩:=qJ hm;refine s_vu [qi 6 g14,qi 9 g15] 3 [10,42] [(13,vp 3 0)] [] [(3,bx 184 [ci x5,ci a2,ci ((a1.Gain.getD x5.toNat dd).getD a2.toNat dd)])] (q_jn (qKe a1 a2 a3 a4 x5 x6) (λp=>RD x5 x6 (wV a1 a2 a3 a4 n) p=some res) ?_ ?_)
      ·rintro x22 hm;refine q_jn (qKI a1 a2 a3 a4 x5 x6 x22) (λp=>BE x5 x6 (wV a1 a2 a3 a4 n) x22 p=some res) ?_ ?_
       ·rintro x24 hm;refine q_cq hm (λhm=>?_) (λhm=>?_)
        ·exact q_vu [] 4 [13,89] [] [2,3] [(2,bx 184 (qQ x22))] (q_J (x22) hm)
        ·exact q_sk (q_J (x6) hm)
       ·rcases bif_c hm with⟨b23,hm⟩|⟨b23,hm⟩
        ·exact q_vv [qf 4 b23] 4 [] [(89,vb true)] (q_J (true) hm)
        ·exact q_vv [qf 4 b23] 4 [] [(89,vb (decide (x22.value>x6.value)))] (q_J (decide (x22.value>x6.value)) hm)
      ·obtain⟨v16,h17,hm⟩:=qC hm;refine s_vv [qc 2 [55,56] 4 (qDQ a1 (w64 (a2+(a1.Sizes.getD x5.toNat dd))) v16 h17)] 4 [] [(14,vi v16)] (s_va 4 [(59,vb (decide (v16≥0)))] ?_);refine q_cq hm (λhm=>?_) (λhm=>?_)
       ·obtain⟨g19,hm⟩:=qJ hm;obtain⟨g20,hm⟩:=qJ hm;obtain⟨g21,hm⟩:=qJ hm
        exact q_du [qi 4 g19,qi 8 g20,qi 13 g21] [0,1,0,0,12,28,0,0,192,448,1020,0,0,6144,14336,30720,65532,131071,262143,524287] 4 [12,14,59] [] [3] [(3,bx 184 [ci x5,ci a2,ci (w64 (((a1.Gain.getD x5.toNat dd).getD a2.toNat dd)+(w64 ((w64 ((a3.getD v16.toNat dd)-(a3.getD (w64 (a2+(a1.Sizes.getD x5.toNat dd))).toNat dd)))+((a4.getD v16.toNat dd).value)))))])] (q_J ((qB.mk (zR.mk x5 a2) (w64 (((a1.Gain.getD x5.toNat dd).getD a2.toNat dd)+(w64 ((w64 ((a3.getD v16.toNat dd)-(a3.getD (w64 (a2+(a1.Sizes.getD x5.toNat dd))).toNat dd)))+((a4.getD v16.toNat dd).value))))))) hm)
       ·exact q_sk (q_J ((qB.mk (zR.mk x5 a2) ((a1.Gain.getD x5.toNat dd).getD a2.toNat dd))) hm)
    ·rcases bif_c hm with⟨b9,hm⟩|⟨b9,hm⟩
     ·exact q_vv [qf 4 b9] 3 [] [(42,vb true)] (q_J (true) hm)
     ·obtain⟨g10,hm⟩:=qJ hm;obtain⟨g11,hm⟩:=qJ hm;exact q_vv [qf 4 b9,qi 8 g10,qi 11 g11] 3 [] [(42,vb (decide (((a1.Gain.getD x5.toNat dd).getD a2.toNat dd)<0)))] (q_J (decide (((a1.Gain.getD x5.toNat dd).getD a2.toNat dd)<0)) hm)
  ·refine q_ex 0 ?_;obtain rfl:=oi hm;exact q_l0
theorem qMX (a1:Line) (a2:Int) (a3:List Int) (a4:List qB) (r:qB) (hm:BU a1 a2 a3 a4=some r):CtX Tryz.prog globs 182 0 0 [.agg (QK a1),.one (ci a2),.one (tl qD dd a3),.one (tl qQ dd a4)] [] (qF5 r) (FV r):=by
 unfold BU at hm;refine q_E f182 93 λE=>?_;refine s_vn [] 0 ⟨[(1,vi a2),(2,vc (tl qD dd a3)),(3,vc (tl qQ dd a4)),(4,vp 0 0),(8,vp 1 0)],[(0,bx 123 (QK a1)),(1,bx 184 [ci 0,ci 0,ci 0])]⟩ (s_vu [] 2 [] [(9,vp 2 0)] [] [(2,bx 184 [ci (-1),ci (-1),ci 0])] ?_);refine q_sq (s_va 3 [(18,vc (tl qD dd a1.Sizes)),(19,vi (a1.Sizes.length:Int)),(20,vi 0)] ?_);obtain⟨o28,h29,hm⟩:=qC hm
 refine zG (nd f182 116) 0 (by kernel_rfl) FUEL qCV o28 (q_hl (MA a1 a2 a3 a4 0 (qB.mk (zR.mk (-1) (-1)) 0)) (qJM E a1 a2 a3 a4 FUEL 0 (qB.mk (zR.mk (-1) (-1)) 0) o28 h29)) (s_vu [] 3 [9] [] [1,2] [(1,bx 184 (qQ o28))] ?_);obtain rfl:=oi hm;exact q_rt q_rm
def qQU (r:(List Int)):V:=vo 0 0 1 r.length
def qQK (r:(List Int)):List (Nat×(Nat×O)):=[(0,ro 0 3 1 r.length (rf qD r))]
def EU (a1:List Int) (l3:List Int) (l3n:Nat) (x4:Int):St:=
 ⟨[(3,vo 0 0 1 l3n),(10,vc (tl qD dd a1)),(11,vi (a1.length:Int)),(12,vi x4)],[(0,ro 0 3 1 l3n (rf qD l3))]⟩
def qEa (l9:List Int):St:=
 ⟨[(3,vo 0 0 1 l9.length)],[(0,ro 0 3 1 l9.length (rf qD l9))]⟩
theorem qKW (E:Env 0) (a1:List Int):∀(n:Nat) (l3:List Int) (l3n:Nat) (x4:Int) (res:(List Int)),l3.length=l3n->XV a1 n l3 x4=some res->HL (kx E 29 0) (nd f181 116) (zL 0 qEa res) n (EU a1 l3 l3n x4):=by
 intro n
 induction n with
 |zero=>
  intro l3 l3n x4 res hl0 hm;cases hm
 |succ n ih=>
  intro l3 l3n x4 res hl0 hm;subst hl0;refine qS (s_va 1 [(13,vb (decide (x4<(a1.length:Int))))] ?_);refine q_sq (q_cq hm (λhm=>?_) (λhm=>?_))
  ·refine q_sk (q_sq ?_);refine q_bk 1 ?_;obtain⟨g6,hm⟩:=qJ hm;refine s_vv [qi 1 g6] 1 [13] [(4,vi x4),(5,vi (a1.getD x4.toNat dd))] ?_;obtain⟨g7,hm⟩:=qJ hm;obtain⟨g8,hm⟩:=qJ hm
   refine q_vu [qi 5 g7,qd 6 dN (qW (zC g7)),qi 9 g8,qd 10 (drw 0 0 (rf qD (l3.set ((w64 (x4+1)).toNat) (w64 ((l3.getD x4.toNat dd)+(a1.getD x4.toNat dd)))))) (stP qD dd (w64 ((l3.getD x4.toNat dd)+(a1.getD x4.toNat dd))) l3 l3.length ((w64 (x4+1)).toNat) 0 [ci (w64 ((l3.getD x4.toNat dd)+(a1.getD x4.toNat dd)))] rfl (qW (zC g8)) rfl)] 1 [4,5] [] [0] [(0,ro 0 3 1 l3.length (rf qD (l3.set ((w64 (x4+1)).toNat) (w64 ((l3.getD x4.toNat dd)+(a1.getD x4.toNat dd))))))] (q_vv [] 1 [12] [(12,vi (w64 (x4+1)))] ?_)
   exact q_hl (EU a1 (l3.set ((w64 (x4+1)).toNat) (w64 ((l3.getD x4.toNat dd)+(a1.getD x4.toNat dd)))) l3.length (w64 (x4+1))) (ih (l3.set ((w64 (x4+1)).toNat) (w64 ((l3.getD x4.toNat dd)+(a1.getD x4.toNat dd)))) l3.length (w64 (x4+1)) _ (QC rfl) hm)
  ·refine q_ex 0 ?_;obtain rfl:=oi hm;exact q_l0
theorem qGi (a1:List Int) (r:(List Int)) (hm:GF a1=some r):CtX Tryz.prog globs 181 0 0 [.one (tl qD dd a1)] [] (qQU r) (qQK r):=by
 unfold GF at hm;refine q_E f181 29 λE=>?_;refine s_vn [] 0 ⟨[(0,vc (tl qD dd a1))],[]⟩ ?_;obtain⟨g2,hm⟩:=qJ hm;refine s_vu [qd 3 (drw 0 0 (rf qD (List.replicate ((w64 ((a1.length:Int)+1)).toNat) 0))) (mkP qD dd 0 (w64 ((a1.length:Int)+1)) 8 [ci 0] (VQ g2) rfl)] 0 [] [(3,vo 0 0 1 ((w64 ((a1.length:Int)+1)).toNat))] [] [(0,ro 0 3 1 ((w64 ((a1.length:Int)+1)).toNat) (rf qD (List.replicate ((w64 ((a1.length:Int)+1)).toNat) 0)))] (q_sq ?_);refine s_vv [] 1 [0] [(10,vc (tl qD dd a1)),(11,vi (a1.length:Int)),(12,vi 0)] ?_;obtain⟨o10,h11,hm⟩:=qC hm
 refine zG (nd f181 116) 0 (by kernel_rfl) FUEL qEa o10 (q_hl (EU a1 (List.replicate ((w64 ((a1.length:Int)+1)).toNat) 0) ((w64 ((a1.length:Int)+1)).toNat) 0) (qKW E a1 FUEL (List.replicate ((w64 ((a1.length:Int)+1)).toNat) 0) ((w64 ((a1.length:Int)+1)).toNat) 0 o10 GU h11)) (s_vv [] 1 [3] [(2,vo 0 0 1 o10.length)] ?_);obtain rfl:=oi hm;exact q_rt q_rm
def qMj (r:(List qB)):V:=vo 0 0 3 r.length
def qLT (r:(List qB)):List (Nat×(Nat×O)):=[(0,ro 0 184 3 r.length (rf qQ r))]
def yT (a1:Line) (v2:(List Int)) (v4:(List Int)) (l7:List qB) (l8:List qB) (x9:Int) (v11:qB):St:=
 ⟨[(1,vp 0 0),(3,vo 1 0 1 v2.length),(4,vo 2 0 1 v4.length),(5,vo 3 0 3 l7.length),(6,vo 4 0 3 l8.length),(7,vi x9),(8,vp 5 0)],[(0,bx 123 (QK a1)),(1,ro 0 3 1 v2.length (rf qD v2)),(2,ro 0 3 1 v4.length (rf qD v4)),(3,ro 0 184 3 l7.length (rf qQ l7)),(4,ro 0 184 3 l8.length (rf qQ (l8.set x9.toNat v11)))]⟩
def qIB (a1:Line) (v2:(List Int)) (v4:(List Int)) (l7:List qB) (l8:List qB) (x9:Int) (v11:qB) (x20:Int) (x31:qB):St:=
 (yT a1 v2 v4 l7 l8 x9 v11).up [] [(10,vi x20)] [] [(5,bx 184 (qQ x31))]
def qIy (a1:Line) (v2:(List Int)) (v4:(List Int)) (l7:List qB) (l8:List qB) (x9:Int) (v11:qB) (x20:Int) (x21:qB) (x29:Bool):St:=
 (yT a1 v2 v4 l7 l8 x9 v11).up [] [(10,vi x20),(11,vp 7 0),(125,vb x29)] [] [(5,bx 184 (qQ x21)),(7,bx 184 [ci ((((l8.set x9.toNat v11).getD x20.toNat dd).piece).Size),ci ((((l8.set x9.toNat v11).getD x20.toNat dd).piece).At),ci (w64 ((((l8.set x9.toNat v11).getD x20.toNat dd).value)+(w64 ((w64 ((w64 ((v2.getD ((w64 (x20-a1.Kerf)).toNat) dd)-(v2.getD x9.toNat dd)))+(v4.getD x20.toNat dd)))-(v4.getD ((w64 (x20-a1.Kerf)).toNat) dd)))))])]
def BJ (a1:Line) (v2:(List Int)) (v4:(List Int)) (l7:List qB) (l8:List qB) (x9:Int) (v11:qB) (x20:Int) (x21:qB):St:=
 (yT a1 v2 v4 l7 l8 x9 v11).up [] [(10,vi x20)] [] [(5,bx 184 (qQ x21))]
def qAo (a1:Line) (v2:(List Int)) (v4:(List Int)) (l7:List qB) (l8:List qB) (x9:Int) (v11:qB) (x32:qB):St:=
 (yT a1 v2 v4 l7 l8 x9 v11).up [] [] [] [(5,bx 184 (qQ x32))]
def qIC (a1:Line) (v2:(List Int)) (v4:(List Int)) (l7:List qB) (l8:List qB) (x9:Int) (v11:qB) (x19:qB):St:=
 (yT a1 v2 v4 l7 l8 x9 v11).up [] [] [] [(5,bx 184 (qQ x19))]
def qIg (a1:Line) (v2:(List Int)) (v4:(List Int)) (l7:List qB) (l8:List qB) (x9:Int) (v11:qB) (x17:Bool):St:=
 (yT a1 v2 v4 l7 l8 x9 v11).up [] [(9,vp 6 0),(67,vb x17)] [] [(5,bx 184 [ci (-1),ci (-1),ci (w64 ((v2.getD a1.Len.toNat dd)-(v2.getD x9.toNat dd)))]),(6,bx 184 (qQ ((l8.set x9.toNat v11).getD x9.toNat dd)))]
def BA (a1:Line) (v2:(List Int)) (v4:(List Int)) (l7:List qB) (l7n:Nat) (l8:List qB) (l8n:Nat) (x9:Int):St:=
 ⟨[(1,vp 0 0),(3,vo 1 0 1 v2.length),(4,vo 2 0 1 v4.length),(5,vo 3 0 3 l7n),(6,vo 4 0 3 l8n),(7,vi x9)],[(0,bx 123 (QK a1)),(1,ro 0 3 1 v2.length (rf qD v2)),(2,ro 0 3 1 v4.length (rf qD v4)),(3,ro 0 184 3 l7n (rf qQ l7)),(4,ro 0 184 3 l8n (rf qQ l8))]⟩
def CX (l36:List qB):St:=
 ⟨[(5,vo 3 0 3 l36.length)],[(3,ro 0 184 3 l36.length (rf qQ l36))]⟩
theorem qHz (E:Env 0) (a1:Line) (v2:(List Int)) (v4:(List Int)) (l7:List qB) (l8:List qB) (x9:Int) (v11:qB):∀(n:Nat) (x20:Int) (x21:qB) (res:qB),wR a1 v2 v4 l8 x9 v11 n x20 x21=some res->HL (kx E 132 0) (nd f114 512628) (zL 2 (λo=>qAo a1 v2 v4 l7 l8 x9 v11 o) res) n (BJ a1 v2 v4 l7 l8 x9 v11 x20 x21):=by
 intro n
 induction n with
 |zero=>
  intro x20 x21 res hm;cases hm
 |succ n ih=>
  intro x20 x21 res hm;refine qS (q_sq ?_);refine s_va 7 [(79,vb (decide (x20<=a1.Len)))] (q_cq hm (λhm=>?_) (λhm=>?_))
  ·refine q_sk (q_jn (qIB a1 v2 v4 l7 l8 x9 v11 x20) (λp=>YY a1 x20 (wR a1 v2 v4 l8 x9 v11 n) p=some res) ?_ ?_)
   ·rintro x31 hm;exact q_vv [] 8 [10] [(10,vi (w64 (x20+a1.Pitch)))] (q_hl (BJ a1 v2 v4 l7 l8 x9 v11 (w64 (x20+a1.Pitch)) x31) (ih (w64 (x20+a1.Pitch)) x31 _ hm))
   ·refine q_bk 3 ?_;obtain⟨g23,hm⟩:=qJ hm;refine s_vu [qi 2 g23,qd 3 dN (qW (zC g23))] 7 [79] [(11,vp 7 0)] [] [(7,bx 184 (qQ ((l8.set x9.toNat v11).getD x20.toNat dd)))] (s_va 8 [(12,vi (w64 (x20-a1.Kerf)))] ?_);obtain⟨g24,hm⟩:=qJ hm;obtain⟨g25,hm⟩:=qJ hm;obtain⟨g26,hm⟩:=qJ hm;obtain⟨g27,hm⟩:=qJ hm
    refine s_du [qi 4 g24,qd 5 dN (qW (zC g24)),qi 8 g25,qd 9 dN (qW (zC g25)),qi 13 g26,qd 14 dN (qW (zC g26)),qi 18 g27,qd 19 dN (qW (zC g27))] [0,1,0,0,12,28,0,0,192,448,1020,0,0,6144,14336,32764,0,0,196608,458752,1048572,2097151,4194303,8388607] 8 [12] [] [7] [(7,bx 184 [ci ((((l8.set x9.toNat v11).getD x20.toNat dd).piece).Size),ci ((((l8.set x9.toNat v11).getD x20.toNat dd).piece).At),ci (w64 ((((l8.set x9.toNat v11).getD x20.toNat dd).value)+(w64 ((w64 ((w64 ((v2.getD ((w64 (x20-a1.Kerf)).toNat) dd)-(v2.getD x9.toNat dd)))+(v4.getD x20.toNat dd)))-(v4.getD ((w64 (x20-a1.Kerf)).toNat) dd)))))])] ?_
    refine q_jn (qIy a1 v2 v4 l7 l8 x9 v11 x20 x21) (λp=>UC a1 v2 v4 l8 x9 v11 x20 x21 (wR a1 v2 v4 l8 x9 v11 n) p=some res) ?_ ?_
    ·rintro x29 hm;refine q_cq hm (λhm=>?_) (λhm=>?_)
     ·exact q_vu [] 8 [11,125] [] [5,7] [(5,bx 184 [ci ((((l8.set x9.toNat v11).getD x20.toNat dd).piece).Size),ci ((((l8.set x9.toNat v11).getD x20.toNat dd).piece).At),ci (w64 ((((l8.set x9.toNat v11).getD x20.toNat dd).value)+(w64 ((w64 ((w64 ((v2.getD ((w64 (x20-a1.Kerf)).toNat) dd)-(v2.getD x9.toNat dd)))+(v4.getD x20.toNat dd)))-(v4.getD ((w64 (x20-a1.Kerf)).toNat) dd)))))])] (q_J ((qB.mk (((l8.set x9.toNat v11).getD x20.toNat dd).piece) (w64 ((((l8.set x9.toNat v11).getD x20.toNat dd).value)+(w64 ((w64 ((w64 ((v2.getD ((w64 (x20-a1.Kerf)).toNat) dd)-(v2.getD x9.toNat dd)))+(v4.getD x20.toNat dd)))-(v4.getD ((w64 (x20-a1.Kerf)).toNat) dd))))))) hm)
     ·exact q_sk (q_J (x21) hm)
    ·rcases bif_c hm with⟨b28,hm⟩|⟨b28,hm⟩
     ·exact q_vv [qf 4 b28] 8 [] [(125,vb (decide ((w64 ((((l8.set x9.toNat v11).getD x20.toNat dd).value)+(w64 ((w64 ((w64 ((v2.getD ((w64 (x20-a1.Kerf)).toNat) dd)-(v2.getD x9.toNat dd)))+(v4.getD x20.toNat dd)))-(v4.getD ((w64 (x20-a1.Kerf)).toNat) dd)))))>x21.value)))] (q_J (decide ((w64 ((((l8.set x9.toNat v11).getD x20.toNat dd).value)+(w64 ((w64 ((w64 ((v2.getD ((w64 (x20-a1.Kerf)).toNat) dd)-(v2.getD x9.toNat dd)))+(v4.getD x20.toNat dd)))-(v4.getD ((w64 (x20-a1.Kerf)).toNat) dd)))))>x21.value)) hm)
     ·exact q_vv [qf 4 b28] 8 [] [(125,vb false)] (q_J (false) hm)
  ·refine q_ex 2 ?_;obtain rfl:=oi hm;exact q_l0
theorem qHC (E:Env 0) (a1:Line) (v2:(List Int)) (v4:(List Int)):∀(n:Nat) (l7:List qB) (l7n:Nat) (l8:List qB) (l8n:Nat) (x9:Int) (res:(List qB)),l7.length=l7n->l8.length=l8n->jA a1 v2 v4 n l7 l8 x9=some res->HL (kx E 132 0) (nd f114 500) (zL 0 CX res) n (BA a1 v2 v4 l7 l7n l8 l8n x9):=by
 intro n
 induction n with
 |zero=>
  intro l7 l7n l8 l8n x9 res hl0 hl1 hm;cases hm
 |succ n ih=>
  intro l7 l7n l8 l8n x9 res hl0 hl1 hm;subst hl0;subst hl1;refine qS (q_sq ?_);refine s_va 5 [(30,vb (decide (x9≥0)))] (q_cq hm (λhm=>?_) (λhm=>?_))
  ·refine q_sk (q_sq ?_);refine q_bk 1 ?_;obtain⟨v11,h12,hm⟩:=qC hm;obtain⟨g13,hm⟩:=qJ hm
   refine s_vu [qd 6 (dex (cen [] [] 5 0 (qF5 v11) (FV v11) [35,36,37,38] [2,3])) (wK (K:=(kx E 132 0)) (b:=false) ⟨[(35,va (QK a1)),(36,vi x9),(37,vo 2 0 1 v4.length),(38,vo 3 0 3 l7.length)],[(2,ro 0 3 1 v4.length (rf qD v4)),(3,ro 0 184 3 l7.length (rf qQ l7))]⟩ (opAt (rg f114 8008) 6) [] [] 5 (o1 (And.intro (ke v4.length) (ke l7.length))) rfl (qMX a1 x9 v4 l7 v11 h12) (.inr ⟨(by kernel_rfl),qOx v11⟩) (by kernel_rfl)),qi 7 g13,qd 8 (drw 0 0 (rf qQ (l8.set x9.toNat v11))) (stP qQ dd v11 l8 l8.length x9.toNat 0 (qQ v11) rfl (qW (zC g13)) rfl)] 5 [30] [] [4] [(4,ro 0 184 3 l8.length (rf qQ (l8.set x9.toNat v11)))] ?_
   obtain⟨g14,hm⟩:=qJ hm;obtain⟨g15,hm⟩:=qJ hm;refine s_du [qi 4 g14,qd 5 dN (qW (zC g14)),qi 8 g15,qd 9 dN (qW (zC g15))] [0,0,0,4,14,30,0,0,192,448,1022,2047,0,8191] 5 [] [(8,vp 5 0)] [] [(5,bx 184 [ci (-1),ci (-1),ci (w64 ((v2.getD a1.Len.toNat dd)-(v2.getD x9.toNat dd)))])] (q_jn (qIC a1 v2 v4 l7 l8 x9 v11) (λp=>XG a1 v2 v4 l7 l8 x9 (jA a1 v2 v4 n) v11 p=some res) ?_ ?_)
   ·rintro x19 hm;refine q_sq (s_va 7 [(10,vi (w64 ((w64 (x9+a1.Pitch))+a1.Kerf)))] ?_);obtain⟨o33,h34,hm⟩:=qC hm;refine zG (nd f114 512628) 2 (by kernel_rfl) FUEL (λo=>qAo a1 v2 v4 l7 l8 x9 v11 o) o33 (q_hl (BJ a1 v2 v4 l7 l8 x9 v11 (w64 ((w64 (x9+a1.Pitch))+a1.Kerf)) x19) (qHz E a1 v2 v4 l7 l8 x9 v11 FUEL (w64 ((w64 (x9+a1.Pitch))+a1.Kerf)) x19 o33 h34)) ?_;obtain⟨g35,hm⟩:=qJ hm
    refine q_vu [qi 3 g35,qd 4 (drw 0 0 (rf qQ (l7.set x9.toNat o33))) (stP qQ dd o33 l7 l7.length x9.toNat 0 (qQ o33) rfl (qW (zC g35)) rfl)] 7 [8] [] [3,5] [(3,ro 0 184 3 l7.length (rf qQ (l7.set x9.toNat o33)))] (q_vv [] 7 [7] [(7,vi (w64 (x9-1)))] ?_);exact q_hl (BA a1 v2 v4 (l7.set x9.toNat o33) l7.length (l8.set x9.toNat v11) l8.length (w64 (x9-1))) (ih (l7.set x9.toNat o33) l7.length (l8.set x9.toNat v11) l8.length (w64 (x9-1)) _ (QC rfl) (QC rfl) hm)
   ·refine s_vu [qi 2 g13,qd 3 dN (qW (zC g13))] 6 [] [(9,vp 6 0)] [] [(6,bx 184 (qQ ((l8.set x9.toNat v11).getD x9.toNat dd)))] (q_jn (qIg a1 v2 v4 l7 l8 x9 v11) (λp=>UQ a1 v2 v4 l7 l8 x9 (jA a1 v2 v4 n) v11 p=some res) ?_ ?_)
    ·rintro x17 hm;refine q_cq hm (λhm=>?_) (λhm=>?_)
     ·exact q_vu [] 7 [9,67] [] [5,6] [(5,bx 184 (qQ ((l8.set x9.toNat v11).getD x9.toNat dd)))] (q_J (((l8.set x9.toNat v11).getD x9.toNat dd)) hm)
     ·exact q_sk (q_J ((qB.mk (zR.mk (-1) (-1)) (w64 ((v2.getD a1.Len.toNat dd)-(v2.getD x9.toNat dd))))) hm)
    ·rcases bif_c hm with⟨b16,hm⟩|⟨b16,hm⟩
     ·exact q_vv [qf 4 b16] 7 [] [(67,vb (decide ((((l8.set x9.toNat v11).getD x9.toNat dd).value)>(w64 ((v2.getD a1.Len.toNat dd)-(v2.getD x9.toNat dd))))))] (q_J (decide ((((l8.set x9.toNat v11).getD x9.toNat dd).value)>(w64 ((v2.getD a1.Len.toNat dd)-(v2.getD x9.toNat dd))))) hm)
     ·exact q_vv [qf 4 b16] 7 [] [(67,vb false)] (q_J (false) hm)
  ·refine q_ex 0 ?_;obtain rfl:=oi hm;exact q_l0
theorem qJP (a1:Line) (r:(List qB)) (hm:UR a1=some r):CtX Tryz.prog globs 114 0 0 [.agg (QK a1)] [] (qMj r) (qLT r):=by
 unfold UR at hm;refine q_E f114 132 λE=>?_;refine s_vn [] 0 ⟨[(1,vp 0 0)],[(0,bx 123 (QK a1))]⟩ ?_;obtain⟨v2,h3,hm⟩:=qC hm;obtain⟨v4,h5,hm⟩:=qC hm;refine s_du [qc 2 [14] 1 (qGi a1.Chip v2 h3),qc 5 [17] 2 (qGi a1.Dust v4 h5)] [0,1,3,0,8,31,63,127] 1 [] [(3,vo 1 0 1 v2.length),(4,vo 2 0 1 v4.length)] [] [(1,ro 0 3 1 v2.length (rf qD v2)),(2,ro 0 3 1 v4.length (rf qD v4))] ?_;obtain⟨g6,hm⟩:=qJ hm
 refine s_vu [qd 3 (drw 3 0 (rf qQ (List.replicate ((w64 (a1.Len+1)).toNat) (qB.mk (zR.mk 0 0) 0)))) (mkP qQ dd (qB.mk (zR.mk 0 0) 0) (w64 (a1.Len+1)) 24 [ci 0,ci 0,ci 0] (VQ g6) rfl)] 3 [] [(5,vo 3 0 3 ((w64 (a1.Len+1)).toNat))] [] [(3,ro 0 184 3 ((w64 (a1.Len+1)).toNat) (rf qQ (List.replicate ((w64 (a1.Len+1)).toNat) (qB.mk (zR.mk 0 0) 0))))] ?_
 refine s_vu [qd 3 (drw 4 0 (rf qQ (List.replicate ((w64 (a1.Len+1)).toNat) (qB.mk (zR.mk 0 0) 0)))) (mkP qQ dd (qB.mk (zR.mk 0 0) 0) (w64 (a1.Len+1)) 24 [ci 0,ci 0,ci 0] (VQ g6) rfl)] 4 [] [(6,vo 4 0 3 ((w64 (a1.Len+1)).toNat))] [] [(4,ro 0 184 3 ((w64 (a1.Len+1)).toNat) (rf qQ (List.replicate ((w64 (a1.Len+1)).toNat) (qB.mk (zR.mk 0 0) 0))))] (q_sq ?_);refine s_va 5 [(7,vi a1.Len)] ?_;obtain⟨o37,h38,hm⟩:=qC hm
 refine zG (nd f114 500) 0 (by kernel_rfl) FUEL CX o37 (q_hl (BA a1 v2 v4 (List.replicate ((w64 (a1.Len+1)).toNat) (qB.mk (zR.mk 0 0) 0)) ((w64 (a1.Len+1)).toNat) (List.replicate ((w64 (a1.Len+1)).toNat) (qB.mk (zR.mk 0 0) 0)) ((w64 (a1.Len+1)).toNat) a1.Len) (qHC E a1 v2 v4 FUEL (List.replicate ((w64 (a1.Len+1)).toNat) (qB.mk (zR.mk 0 0) 0)) ((w64 (a1.Len+1)).toNat) (List.replicate ((w64 (a1.Len+1)).toNat) (qB.mk (zR.mk 0 0) 0)) ((w64 (a1.Len+1)).toNat) a1.Len o37 GU GU h38)) (s_vv [] 5 [5] [(2,vo 3 0 3 o37.length)] ?_);obtain rfl:=oi hm;exact q_sw 3 0 (q_rt q_rm)
open Go.Proofs Go.Proofs.Tryz
def qB2 (r:(List zR)×Int×Int):V:= .tup [.one (.own 0 0 2 r.1.length),.one (ci r.2.1),.one (ci r.2.2)]
def DJ (r:(List zR)×Int×Int):List (Nat×(Nat×O)):=[(0,ro 0 132 2 r.1.length (rf QB r.1))]
theorem qHx (r:(List zR)×Int×Int):ZE (DJ r):=by
 intro i k o h;unfold DJ at h;rw[look_cons] at h;split at h
 ·cases h;exact λ_ _=>rfl
 ·cases h
def ET (a1:Line) (v5:(List qB)) (l7:List zR) (l7n:Nat) (x8:Int):St:=
 ⟨[(1,vp 0 0),(6,vo 1 0 3 v5.length),(7,vo 2 0 2 l7n),(8,vi x8)],[(0,bx 123 (QK a1)),(1,ro 0 184 3 v5.length (rf qQ v5)),(2,ro 0 132 2 l7n (rf QB l7))]⟩
def qDP (v5:(List qB)) (l16:List zR):St:=
 ⟨[(6,vo 1 0 3 v5.length),(7,vo 2 0 2 l16.length)],[(1,ro 0 184 3 v5.length (rf qQ v5)),(2,ro 0 132 2 l16.length (rf QB l16))]⟩
theorem qKZ (E:Env 0) (a1:Line) (v5:(List qB)):∀(n:Nat) (l7:List zR) (l7n:Nat) (x8:Int) (res:(List zR)),l7.length=l7n->XW a1 v5 n l7 x8=some res->HL (kx E 47 0) (nd f55 500) (zL 0 (λo=>qDP v5 o) res) n (ET a1 v5 l7 l7n x8):=by
 intro n
 induction n with
 |zero=>
  intro l7 l7n x8 res hl0 hm;cases hm
 |succ n ih=>
  intro l7 l7n x8 res hl0 hm;subst hl0;refine qS (q_sq ?_);refine s_va 3 [(18,vb (decide (x8≥0)))] (q_cq hm (λhm=>?_) (λhm=>?_))
  ·refine q_sk (q_bk 1 ?_);obtain⟨g10,hm⟩:=qJ hm;refine s_vu [qi 2 g10,qd 4 dN (qW (zC g10))] 3 [8,18] [(9,vp 3 0)] [] [(3,bx 132 (QB ((v5.getD x8.toNat dd).piece)))] (q_sq ?_);refine s_va 4 [(26,vb (((((v5.getD x8.toNat dd).piece).Size)==(-1))&&(((((v5.getD x8.toNat dd).piece).At)==(-1))&&true)))] (q_cq hm (λhm=>?_) (λhm=>?_))
   ·refine q_ex 0 ?_;obtain rfl:=oi hm;exact q_l0
   ·refine q_sk ?_;obtain⟨g12,hm⟩:=qJ hm;refine s_vu [qd 2 (drw 4 0 (rf QB [(v5.getD x8.toNat dd).piece])) (litP QB dd 2 (λ_=>rfl) ([(v5.getD x8.toNat dd).piece]:List zR) 1 rfl),qd 3 (drw 2 1 (rf QB (l7++[(v5.getD x8.toNat dd).piece]))) (apP QB dd l7 ([(v5.getD x8.toNat dd).piece]:List zR) l7.length 1 2 16 (1<=1) (ke _) rfl rfl (λ_=>rfl) (wA g12))] 4 [7,26] [(7,vo 2 1 2 (l7.length+1))] [2] [(2,ro 1 132 2 (l7.length+1) (rf QB (l7++[(v5.getD x8.toNat dd).piece])))] ?_;obtain⟨g13,hm⟩:=qJ hm;obtain⟨v14,h15,hm⟩:=qC hm
    exact q_du [qi 7 g13,qc 10 [31,40] 5 (qDQ a1 (w64 ((((v5.getD x8.toNat dd).piece).At)+(a1.Sizes.getD (((v5.getD x8.toNat dd).piece).Size).toNat dd))) v14 h15)] [0,0,2,0,8,0,32,120,248,510,1023,2047] 5 [9] [(8,vi v14)] [3] [] (q_hl (ET a1 v5 (l7++[(v5.getD x8.toNat dd).piece]) (l7.length+1) v14) (ih (l7++[(v5.getD x8.toNat dd).piece]) (l7.length+1) v14 _ (wB rfl rfl) hm))
  ·refine q_ex 0 ?_;obtain rfl:=oi hm;exact q_l0
theorem qGy (a1:Line) (r:(List zR)×Int×Int) (hm:jV a1=some r):CtX Tryz.prog globs 55 0 0 [.agg (QK a1)] [] (qB2 r) (DJ r):=by
 unfold jV at hm;refine q_E f55 47 λE=>?_;refine s_vn [] 0 ⟨[(1,vp 0 0)],[(0,bx 123 (QK a1))]⟩ (q_sq ?_);obtain⟨v2,h3,hm⟩:=qC hm;refine s_vv [qc 1 [10] 1 (qOd a1 v2 h3)] 1 [] [(5,vi v2)] (s_va 1 [(13,vb (v2 !=0))] ?_);refine q_cq hm (λhm=>?_) (λhm=>?_)
 ·refine s_vn [] 1 ⟨[(2,vc (.emp)),(3,vi 0),(4,vi v2)],[]⟩ (q_fo 2 1 132 2 QB ?_);refine q_fl 2 1 132 2 QB ?_;obtain rfl:=oi hm;exact q_sw 1 0 (q_rt q_rm)
 ·refine q_sk ?_;obtain⟨v5,h6,hm⟩:=qC hm;refine s_vu [qc 1 [15] 1 (qJP a1 v5 h6)] 1 [5,13] [(6,vo 1 0 3 v5.length)] [] [(1,ro 0 184 3 v5.length (rf qQ v5))] (s_va 2 [(7,vc (.emp))] ?_);refine q_sq (s_va 2 [(8,vi 0)] ?_);refine q_fo 7 2 132 2 QB ?_;obtain⟨o17,h18,hm⟩:=qC hm;refine zG (nd f55 500) 0 (by kernel_rfl) FUEL (λo=>qDP v5 o) o17 (q_hl (ET a1 v5 ([]:List zR) 0 0) (qKZ E a1 v5 FUEL ([]:List zR) 0 0 o17 rfl h18)) ?_;obtain⟨g19,hm⟩:=qJ hm
  refine s_du [qi 2 g19,qd 4 dN (qW (zC g19))] [0,0,2,6,14,1,63,127] 3 [6,7] [(2,vo 2 0 2 o17.length),(3,vi ((v5.getD ((0:Int).toNat) dd).value)),(4,vi 0)] [1] [] ?_;obtain rfl:=oi hm;exact q_sw 2 0 (q_rt q_rm)
def XD (a1:List Node) (a2:Int) (a3:List Node) (r:Int×(List Node)):V:= .undef
def QN (a1:List Node) (a2:Int) (a3:List Node) (r:Int×(List Node)):List (Nat×(Nat×O)):=[(0,bx 3 [ci r.1]),(1,bx 56 [.own 2 0 2 r.2.length]),(2,ro 0 156 2 r.2.length (rf qL r.2))]
theorem HM (a1:List Node) (a2:Int) (a3:List Node) (r:Int×(List Node)):ZE (QN a1 a2 a3 r):=by
 intro i k o h;unfold QN at h;rw[look_cons] at h;split at h
 ·cases h;rfl
 ·rw[look_cons] at h;split at h
  ·cases h;rfl
  ·rw[look_cons] at h;split at h
   ·cases h;exact λ_ _=>rfl
   ·cases h
theorem RY (a1:List Node) (a2:Int) (a3:List Node) (r:Int×(List Node)) (hm:QI a1 a2 a3=some r):CtX Tryz.prog globs 117 3 2 [.one (tl qL dd a1),.one (.bptr 0 0 0),.one (.bptr 1 0 0)] [(0,bx 3 [ci a2]),(1,bx 56 [.own 2 0 2 a3.length]),(2,ro 0 156 2 a3.length (rf qL a3))] (XD a1 a2 a3 r) (QN a1 a2 a3 r):=by
 unfold QI at hm;refine q_E f117 13 λE=>?_;refine s_vn [] 3 ⟨[(0,vc (tl qL dd a1)),(1,vp 0 0),(2,vp 1 0)],[(0,bx 3 [ci (w64 (a2+(a1.length:Int)))]),(1,bx 56 [.own 2 0 2 a3.length]),(2,ro 0 156 2 a3.length (rf qL a3))]⟩ (s_vv [] 3 [1] [(9,vb (decide ((w64 (a2+(a1.length:Int)))<=127)))] ?_);refine q_cq hm (λhm=>?_) (λhm=>?_)
 ·obtain⟨g5,hm⟩:=qJ hm;refine q_wu [qd 2 (drw 2 1 (rf qL (a3++a1))) (apP qL dd a3 a1 a3.length a1.length 2 16 (True) trivial rfl rfl (λ_=>rfl) (wA g5))] [.len 2 ((a3++a1).length)] (o1 (And.intro (Eq.symm (show(a3++a1).length=(a3.length+a1.length) from(wB rfl rfl))) (And.intro (Eq.symm (show(a3++a1).length=(a3.length+a1.length) from(wB rfl rfl))) (Eq.symm (show(a3++a1).length=(a3.length+a1.length) from(wB rfl rfl)))))) 3 [0,2,9] [] [1,2] [(1,bx 56 [.own 2 1 2 ((a3++a1).length)]),(2,ro 1 156 2 ((a3++a1).length) (rf qL (a3++a1)))] ?_;obtain rfl:=oi hm;exact q_rm
 ·refine q_sk ?_;obtain rfl:=oi hm;exact q_rm
def qPX (r:Bool):V:=vb r
def qPP (r:Bool):List (Nat×(Nat×O)):=[]
def qKt (x3:Bool):St:=
 ⟨[(2,vb x3)],[]⟩
theorem qNV (a1:Int) (r:Bool) (hm:KG a1=some r):CtX Tryz.prog globs 116 0 0 [.one (ci a1)] [] (qPX r) (qPP r):=by
 unfold KG at hm;refine q_E f116 9 λE=>?_;refine s_vn [] 0 ⟨[(0,vi a1)],[]⟩ (q_jn (qKt) (λp=>OO p=some r) ?_ ?_)
 ·rintro x3 hm;obtain rfl:=oi hm;exact q_rt q_rm
 ·rcases bif_c hm with⟨b2,hm⟩|⟨b2,hm⟩
  ·exact q_vn [qf 2 b2] 0 ⟨[(2,vb true)],[]⟩ (q_J (true) hm)
  ·exact q_vn [qf 2 b2] 0 ⟨[(2,vb (a1==3))],[]⟩ (q_J (a1==3) hm)
open Go.Proofs Go.Proofs.Tryz
def qP7 (r:Span):V:=va (qK r)
def qOm (r:Span):List (Nat×(Nat×O)):=[]
theorem qNO (a1:Rect) (a2:Int) (r:Span) (hm:KN a1 a2=some r):CtX Tryz.prog globs 118 0 0 [.agg (qT a1),.one (ci a2)] [] (qP7 r) (qOm r):=by
 unfold KN at hm;refine q_E f118 11 λE=>?_;refine s_vn [] 0 ⟨[(1,vi a2),(2,vp 0 0),(4,vp 1 0)],[(0,bx 55 (qT a1)),(1,bx 53 [ci 0,ci 0])]⟩ (q_sq ?_);refine s_vv [] 2 [1] [(6,vb (a2==2))] (q_cq hm (λhm=>?_) (λhm=>?_))
 ·refine s_vn [] 2 ⟨[(4,vp 1 0)],[(1,bx 53 (qK a1.X))]⟩ ?_;obtain rfl:=oi hm;exact q_rt q_rm
 ·refine q_sk (s_vn [] 2 ⟨[(4,vp 1 0)],[(1,bx 53 (qK a1.Y))]⟩ ?_);obtain rfl:=oi hm;exact q_rt q_rm
def EZ (r:Bool):V:=vb r
def EV (r:Bool):List (Nat×(Nat×O)):=[]
def qIr (a1:Rect) (x2:Int) (x7:Bool):St:=
 ⟨[(9,va (qT a1)),(10,vi x2),(27,vb x7)],[]⟩
def BB (a1:Rect) (x2:Int):St:=
 ⟨[(9,va (qT a1)),(10,vi x2)],[]⟩
def qAz :St:=
 ⟨[],[]⟩
theorem qH4 (E:Env 0) (a1:Rect):∀(n:Nat) (x2:Int) (res:Bool⊕Unit),zQ a1 n x2=some res->HL (kx E 29 0) (nd f81 52) (wL 0 (λo=>qAz) (λv st=>RetQ Tryz.prog f81 (EZ v) (EV v) .ret st) res) n (BB a1 x2):=by
 intro n
 induction n with
 |zero=>
  intro x2 res hm;cases hm
 |succ n ih=>
  intro x2 res hm;refine qS (s_va 1 [(11,vb (decide (x2<2)))] ?_);refine q_sq (q_cq hm (λhm=>?_) (λhm=>?_))
  ·refine q_sk (q_sq ?_);refine q_bk 1 ?_;obtain⟨g4,hm⟩:=qJ hm;refine s_vu [qi 0 g4] 1 [11] [(4,vp 1 0)] [] [(1,bx 53 [ci (([a1.X.A,a1.X.B,a1.Y.A,a1.Y.B]:List Int).getD (x2.toNat*2+0) 0),ci (([a1.X.A,a1.X.B,a1.Y.A,a1.Y.B]:List Int).getD (x2.toNat*2+1) 0)])] (q_jn (qIr a1 x2) (λp=>QO x2 (zQ a1 n) p=some res) ?_ ?_)
   ·rintro x7 hm;refine q_cq hm (λhm=>?_) (λhm=>?_)
    ·refine s_vn [] 2 ⟨[(2,vb false)],[]⟩ ?_;obtain rfl:=oi hm;refine q_rt (zJ false ?_);exact q_rm
    ·refine q_sk (q_vv [] 2 [10,27] [(10,vi (w64 (x2+1)))] ?_);exact q_hl (BB a1 (w64 (x2+1))) (ih (w64 (x2+1)) _ hm)
   ·rcases bif_c hm with⟨b5,hm⟩|⟨b5,hm⟩
    ·exact q_vu [qf 3 b5] 2 [4] [(27,vb true)] [1] [] (q_J (true) hm)
    ·rcases bif_c hm with⟨b6,hm⟩|⟨b6,hm⟩
     ·exact q_vu [qf 3 b5,qf 8 b6] 2 [4] [(27,vb true)] [1] [] (q_J (true) hm)
     ·exact q_vu [qf 3 b5,qf 8 b6] 2 [4] [(27,vb (decide ((([a1.X.A,a1.X.B,a1.Y.A,a1.Y.B]:List Int).getD (x2.toNat*2+0) 0)≥(([a1.X.A,a1.X.B,a1.Y.A,a1.Y.B]:List Int).getD (x2.toNat*2+1) 0))))] [1] [] (q_J (decide ((([a1.X.A,a1.X.B,a1.Y.A,a1.Y.B]:List Int).getD (x2.toNat*2+0) 0)≥(([a1.X.A,a1.X.B,a1.Y.A,a1.Y.B]:List Int).getD (x2.toNat*2+1) 0))) hm)
  ·refine q_ex 0 ?_;obtain rfl:=oi hm;exact q_l1 ()
theorem qCH (a1:Rect) (r:Bool) (hm:ZP a1=some r):CtX Tryz.prog globs 81 0 0 [.agg (qT a1)] [] (EZ r) (EV r):=by
 unfold ZP at hm;refine q_E f81 29 λE=>?_;refine s_vn [] 0 ⟨[(1,vp 0 0)],[(0,bx 55 (qT a1))]⟩ (q_sq ?_);refine s_vn [] 1 ⟨[(9,va (qT a1)),(10,vi 0)],[]⟩ ?_;obtain⟨u11,h10,hm⟩:=qC hm;refine zO (nd f81 52) 0 (by kernel_rfl) FUEL (λo=>qAz) (λv st=>RetQ Tryz.prog f81 (EZ v) (EV v) .ret st) u11 (q_hl (BB a1 0) (qH4 E a1 FUEL 0 u11 h10)) ?_ ?_
 ·rintro v12 rfl st hr;obtain rfl:=oi hm;exact hr
 ·rintro o9 rfl;replace hm:_=some r:=hm;refine s_vn [] 1 ⟨[(2,vb true)],[]⟩ ?_;obtain rfl:=oi hm;exact q_rt q_rm
end Saw
end Go.SL

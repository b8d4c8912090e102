import Derived.Test.YtigmogcdifllhaaGreatDoorEBase
import Derived.Test.YtigmogcdifllhaaGreatDoorEFa5
import Derived.Test.YtigmogcdifllhaaGreatDoorEFa1
import Derived.Test.YtigmogcdifllhaaGreatDoorEFa4
import Derived.Test.YtigmogcdifllhaaGreatDoorYa7
import Derived.Ground.NamesProg
set_option linter.unusedVariables false
set_option linter.unusedSimpArgs false
namespace Go.SL
namespace Saw
open Go.Proofs Go.Proofs.Tryz
set_option maxHeartbeats 4000000
set_option maxRecDepth 100000
def qFU (r:qB):V:=va (qQ r)
def LL (r:qB):List (Nat×(Nat×O)):=[]
theorem qQg (r:qB):QQ (LL r):=by
 intro i k o h;unfold LL at h;cases h
def WX (a1:Line) (a2:Int) (a3:List Int) (a4:List qB) (x5:Int):St:=
 ⟨[(1,vi a2),(2,vc (tl qE du a3)),(3,vc (tl qQ du a4)),(4,vp 0 0),(8,vp 1 0),(9,vp 2 0),(18,vc (tl qE du a1.Sizes)),(19,vi (a1.Sizes.length:Int)),(20,vi x5)],[(0,bx 123 (QJ a1)),(1,bx 184 [ci 0,ci 0,ci 0])]⟩
def qKB (a1:Line) (a2:Int) (a3:List Int) (a4:List qB) (x5:Int) (x26:qB):St:=
 (WX a1 a2 a3 a4 x5).up [] [] [] [(2,bx 184 (qQ x26))]
def qKf (a1:Line) (a2:Int) (a3:List Int) (a4:List qB) (x5:Int) (x6:qB) (x22:qB) (x24:Bool):St:=
 (WX a1 a2 a3 a4 x5).up [] [(13,vp 3 0),(89,vb x24)] [] [(2,bx 184 (qQ x6)),(3,bx 184 (qQ x22))]
def qKX (a1:Line) (a2:Int) (a3:List Int) (a4:List qB) (x5:Int) (x6:qB) (x22:qB):St:=
 (WX a1 a2 a3 a4 x5).up [] [(13,vp 3 0)] [] [(2,bx 184 (qQ x6)),(3,bx 184 (qQ x22))]
def qKM (a1:Line) (a2:Int) (a3:List Int) (a4:List qB) (x5:Int) (x6:qB) (x12:Bool):St:=
 (WX a1 a2 a3 a4 x5).up [] [(10,vi x5),(12,vi (w64 (a2+(a1.Sizes.getD x5.toNat du)))),(42,vb x12)] [] [(2,bx 184 (qQ x6))]
def HT (a1:Line) (a2:Int) (a3:List Int) (a4:List qB) (x5:Int) (x6:qB):St:=
 (WX a1 a2 a3 a4 x5).up [] [] [] [(2,bx 184 (qQ x6))]
def qDs (x27:qB):St:=
 ⟨[(8,vp 1 0),(9,vp 2 0)],[(1,bx 184 [ci 0,ci 0,ci 0]),(2,bx 184 (qQ x27))]⟩
theorem qJU (E:Env 0) (a1:Line) (a2:Int) (a3:List Int) (a4:List qB):∀(n:Nat) (x5:Int) (x6:qB) (res:qB),wW a1 a2 a3 a4 n x5 x6=some res->HL (kx E 93 0) (nd f182 116) (zN 0 qDs res) n (HT a1 a2 a3 a4 x5 x6):=by
 intro n
 induction n with
 |zero=>
  intro x5 x6 res hm;cases hm
 |succ n ih=>
  intro x5 x6 res hm;refine qU (s_va 3 [(21,vb (decide (x5<(a1.Sizes.length:Int))))] ?_);refine q_sq (q_cq hm (λhm=>?_) (λhm=>?_))
  ·refine q_sk (q_jn (qKB a1 a2 a3 a4 x5) (λp=>NK x5 (wW a1 a2 a3 a4 n) p=some res) ?_ ?_)
   ·rintro x26 hm;exact q_vv [] 4 [20] [(20,vi (w64 (x5+1)))] (q_hl (HT a1 a2 a3 a4 (w64 (x5+1)) x26) (ih (w64 (x5+1)) x26 _ hm))
   ·refine q_bk 1 ?_;obtain⟨g8,hm⟩:=qJ hm;refine s_vv [qi 1 g8] 3 [21] [(10,vi x5),(11,vi (a1.Sizes.getD x5.toNat du))] (s_vv [] 3 [11] [(12,vi (w64 (a2+(a1.Sizes.getD x5.toNat du))))] ?_);refine q_sq (q_jn (qKM a1 a2 a3 a4 x5 x6) (λp=>BN a1 a2 a3 a4 x5 x6 (wW a1 a2 a3 a4 n) p=some res) ?_ ?_)
    ·rintro x12 hm;refine q_cq hm (λhm=>?_) (λhm=>?_)
     ·exact q_ex 1 (q_J (x6) hm)
     ·refine q_sk ?_;obtain⟨g14,hm⟩:=qJ hm;obtain⟨g15,hm⟩:=qJ hm;refine s_vu [qi 6 g14,qi 9 g15] 3 [10,42] [(13,vp 3 0)] [] [(3,bx 184 [ci x5,ci a2,ci ((a1.Gain.getD x5.toNat du).getD a2.toNat du)])] (q_jn (qKX a1 a2 a3 a4 x5 x6) (λp=>RR x5 x6 (wW a1 a2 a3 a4 n) p=some res) ?_ ?_)
      ·rintro x22 hm;refine q_jn (qKf a1 a2 a3 a4 x5 x6 x22) (λp=>BH x5 x6 (wW a1 a2 a3 a4 n) x22 p=some res) ?_ ?_
       ·rintro x24 hm;refine q_cq hm (λhm=>?_) (λhm=>?_)
        ·exact q_vu [] 4 [13,89] [] [2,3] [(2,bx 184 (qQ x22))] (q_J (x22) hm)
        ·exact q_sk (q_J (x6) hm)
       ·rcases bif_c hm with⟨b23,hm⟩|⟨b23,hm⟩
        ·exact q_vv [qf 4 b23] 4 [] [(89,vb true)] (q_J (true) hm)
        ·exact q_vv [qf 4 b23] 4 [] [(89,vb (decide (x22.value>x6.value)))] (q_J (decide (x22.value>x6.value)) hm)
      ·obtain⟨v16,h17,hm⟩:=qC hm;refine s_vv [qc 2 [55,56] 4 (qDV a1 (w64 (a2+(a1.Sizes.getD x5.toNat du))) v16 h17)] 4 [] [(14,vi v16)] (s_va 4 [(59,vb (decide (v16≥0)))] ?_);refine q_cq hm (λhm=>?_) (λhm=>?_)
       ·obtain⟨g19,hm⟩:=qJ hm;obtain⟨g20,hm⟩:=qJ hm;obtain⟨g21,hm⟩:=qJ hm
        exact q_du [qi 4 g19,qi 8 g20,qi 13 g21] [0,1,0,0,12,28,0,0,192,448,1020,0,0,6144,14336,30720,65532,131071,262143,524287] 4 [12,14,59] [] [3] [(3,bx 184 [ci x5,ci a2,ci (w64 (((a1.Gain.getD x5.toNat du).getD a2.toNat du)+(w64 ((w64 ((a3.getD v16.toNat du)-(a3.getD (w64 (a2+(a1.Sizes.getD x5.toNat du))).toNat du)))+((a4.getD v16.toNat du).value)))))])] (q_J ((qB.mk (zV.mk x5 a2) (w64 (((a1.Gain.getD x5.toNat du).getD a2.toNat du)+(w64 ((w64 ((a3.getD v16.toNat du)-(a3.getD (w64 (a2+(a1.Sizes.getD x5.toNat du))).toNat du)))+((a4.getD v16.toNat du).value))))))) hm)
       ·exact q_sk (q_J ((qB.mk (zV.mk x5 a2) ((a1.Gain.getD x5.toNat du).getD a2.toNat du))) hm)
    ·rcases bif_c hm with⟨b9,hm⟩|⟨b9,hm⟩
     ·exact q_vv [qf 4 b9] 3 [] [(42,vb true)] (q_J (true) hm)
     ·obtain⟨g10,hm⟩:=qJ hm;obtain⟨g11,hm⟩:=qJ hm;exact q_vv [qf 4 b9,qi 8 g10,qi 11 g11] 3 [] [(42,vb (decide (((a1.Gain.getD x5.toNat du).getD a2.toNat du)<0)))] (q_J (decide (((a1.Gain.getD x5.toNat du).getD a2.toNat du)<0)) hm)
  ·refine q_ex 0 ?_;obtain rfl:=oi hm;exact q_l0
theorem qNa (a1:Line) (a2:Int) (a3:List Int) (a4:List qB) (r:qB) (hm:NR a1 a2 a3 a4=some r):CtX Tryz.prog globs 182 0 0 [.agg (QJ a1),.one (ci a2),.one (tl qE du a3),.one (tl qQ du a4)] [] (qFU r) (LL r):=by
 unfold NR at hm;refine q_E f182 93 λE=>?_;refine s_vn [] 0 ⟨[(1,vi a2),(2,vc (tl qE du a3)),(3,vc (tl qQ du a4)),(4,vp 0 0),(8,vp 1 0)],[(0,bx 123 (QJ a1)),(1,bx 184 [ci 0,ci 0,ci 0])]⟩ (s_vu [] 2 [] [(9,vp 2 0)] [] [(2,bx 184 [ci (-1),ci (-1),ci 0])] ?_);refine q_sq (s_va 3 [(18,vc (tl qE du a1.Sizes)),(19,vi (a1.Sizes.length:Int)),(20,vi 0)] ?_);obtain⟨o28,h29,hm⟩:=qC hm
 refine zI (nd f182 116) 0 (by kernel_rfl) FUEL qDs o28 (q_hl (HT a1 a2 a3 a4 0 (qB.mk (zV.mk (-1) (-1)) 0)) (qJU E a1 a2 a3 a4 FUEL 0 (qB.mk (zV.mk (-1) (-1)) 0) o28 h29)) (s_vu [] 3 [9] [] [1,2] [(1,bx 184 (qQ o28))] ?_);obtain rfl:=oi hm;exact q_rt q_rm
def qRw (r:(List Int)):V:=vo 0 0 1 r.length
def qRp (r:(List Int)):List (Nat×(Nat×O)):=[(0,ro 0 3 1 r.length (rf qE r))]
def AB (a1:List Int) (l3:List Int) (l3n:Nat) (x4:Int):St:=
 ⟨[(3,vo 0 0 1 l3n),(10,vc (tl qE du a1)),(11,vi (a1.length:Int)),(12,vi x4)],[(0,ro 0 3 1 l3n (rf qE l3))]⟩
def qEb (l9:List Int):St:=
 ⟨[(3,vo 0 0 1 l9.length)],[(0,ro 0 3 1 l9.length (rf qE l9))]⟩
theorem qKw (E:Env 0) (a1:List Int):∀(n:Nat) (l3:List Int) (l3n:Nat) (x4:Int) (res:(List Int)),l3.length=l3n->KA a1 n l3 x4=some res->HL (kx E 29 0) (nd f181 116) (zN 0 qEb res) n (AB a1 l3 l3n x4):=by
 intro n
 induction n with
 |zero=>
  intro l3 l3n x4 res hl0 hm;cases hm
 |succ n ih=>
  intro l3 l3n x4 res hl0 hm;subst hl0;refine qU (s_va 1 [(13,vb (decide (x4<(a1.length:Int))))] ?_);refine q_sq (q_cq hm (λhm=>?_) (λhm=>?_))
  ·refine q_sk (q_sq ?_);refine q_bk 1 ?_;obtain⟨g6,hm⟩:=qJ hm;refine s_vv [qi 1 g6] 1 [13] [(4,vi x4),(5,vi (a1.getD x4.toNat du))] ?_;obtain⟨g7,hm⟩:=qJ hm;obtain⟨g8,hm⟩:=qJ hm
   refine q_vu [qi 5 g7,qd 6 dN (qT (zB g7)),qi 9 g8,qd 10 (drw 0 0 (rf qE (l3.set ((w64 (x4+1)).toNat) (w64 ((l3.getD x4.toNat du)+(a1.getD x4.toNat du)))))) (stP qE du (w64 ((l3.getD x4.toNat du)+(a1.getD x4.toNat du))) l3 l3.length ((w64 (x4+1)).toNat) 0 [ci (w64 ((l3.getD x4.toNat du)+(a1.getD x4.toNat du)))] rfl (qT (zB g8)) rfl)] 1 [4,5] [] [0] [(0,ro 0 3 1 l3.length (rf qE (l3.set ((w64 (x4+1)).toNat) (w64 ((l3.getD x4.toNat du)+(a1.getD x4.toNat du))))))] (q_vv [] 1 [12] [(12,vi (w64 (x4+1)))] ?_)
   exact q_hl (AB a1 (l3.set ((w64 (x4+1)).toNat) (w64 ((l3.getD x4.toNat du)+(a1.getD x4.toNat du)))) l3.length (w64 (x4+1))) (ih (l3.set ((w64 (x4+1)).toNat) (w64 ((l3.getD x4.toNat du)+(a1.getD x4.toNat du)))) l3.length (w64 (x4+1)) _ (QE rfl) hm)
  ·refine q_ex 0 ?_;obtain rfl:=oi hm;exact q_l0
theorem qFR (a1:List Int) (r:(List Int)) (hm:DV a1=some r):CtX Tryz.prog globs 181 0 0 [.one (tl qE du a1)] [] (qRw r) (qRp r):=by
 unfold DV at hm;refine q_E f181 29 λE=>?_;refine s_vn [] 0 ⟨[(0,vc (tl qE du a1))],[]⟩ ?_;obtain⟨g2,hm⟩:=qJ hm;refine s_vu [qd 3 (drw 0 0 (rf qE (List.replicate ((w64 ((a1.length:Int)+1)).toNat) 0))) (mkP qE du 0 (w64 ((a1.length:Int)+1)) 8 [ci 0] (GH g2) rfl)] 0 [] [(3,vo 0 0 1 ((w64 ((a1.length:Int)+1)).toNat))] [] [(0,ro 0 3 1 ((w64 ((a1.length:Int)+1)).toNat) (rf qE (List.replicate ((w64 ((a1.length:Int)+1)).toNat) 0)))] (q_sq ?_);refine s_vv [] 1 [0] [(10,vc (tl qE du a1)),(11,vi (a1.length:Int)),(12,vi 0)] ?_;obtain⟨o10,h11,hm⟩:=qC hm
 refine zI (nd f181 116) 0 (by kernel_rfl) FUEL qEb o10 (q_hl (AB a1 (List.replicate ((w64 ((a1.length:Int)+1)).toNat) 0) ((w64 ((a1.length:Int)+1)).toNat) 0) (qKw E a1 FUEL (List.replicate ((w64 ((a1.length:Int)+1)).toNat) 0) ((w64 ((a1.length:Int)+1)).toNat) 0 o10 DS h11)) (s_vv [] 1 [3] [(2,vo 0 0 1 o10.length)] ?_);obtain rfl:=oi hm;exact q_rt q_rm
def qMu (r:(List qB)):V:=vo 0 0 3 r.length
def qMi (r:(List qB)):List (Nat×(Nat×O)):=[(0,ro 0 184 3 r.length (rf qQ r))]
def yU (a1:Line) (v2:(List Int)) (v4:(List Int)) (l7:List qB) (l8:List qB) (x9:Int) (v11:qB):St:=
 ⟨[(1,vp 0 0),(3,vo 1 0 1 v2.length),(4,vo 2 0 1 v4.length),(5,vo 3 0 3 l7.length),(6,vo 4 0 3 l8.length),(7,vi x9),(8,vp 5 0)],[(0,bx 123 (QJ a1)),(1,ro 0 3 1 v2.length (rf qE v2)),(2,ro 0 3 1 v4.length (rf qE v4)),(3,ro 0 184 3 l7.length (rf qQ l7)),(4,ro 0 184 3 l8.length (rf qQ (l8.set x9.toNat v11)))]⟩
def qIu (a1:Line) (v2:(List Int)) (v4:(List Int)) (l7:List qB) (l8:List qB) (x9:Int) (v11:qB) (x20:Int) (x31:qB):St:=
 (yU a1 v2 v4 l7 l8 x9 v11).up [] [(10,vi x20)] [] [(5,bx 184 (qQ x31))]
def qIJ (a1:Line) (v2:(List Int)) (v4:(List Int)) (l7:List qB) (l8:List qB) (x9:Int) (v11:qB) (x20:Int) (x21:qB) (x29:Bool):St:=
 (yU a1 v2 v4 l7 l8 x9 v11).up [] [(10,vi x20),(11,vp 7 0),(125,vb x29)] [] [(5,bx 184 (qQ x21)),(7,bx 184 [ci ((((l8.set x9.toNat v11).getD x20.toNat du).piece).Size),ci ((((l8.set x9.toNat v11).getD x20.toNat du).piece).At),ci (w64 ((((l8.set x9.toNat v11).getD x20.toNat du).value)+(w64 ((w64 ((w64 ((v2.getD ((w64 (x20-a1.Kerf)).toNat) du)-(v2.getD x9.toNat du)))+(v4.getD x20.toNat du)))-(v4.getD ((w64 (x20-a1.Kerf)).toNat) du)))))])]
def BK (a1:Line) (v2:(List Int)) (v4:(List Int)) (l7:List qB) (l8:List qB) (x9:Int) (v11:qB) (x20:Int) (x21:qB):St:=
 (yU a1 v2 v4 l7 l8 x9 v11).up [] [(10,vi x20)] [] [(5,bx 184 (qQ x21))]
def qBj (a1:Line) (v2:(List Int)) (v4:(List Int)) (l7:List qB) (l8:List qB) (x9:Int) (v11:qB) (x32:qB):St:=
 (yU a1 v2 v4 l7 l8 x9 v11).up [] [] [] [(5,bx 184 (qQ x32))]
def qJh (a1:Line) (v2:(List Int)) (v4:(List Int)) (l7:List qB) (l8:List qB) (x9:Int) (v11:qB) (x19:qB):St:=
 (yU a1 v2 v4 l7 l8 x9 v11).up [] [] [] [(5,bx 184 (qQ x19))]
def qIO (a1:Line) (v2:(List Int)) (v4:(List Int)) (l7:List qB) (l8:List qB) (x9:Int) (v11:qB) (x17:Bool):St:=
 (yU a1 v2 v4 l7 l8 x9 v11).up [] [(9,vp 6 0),(67,vb x17)] [] [(5,bx 184 [ci (-1),ci (-1),ci (w64 ((v2.getD a1.Len.toNat du)-(v2.getD x9.toNat du)))]),(6,bx 184 (qQ ((l8.set x9.toNat v11).getD x9.toNat du)))]
def BQ (a1:Line) (v2:(List Int)) (v4:(List Int)) (l7:List qB) (l7n:Nat) (l8:List qB) (l8n:Nat) (x9:Int):St:=
 ⟨[(1,vp 0 0),(3,vo 1 0 1 v2.length),(4,vo 2 0 1 v4.length),(5,vo 3 0 3 l7n),(6,vo 4 0 3 l8n),(7,vi x9)],[(0,bx 123 (QJ a1)),(1,ro 0 3 1 v2.length (rf qE v2)),(2,ro 0 3 1 v4.length (rf qE v4)),(3,ro 0 184 3 l7n (rf qQ l7)),(4,ro 0 184 3 l8n (rf qQ l8))]⟩
def qA0 (l36:List qB):St:=
 ⟨[(5,vo 3 0 3 l36.length)],[(3,ro 0 184 3 l36.length (rf qQ l36))]⟩
theorem qIn (E:Env 0) (a1:Line) (v2:(List Int)) (v4:(List Int)) (l7:List qB) (l8:List qB) (x9:Int) (v11:qB):∀(n:Nat) (x20:Int) (x21:qB) (res:qB),wR a1 v2 v4 l8 x9 v11 n x20 x21=some res->HL (kx E 132 0) (nd f114 512628) (zN 2 (λo=>qBj a1 v2 v4 l7 l8 x9 v11 o) res) n (BK a1 v2 v4 l7 l8 x9 v11 x20 x21):=by
 intro n
 induction n with
 |zero=>
  intro x20 x21 res hm;cases hm
 |succ n ih=>
  intro x20 x21 res hm;refine qU (q_sq ?_);refine s_va 7 [(79,vb (decide (x20<=a1.Len)))] (q_cq hm (λhm=>?_) (λhm=>?_))
  ·refine q_sk (q_jn (qIu a1 v2 v4 l7 l8 x9 v11 x20) (λp=>XF a1 x20 (wR a1 v2 v4 l8 x9 v11 n) p=some res) ?_ ?_)
   ·rintro x31 hm;exact q_vv [] 8 [10] [(10,vi (w64 (x20+a1.Pitch)))] (q_hl (BK a1 v2 v4 l7 l8 x9 v11 (w64 (x20+a1.Pitch)) x31) (ih (w64 (x20+a1.Pitch)) x31 _ hm))
   ·refine q_bk 3 ?_;obtain⟨g23,hm⟩:=qJ hm;refine s_vu [qi 2 g23,qd 3 dN (qT (zB g23))] 7 [79] [(11,vp 7 0)] [] [(7,bx 184 (qQ ((l8.set x9.toNat v11).getD x20.toNat du)))] (s_va 8 [(12,vi (w64 (x20-a1.Kerf)))] ?_);obtain⟨g24,hm⟩:=qJ hm;obtain⟨g25,hm⟩:=qJ hm;obtain⟨g26,hm⟩:=qJ hm;obtain⟨g27,hm⟩:=qJ hm
    refine s_du [qi 4 g24,qd 5 dN (qT (zB g24)),qi 8 g25,qd 9 dN (qT (zB g25)),qi 13 g26,qd 14 dN (qT (zB g26)),qi 18 g27,qd 19 dN (qT (zB g27))] [0,1,0,0,12,28,0,0,192,448,1020,0,0,6144,14336,32764,0,0,196608,458752,1048572,2097151,4194303,8388607] 8 [12] [] [7] [(7,bx 184 [ci ((((l8.set x9.toNat v11).getD x20.toNat du).piece).Size),ci ((((l8.set x9.toNat v11).getD x20.toNat du).piece).At),ci (w64 ((((l8.set x9.toNat v11).getD x20.toNat du).value)+(w64 ((w64 ((w64 ((v2.getD ((w64 (x20-a1.Kerf)).toNat) du)-(v2.getD x9.toNat du)))+(v4.getD x20.toNat du)))-(v4.getD ((w64 (x20-a1.Kerf)).toNat) du)))))])] ?_
    refine q_jn (qIJ a1 v2 v4 l7 l8 x9 v11 x20 x21) (λp=>UY a1 v2 v4 l8 x9 v11 x20 x21 (wR a1 v2 v4 l8 x9 v11 n) p=some res) ?_ ?_
    ·rintro x29 hm;refine q_cq hm (λhm=>?_) (λhm=>?_)
     ·exact q_vu [] 8 [11,125] [] [5,7] [(5,bx 184 [ci ((((l8.set x9.toNat v11).getD x20.toNat du).piece).Size),ci ((((l8.set x9.toNat v11).getD x20.toNat du).piece).At),ci (w64 ((((l8.set x9.toNat v11).getD x20.toNat du).value)+(w64 ((w64 ((w64 ((v2.getD ((w64 (x20-a1.Kerf)).toNat) du)-(v2.getD x9.toNat du)))+(v4.getD x20.toNat du)))-(v4.getD ((w64 (x20-a1.Kerf)).toNat) du)))))])] (q_J ((qB.mk (((l8.set x9.toNat v11).getD x20.toNat du).piece) (w64 ((((l8.set x9.toNat v11).getD x20.toNat du).value)+(w64 ((w64 ((w64 ((v2.getD ((w64 (x20-a1.Kerf)).toNat) du)-(v2.getD x9.toNat du)))+(v4.getD x20.toNat du)))-(v4.getD ((w64 (x20-a1.Kerf)).toNat) du))))))) hm)
     ·exact q_sk (q_J (x21) hm)
    ·rcases bif_c hm with⟨b28,hm⟩|⟨b28,hm⟩
     ·exact q_vv [qf 4 b28] 8 [] [(125,vb (decide ((w64 ((((l8.set x9.toNat v11).getD x20.toNat du).value)+(w64 ((w64 ((w64 ((v2.getD ((w64 (x20-a1.Kerf)).toNat) du)-(v2.getD x9.toNat du)))+(v4.getD x20.toNat du)))-(v4.getD ((w64 (x20-a1.Kerf)).toNat) du)))))>x21.value)))] (q_J (decide ((w64 ((((l8.set x9.toNat v11).getD x20.toNat du).value)+(w64 ((w64 ((w64 ((v2.getD ((w64 (x20-a1.Kerf)).toNat) du)-(v2.getD x9.toNat du)))+(v4.getD x20.toNat du)))-(v4.getD ((w64 (x20-a1.Kerf)).toNat) du)))))>x21.value)) hm)
     ·exact q_vv [qf 4 b28] 8 [] [(125,vb false)] (q_J (false) hm)
  ·refine q_ex 2 ?_;obtain rfl:=oi hm;exact q_l0
theorem qHB (E:Env 0) (a1:Line) (v2:(List Int)) (v4:(List Int)):∀(n:Nat) (l7:List qB) (l7n:Nat) (l8:List qB) (l8n:Nat) (x9:Int) (res:(List qB)),l7.length=l7n->l8.length=l8n->jA a1 v2 v4 n l7 l8 x9=some res->HL (kx E 132 0) (nd f114 500) (zN 0 qA0 res) n (BQ a1 v2 v4 l7 l7n l8 l8n x9):=by
 intro n
 induction n with
 |zero=>
  intro l7 l7n l8 l8n x9 res hl0 hl1 hm;cases hm
 |succ n ih=>
  intro l7 l7n l8 l8n x9 res hl0 hl1 hm;subst hl0;subst hl1;refine qU (q_sq ?_);refine s_va 5 [(30,vb (decide (x9≥0)))] (q_cq hm (λhm=>?_) (λhm=>?_))
  ·refine q_sk (q_sq ?_);refine q_bk 1 ?_;obtain⟨v11,h12,hm⟩:=qC hm;obtain⟨g13,hm⟩:=qJ hm
   refine s_vu [qd 6 (dex (cen [] [] 5 0 (qFU v11) (LL v11) [35,36,37,38] [2,3])) (wO (K:=(kx E 132 0)) (b:=false) ⟨[(35,va (QJ a1)),(36,vi x9),(37,vo 2 0 1 v4.length),(38,vo 3 0 3 l7.length)],[(2,ro 0 3 1 v4.length (rf qE v4)),(3,ro 0 184 3 l7.length (rf qQ l7))]⟩ (opAt (rg f114 8008) 6) [] [] 5 (o1 (And.intro (ke v4.length) (ke l7.length))) rfl (qNa a1 x9 v4 l7 v11 h12) (.inr ⟨(by kernel_rfl),qQg v11⟩) (by kernel_rfl)),qi 7 g13,qd 8 (drw 0 0 (rf qQ (l8.set x9.toNat v11))) (stP qQ du v11 l8 l8.length x9.toNat 0 (qQ v11) rfl (qT (zB g13)) rfl)] 5 [30] [] [4] [(4,ro 0 184 3 l8.length (rf qQ (l8.set x9.toNat v11)))] ?_
   obtain⟨g14,hm⟩:=qJ hm;obtain⟨g15,hm⟩:=qJ hm;refine s_du [qi 4 g14,qd 5 dN (qT (zB g14)),qi 8 g15,qd 9 dN (qT (zB g15))] [0,0,0,4,14,30,0,0,192,448,1022,2047,0,8191] 5 [] [(8,vp 5 0)] [] [(5,bx 184 [ci (-1),ci (-1),ci (w64 ((v2.getD a1.Len.toNat du)-(v2.getD x9.toNat du)))])] (q_jn (qJh a1 v2 v4 l7 l8 x9 v11) (λp=>XQ a1 v2 v4 l7 l8 x9 (jA a1 v2 v4 n) v11 p=some res) ?_ ?_)
   ·rintro x19 hm;refine q_sq (s_va 7 [(10,vi (w64 ((w64 (x9+a1.Pitch))+a1.Kerf)))] ?_);obtain⟨o33,h34,hm⟩:=qC hm;refine zI (nd f114 512628) 2 (by kernel_rfl) FUEL (λo=>qBj a1 v2 v4 l7 l8 x9 v11 o) o33 (q_hl (BK a1 v2 v4 l7 l8 x9 v11 (w64 ((w64 (x9+a1.Pitch))+a1.Kerf)) x19) (qIn E a1 v2 v4 l7 l8 x9 v11 FUEL (w64 ((w64 (x9+a1.Pitch))+a1.Kerf)) x19 o33 h34)) ?_;obtain⟨g35,hm⟩:=qJ hm
    refine q_vu [qi 3 g35,qd 4 (drw 0 0 (rf qQ (l7.set x9.toNat o33))) (stP qQ du o33 l7 l7.length x9.toNat 0 (qQ o33) rfl (qT (zB g35)) rfl)] 7 [8] [] [3,5] [(3,ro 0 184 3 l7.length (rf qQ (l7.set x9.toNat o33)))] (q_vv [] 7 [7] [(7,vi (w64 (x9-1)))] ?_);exact q_hl (BQ a1 v2 v4 (l7.set x9.toNat o33) l7.length (l8.set x9.toNat v11) l8.length (w64 (x9-1))) (ih (l7.set x9.toNat o33) l7.length (l8.set x9.toNat v11) l8.length (w64 (x9-1)) _ (QE rfl) (QE rfl) hm)
   ·refine s_vu [qi 2 g13,qd 3 dN (qT (zB g13))] 6 [] [(9,vp 6 0)] [] [(6,bx 184 (qQ ((l8.set x9.toNat v11).getD x9.toNat du)))] (q_jn (qIO a1 v2 v4 l7 l8 x9 v11) (λp=>UT a1 v2 v4 l7 l8 x9 (jA a1 v2 v4 n) v11 p=some res) ?_ ?_)
    ·rintro x17 hm;refine q_cq hm (λhm=>?_) (λhm=>?_)
     ·exact q_vu [] 7 [9,67] [] [5,6] [(5,bx 184 (qQ ((l8.set x9.toNat v11).getD x9.toNat du)))] (q_J (((l8.set x9.toNat v11).getD x9.toNat du)) hm)
     ·exact q_sk (q_J ((qB.mk (zV.mk (-1) (-1)) (w64 ((v2.getD a1.Len.toNat du)-(v2.getD x9.toNat du))))) hm)
    ·rcases bif_c hm with⟨b16,hm⟩|⟨b16,hm⟩
     ·exact q_vv [qf 4 b16] 7 [] [(67,vb (decide ((((l8.set x9.toNat v11).getD x9.toNat du).value)>(w64 ((v2.getD a1.Len.toNat du)-(v2.getD x9.toNat du))))))] (q_J (decide ((((l8.set x9.toNat v11).getD x9.toNat du).value)>(w64 ((v2.getD a1.Len.toNat du)-(v2.getD x9.toNat du))))) hm)
     ·exact q_vv [qf 4 b16] 7 [] [(67,vb false)] (q_J (false) hm)
  ·refine q_ex 0 ?_;obtain rfl:=oi hm;exact q_l0
theorem qLm (a1:Line) (r:(List qB)) (hm:UW a1=some r):CtX Tryz.prog globs 114 0 0 [.agg (QJ a1)] [] (qMu r) (qMi r):=by
 unfold UW at hm;refine q_E f114 132 λE=>?_;refine s_vn [] 0 ⟨[(1,vp 0 0)],[(0,bx 123 (QJ a1))]⟩ ?_;obtain⟨v2,h3,hm⟩:=qC hm;obtain⟨v4,h5,hm⟩:=qC hm;refine s_du [qc 2 [14] 1 (qFR a1.Chip v2 h3),qc 5 [17] 2 (qFR a1.Dust v4 h5)] [0,1,3,0,8,31,63,127] 1 [] [(3,vo 1 0 1 v2.length),(4,vo 2 0 1 v4.length)] [] [(1,ro 0 3 1 v2.length (rf qE v2)),(2,ro 0 3 1 v4.length (rf qE v4))] ?_;obtain⟨g6,hm⟩:=qJ hm
 refine s_vu [qd 3 (drw 3 0 (rf qQ (List.replicate ((w64 (a1.Len+1)).toNat) (qB.mk (zV.mk 0 0) 0)))) (mkP qQ du (qB.mk (zV.mk 0 0) 0) (w64 (a1.Len+1)) 24 [ci 0,ci 0,ci 0] (GH g6) rfl)] 3 [] [(5,vo 3 0 3 ((w64 (a1.Len+1)).toNat))] [] [(3,ro 0 184 3 ((w64 (a1.Len+1)).toNat) (rf qQ (List.replicate ((w64 (a1.Len+1)).toNat) (qB.mk (zV.mk 0 0) 0))))] ?_
 refine s_vu [qd 3 (drw 4 0 (rf qQ (List.replicate ((w64 (a1.Len+1)).toNat) (qB.mk (zV.mk 0 0) 0)))) (mkP qQ du (qB.mk (zV.mk 0 0) 0) (w64 (a1.Len+1)) 24 [ci 0,ci 0,ci 0] (GH g6) rfl)] 4 [] [(6,vo 4 0 3 ((w64 (a1.Len+1)).toNat))] [] [(4,ro 0 184 3 ((w64 (a1.Len+1)).toNat) (rf qQ (List.replicate ((w64 (a1.Len+1)).toNat) (qB.mk (zV.mk 0 0) 0))))] (q_sq ?_);refine s_va 5 [(7,vi a1.Len)] ?_;obtain⟨o37,h38,hm⟩:=qC hm
 refine zI (nd f114 500) 0 (by kernel_rfl) FUEL qA0 o37 (q_hl (BQ a1 v2 v4 (List.replicate ((w64 (a1.Len+1)).toNat) (qB.mk (zV.mk 0 0) 0)) ((w64 (a1.Len+1)).toNat) (List.replicate ((w64 (a1.Len+1)).toNat) (qB.mk (zV.mk 0 0) 0)) ((w64 (a1.Len+1)).toNat) a1.Len) (qHB E a1 v2 v4 FUEL (List.replicate ((w64 (a1.Len+1)).toNat) (qB.mk (zV.mk 0 0) 0)) ((w64 (a1.Len+1)).toNat) (List.replicate ((w64 (a1.Len+1)).toNat) (qB.mk (zV.mk 0 0) 0)) ((w64 (a1.Len+1)).toNat) a1.Len o37 DS DS h38)) (s_vv [] 5 [5] [(2,vo 3 0 3 o37.length)] ?_);obtain rfl:=oi hm;exact q_sw 3 0 (q_rt q_rm)
def qBN (r:(List zV)×Int×Int):V:= .tup [.one (.own 0 0 2 r.1.length),.one (ci r.2.1),.one (ci r.2.2)]
def DB (r:(List zV)×Int×Int):List (Nat×(Nat×O)):=[(0,ro 0 132 2 r.1.length (rf QF r.1))]
theorem qHw (r:(List zV)×Int×Int):QQ (DB r):=by
 intro i k o h;unfold DB at h;rw[look_cons] at h;split at h
 ·cases h;exact λ_ _=>rfl
 ·cases h
def EZ (a1:Line) (v5:(List qB)) (l7:List zV) (l7n:Nat) (x8:Int):St:=
 ⟨[(1,vp 0 0),(6,vo 1 0 3 v5.length),(7,vo 2 0 2 l7n),(8,vi x8)],[(0,bx 123 (QJ a1)),(1,ro 0 184 3 v5.length (rf qQ v5)),(2,ro 0 132 2 l7n (rf QF l7))]⟩
def qDX (v5:(List qB)) (l16:List zV):St:=
 ⟨[(6,vo 1 0 3 v5.length),(7,vo 2 0 2 l16.length)],[(1,ro 0 184 3 v5.length (rf qQ v5)),(2,ro 0 132 2 l16.length (rf QF l16))]⟩
theorem qLz (E:Env 0) (a1:Line) (v5:(List qB)):∀(n:Nat) (l7:List zV) (l7n:Nat) (x8:Int) (res:(List zV)),l7.length=l7n->XV a1 v5 n l7 x8=some res->HL (kx E 47 0) (nd f55 500) (zN 0 (λo=>qDX v5 o) res) n (EZ a1 v5 l7 l7n x8):=by
 intro n
 induction n with
 |zero=>
  intro l7 l7n x8 res hl0 hm;cases hm
 |succ n ih=>
  intro l7 l7n x8 res hl0 hm;subst hl0;refine qU (q_sq ?_);refine s_va 3 [(18,vb (decide (x8≥0)))] (q_cq hm (λhm=>?_) (λhm=>?_))
  ·refine q_sk (q_bk 1 ?_);obtain⟨g10,hm⟩:=qJ hm;refine s_vu [qi 2 g10,qd 4 dN (qT (zB g10))] 3 [8,18] [(9,vp 3 0)] [] [(3,bx 132 (QF ((v5.getD x8.toNat du).piece)))] (q_sq ?_);refine s_va 4 [(26,vb (((((v5.getD x8.toNat du).piece).Size)==(-1))&&(((((v5.getD x8.toNat du).piece).At)==(-1))&&true)))] (q_cq hm (λhm=>?_) (λhm=>?_))
   ·refine q_ex 0 ?_;obtain rfl:=oi hm;exact q_l0
   ·refine q_sk ?_;obtain⟨g12,hm⟩:=qJ hm;refine s_vu [qd 2 (drw 4 0 (rf QF [(v5.getD x8.toNat du).piece])) (litP QF du 2 (λ_=>rfl) ([(v5.getD x8.toNat du).piece]:List zV) 1 rfl),qd 3 (drw 2 1 (rf QF (l7++[(v5.getD x8.toNat du).piece]))) (apP QF du l7 ([(v5.getD x8.toNat du).piece]:List zV) l7.length 1 2 16 (1<=1) (ke _) rfl rfl (λ_=>rfl) (wB g12))] 4 [7,26] [(7,vo 2 1 2 (l7.length+1))] [2] [(2,ro 1 132 2 (l7.length+1) (rf QF (l7++[(v5.getD x8.toNat du).piece])))] ?_;obtain⟨g13,hm⟩:=qJ hm;obtain⟨v14,h15,hm⟩:=qC hm
    exact q_du [qi 7 g13,qc 10 [31,40] 5 (qDV a1 (w64 ((((v5.getD x8.toNat du).piece).At)+(a1.Sizes.getD (((v5.getD x8.toNat du).piece).Size).toNat du))) v14 h15)] [0,0,2,0,8,0,32,120,248,510,1023,2047] 5 [9] [(8,vi v14)] [3] [] (q_hl (EZ a1 v5 (l7++[(v5.getD x8.toNat du).piece]) (l7.length+1) v14) (ih (l7++[(v5.getD x8.toNat du).piece]) (l7.length+1) v14 _ (wC rfl rfl) hm))
  ·refine q_ex 0 ?_;obtain rfl:=oi hm;exact q_l0
theorem qGE (a1:Line) (r:(List zV)×Int×Int) (hm:jY a1=some r):CtX Tryz.prog globs 55 0 0 [.agg (QJ a1)] [] (qBN r) (DB r):=by
 unfold jY at hm;refine q_E f55 47 λE=>?_;refine s_vn [] 0 ⟨[(1,vp 0 0)],[(0,bx 123 (QJ a1))]⟩ (q_sq ?_);obtain⟨v2,h3,hm⟩:=qC hm;refine s_vv [qc 1 [10] 1 (qNG a1 v2 h3)] 1 [] [(5,vi v2)] (s_va 1 [(13,vb (v2 !=0))] ?_);refine q_cq hm (λhm=>?_) (λhm=>?_)
 ·refine s_vn [] 1 ⟨[(2,vc (.emp)),(3,vi 0),(4,vi v2)],[]⟩ (q_fo 2 1 132 2 QF ?_);refine q_fl 2 1 132 2 QF ?_;obtain rfl:=oi hm;exact q_sw 1 0 (q_rt q_rm)
 ·refine q_sk ?_;obtain⟨v5,h6,hm⟩:=qC hm;refine s_vu [qc 1 [15] 1 (qLm a1 v5 h6)] 1 [5,13] [(6,vo 1 0 3 v5.length)] [] [(1,ro 0 184 3 v5.length (rf qQ v5))] (s_va 2 [(7,vc (.emp))] ?_);refine q_sq (s_va 2 [(8,vi 0)] ?_);refine q_fo 7 2 132 2 QF ?_;obtain⟨o17,h18,hm⟩:=qC hm;refine zI (nd f55 500) 0 (by kernel_rfl) FUEL (λo=>qDX v5 o) o17 (q_hl (EZ a1 v5 ([]:List zV) 0 0) (qLz E a1 v5 FUEL ([]:List zV) 0 0 o17 rfl h18)) ?_;obtain⟨g19,hm⟩:=qJ hm
  refine s_du [qi 2 g19,qd 4 dN (qT (zB g19))] [0,0,2,6,14,1,63,127] 3 [6,7] [(2,vo 2 0 2 o17.length),(3,vi ((v5.getD ((0:Int).toNat) du).value)),(4,vi 0)] [1] [] ?_;obtain rfl:=oi hm;exact q_sw 2 0 (q_rt q_rm)
def XP (a1:List Node) (a2:Int) (a3:List Node) (r:Int×(List Node)):V:= .undef
def QO (a1:List Node) (a2:Int) (a3:List Node) (r:Int×(List Node)):List (Nat×(Nat×O)):=[(0,bx 3 [ci r.1]),(1,bx 56 [.own 2 0 2 r.2.length]),(2,ro 0 156 2 r.2.length (rf qK r.2))]
theorem SF (a1:List Node) (a2:Int) (a3:List Node) (r:Int×(List Node)):QQ (QO a1 a2 a3 r):=by
 intro i k o h;unfold QO at h;rw[look_cons] at h;split at h
 ·cases h;rfl
 ·rw[look_cons] at h;split at h
  ·cases h;rfl
  ·rw[look_cons] at h;split at h
   ·cases h;exact λ_ _=>rfl
   ·cases h
theorem TG (a1:List Node) (a2:Int) (a3:List Node) (r:Int×(List Node)) (hm:QP a1 a2 a3=some r):CtX Tryz.prog globs 117 3 2 [.one (tl qK du a1),.one (.bptr 0 0 0),.one (.bptr 1 0 0)] [(0,bx 3 [ci a2]),(1,bx 56 [.own 2 0 2 a3.length]),(2,ro 0 156 2 a3.length (rf qK a3))] (XP a1 a2 a3 r) (QO a1 a2 a3 r):=by
 unfold QP at hm;refine q_E f117 13 λE=>?_;refine s_vn [] 3 ⟨[(0,vc (tl qK du a1)),(1,vp 0 0),(2,vp 1 0)],[(0,bx 3 [ci (w64 (a2+(a1.length:Int)))]),(1,bx 56 [.own 2 0 2 a3.length]),(2,ro 0 156 2 a3.length (rf qK a3))]⟩ (s_vv [] 3 [1] [(9,vb (decide ((w64 (a2+(a1.length:Int)))<=127)))] ?_);refine q_cq hm (λhm=>?_) (λhm=>?_)
 ·obtain⟨g5,hm⟩:=qJ hm;refine q_wu [qd 2 (drw 2 1 (rf qK (a3++a1))) (apP qK du a3 a1 a3.length a1.length 2 16 (True) trivial rfl rfl (λ_=>rfl) (wB g5))] [.len 2 ((a3++a1).length)] (o1 (And.intro (Eq.symm (show(a3++a1).length=(a3.length+a1.length) from(wC rfl rfl))) (And.intro (Eq.symm (show(a3++a1).length=(a3.length+a1.length) from(wC rfl rfl))) (Eq.symm (show(a3++a1).length=(a3.length+a1.length) from(wC rfl rfl)))))) 3 [0,2,9] [] [1,2] [(1,bx 56 [.own 2 1 2 ((a3++a1).length)]),(2,ro 1 156 2 ((a3++a1).length) (rf qK (a3++a1)))] ?_;obtain rfl:=oi hm;exact q_rm
 ·refine q_sk ?_;obtain rfl:=oi hm;exact q_rm
def FJ (r:(List Node)×Int):V:= .tup [.one (.own 0 0 2 r.1.length),.one (ci r.2)]
def PC (r:(List Node)×Int):List (Nat×(Nat×O)):=[(0,ro 0 156 2 r.1.length (rf qK r.1))]
theorem qJI (r:(List Node)×Int):QQ (PC r):=by
 intro i k o h;unfold PC at h;rw[look_cons] at h;split at h
 ·cases h;exact λ_ _=>rfl
 ·cases h
def UP (a2:Int) (a3:Int) (a4:List Span) (a5:List (List Node)) (v17:Span) (x21:Int):St:=
 ⟨[(1,vi a2),(2,vi a3),(4,vc (tl (qW qK) du a5)),(12,vp 1 0),(13,vp 2 0),(14,vc (.fn 117 [.bptr 2 0 0,.bptr 1 0 0])),(15,vp 3 0),(18,vi x21),(45,vc (tl qL du a4)),(46,vi (a4.length:Int)),(47,vi x21)],[(3,bx 53 (qL v17))]⟩
def qEU (a2:Int) (a3:Int) (a4:List Span) (a5:List (List Node)) (v17:Span) (x21:Int) (x40:Int) (x41:Bool) (l42:List Node) (l42n:Nat) (x43:Int):St:=
 (UP a2 a3 a4 a5 v17 x21).up [] [(16,vi x40),(17,vb x41)] [] [(1,bx 56 [.own 4 0 2 l42n]),(2,bx 3 [ci x43]),(4,ro 0 156 2 l42n (rf qK l42))]
def qFh (a2:Int) (a3:Int) (a4:List Span) (a5:List (List Node)) (v17:Span) (x19:Int) (x20:Bool) (x21:Int) (l35:List Node) (l35n:Nat) (x36:Int):St:=
 (UP a2 a3 a4 a5 v17 x21).up [] [(16,vi x19),(17,vb x20),(19,vp 5 0)] [] [(1,bx 56 [.own 4 0 2 l35n]),(2,bx 3 [ci x36]),(4,ro 0 156 2 l35n (rf qK l35)),(5,bx 53 (qL (a4.getD x21.toNat du)))]
def qN5 (a2:Int) (a3:Int) (a4:List Span) (a5:List (List Node)) (v17:Span) (x19:Int) (x20:Bool) (x21:Int) (l22:List Node) (x23:Int) (x29:Bool):St:=
 (UP a2 a3 a4 a5 v17 x21).up [] [(16,vi x19),(17,vb x20),(19,vp 5 0),(58,vb x29)] [] [(1,bx 56 [.own 4 0 2 l22.length]),(2,bx 3 [ci x23]),(4,ro 0 156 2 l22.length (rf qK l22)),(5,bx 53 (qL (a4.getD x21.toNat du)))]
def CM (a2:Int) (a3:Int) (a4:List Span) (a5:List (List Node)) (v17:Span) (x19:Int) (x20:Bool) (x21:Int) (l22:List Node) (l22n:Nat) (x23:Int):St:=
 (UP a2 a3 a4 a5 v17 x21).up [18] [(16,vi x19),(17,vb x20)] [] [(1,bx 56 [.own 4 0 2 l22n]),(2,bx 3 [ci x23]),(4,ro 0 156 2 l22n (rf qK l22))]
def qFJ (x47:Bool) (l48:List Node) (x49:Int):St:=
 ⟨[(12,vp 1 0),(13,vp 2 0),(14,vc (.fn 117 [.bptr 2 0 0,.bptr 1 0 0])),(17,vb x47)],[(1,bx 56 [.own 4 0 2 l48.length]),(2,bx 3 [ci x49]),(4,ro 0 156 2 l48.length (rf qK l48))]⟩
def qFw (x57:Int) (l58:List Node) (l58n:Nat):St:=
 ⟨[(12,vp 1 0),(13,vp 2 0)],[(1,bx 56 [.own 4 0 2 l58n]),(2,bx 3 [ci x57]),(4,ro 0 156 2 l58n (rf qK l58))]⟩
def qNt (a1:Rect) (a2:Int) (a3:Int) (a4:List Span) (a5:List (List Node)) (x15:Bool):St:=
 ⟨[(1,vi a2),(2,vi a3),(3,vc (tl qL du a4)),(4,vc (tl (qW qK) du a5)),(5,vp 0 0),(38,vb x15)],[(0,bx 55 (qR a1))]⟩
def qNs (a1:Rect) (a2:Int) (a3:Int) (a4:List Span) (a5:List (List Node)) (x12:Bool):St:=
 ⟨[(1,vi a2),(2,vi a3),(3,vc (tl qL du a4)),(4,vc (tl (qW qK) du a5)),(5,vp 0 0),(32,vb x12)],[(0,bx 55 (qR a1))]⟩
theorem qL3 (E:Env 0) (a2:Int) (a3:Int) (a4:List Span) (a5:List (List Node)) (v17:Span):∀(n:Nat) (x19:Int) (x20:Bool) (x21:Int) (l22:List Node) (l22n:Nat) (x23:Int) (res:((List Node)×Int)⊕(Bool×(List Node)×Int)),l22.length=l22n->wT a2 a3 a4 a5 v17 n x19 x20 x21 l22 x23=some res->HL (kx E 130 0) (nd f58 16372) (wY 0 (λo=>qFJ o.1 o.2.1 o.2.2) (λv st=>RetQ Tryz.prog f58 (FJ v) (PC v) .ret st) res) n (CM a2 a3 a4 a5 v17 x19 x20 x21 l22 l22n x23):=by
 intro n
 induction n with
 |zero=>
  intro x19 x20 x21 l22 l22n x23 res hl0 hm;cases hm
 |succ n ih=>
  intro x19 x20 x21 l22 l22n x23 res hl0 hm;subst hl0;refine qU (s_va 5 [(48,vb (decide (x21<(a4.length:Int))))] ?_);refine q_sq (q_cq hm (λhm=>?_) (λhm=>?_))
  ·refine q_sk (q_sq ?_);refine q_bk 1 ?_;obtain⟨g25,hm⟩:=qJ hm;refine s_vu [qi 1 g25] 5 [48] [(18,vi x21),(19,vp 5 0)] [] [(5,bx 53 (qL (a4.getD x21.toNat du)))] (q_sq ?_);refine q_bk 2 (s_va 6 [(52,vb (decide (((a4.getD x21.toNat du).A)≥((a4.getD x21.toNat du).B))))] ?_);refine q_cq hm (λhm=>?_) (λhm=>?_)
   ·refine s_vn [] 6 ⟨[(10,vc (.emp)),(11,vi 19)],[]⟩ (q_fo 10 6 156 2 qK ?_);refine q_fl 10 6 156 2 qK ?_;obtain rfl:=oi hm;refine q_sw 6 0 (q_rt ?_);exact zQ (([]:List Node),19) q_rm
   ·refine q_jn (qN5 a2 a3 a4 a5 v17 x19 x20 x21 l22 x23) (λp=>YS a2 a3 a4 a5 v17 x19 x20 x21 l22 x23 (wT a2 a3 a4 a5 v17 n) p=some res) ?_ ?_
    ·rintro x29 hm;refine q_cq hm (λhm=>?_) (λhm=>?_)
     ·refine s_vn [] 6 ⟨[(10,vc (.emp)),(11,vi 11)],[]⟩ (q_fo 10 6 156 2 qK ?_);refine q_fl 10 6 156 2 qK ?_;obtain rfl:=oi hm;refine q_sw 6 0 (q_rt ?_);exact zQ (([]:List Node),11) q_rm
     ·refine s_vv [] 6 [58] [(75,vb (decide (((a4.getD x21.toNat du).B)>v17.B)))] (q_cq hm (λhm=>?_) (λhm=>?_))
      ·refine s_vn [] 6 ⟨[(10,vc (.emp)),(11,vi 20)],[]⟩ (q_fo 10 6 156 2 qK ?_);refine q_fl 10 6 156 2 qK ?_;obtain rfl:=oi hm;refine q_sw 6 0 (q_rt ?_);exact zQ (([]:List Node),20) q_rm
      ·refine q_sk (q_jn (ι:=(List Node)×Nat×Int) (λp=>qFh a2 a3 a4 a5 v17 x19 x20 x21 p.1 p.2.1 p.2.2) (λp=>p.1.length=p.2.1/\GS a2 a3 a4 a5 v17 x19 x20 x21 (wT a2 a3 a4 a5 v17 n) p.1 p.2.2=some res) ?_ ?_)
       ·rintro⟨l35,l35n,x36⟩ ⟨el35,hm⟩;replace el35:l35.length=l35n:=el35;subst el35;show H _ (qFh a2 a3 a4 a5 v17 x19 x20 x21 l35 l35.length x36) _ _;refine q_jn (ι:=Int×Bool×(List Node)×Nat×Int) (λp=>qEU a2 a3 a4 a5 v17 x21 p.1 p.2.1 p.2.2.1 p.2.2.2.1 p.2.2.2.2) (λp=>p.2.2.1.length=p.2.2.2.1/\DJ a5 x21 (wT a2 a3 a4 a5 v17 n) p.1 p.2.1 p.2.2.1 p.2.2.2.2=some res) ?_ ?_
        ·rintro⟨x40,x41,l42,l42n,x43⟩ ⟨el42,hm⟩;replace el42:l42.length=l42n:=el42;subst el42;show H _ (qEU a2 a3 a4 a5 v17 x21 x40 x41 l42 l42.length x43) _ _;obtain⟨g44,hm⟩:=qJ hm;obtain⟨v45,h46,hm⟩:=qC hm
         refine q_vu [qi 3 g44,qd 5 (dex (cen [(2,0),(1,0),(4,0)] [0,0,1] 5 2 (XP (a5.getD x21.toNat du) x43 l42 v45) (QO (a5.getD x21.toNat du) x43 l42 v45) [114,118] [2,1,4])) (wO (K:=(kx E 130 0)) ⟨[(114,vc (.fn 117 [.bptr 2 0 0,.bptr 1 0 0])),(118,vc (tl qK du (a5.getD x21.toNat du)))],[(2,bx 3 [ci x43]),(1,bx 56 [.own 4 0 2 l42.length]),(4,ro 0 156 2 l42.length (rf qK l42))]⟩ (opAt (rg f58 4191439) 5) [(2,0),(1,0),(4,0)] [0,0,1] 5 o0 rfl (TG (a5.getD x21.toNat du) x43 l42 v45 h46) (.inl rfl) (by kernel_rfl))] 8 [18] [] [1,2,4] [(1,bx 56 [.own 4 1 2 v45.2.length]),(2,bx 3 [ci v45.1]),(4,ro 1 156 2 v45.2.length (rf qK v45.2))] (q_vv [] 8 [47] [(47,vi (w64 (x21+1)))] ?_)
         exact q_hl (CM a2 a3 a4 a5 v17 x40 x41 (w64 (x21+1)) v45.2 v45.2.length v45.1) (ih x40 x41 (w64 (x21+1)) v45.2 v45.2.length v45.1 _ rfl hm)
        ·refine s_va 7 [(99,vb (decide (((a4.getD x21.toNat du).B)<v17.B)))] (q_cq hm (λhm=>?_) (λhm=>?_))
         ·obtain⟨v38,h39,hm⟩:=qC hm
          refine s_vu [qd 5 (drw 7 0 (rf qK [(Node.mk a2 ((a4.getD x21.toNat du).B))])) (litP qK du 2 (λ_=>rfl) ([(Node.mk a2 ((a4.getD x21.toNat du).B))]:List Node) 1 rfl),qd 6 (dex (cen [(2,0),(1,0),(4,0)] [0,0,1] 5 2 (XP ([(Node.mk a2 ((a4.getD x21.toNat du).B))]:List Node) x36 l35 v38) (QO ([(Node.mk a2 ((a4.getD x21.toNat du).B))]:List Node) x36 l35 v38) [100,105] [2,1,4,7])) (wO (K:=(kx E 130 0)) (xs':=[.one (.lst 1 (rf qK [(Node.mk a2 ((a4.getD x21.toNat du).B))])),.one (.bptr 0 0 0),.one (.bptr 1 0 0)]) (b:=false) ⟨[(100,vc (.fn 117 [.bptr 2 0 0,.bptr 1 0 0])),(105,vo 7 0 2 1)],[(2,bx 3 [ci x36]),(1,bx 56 [.own 4 0 2 l35.length]),(4,ro 0 156 2 l35.length (rf qK l35)),(7,ro 0 156 2 1 (rf qK [(Node.mk a2 ((a4.getD x21.toNat du).B))]))]⟩ (opAt (rg f58 33531508) 6) [(2,0),(1,0),(4,0)] [0,0,1] 5 (o1 (ke 1)) (by simp only[tl,rf,show([(Node.mk a2 ((a4.getD x21.toNat du).B))]:List Node).length=1 from rfl]) (TG ([(Node.mk a2 ((a4.getD x21.toNat du).B))]:List Node) x36 l35 v38 h39) (.inr ⟨(by kernel_rfl),SF ([(Node.mk a2 ((a4.getD x21.toNat du).B))]:List Node) x36 l35 v38⟩) (by kernel_rfl))] 7 [16,99] [] [1,2,4] [(1,bx 56 [.own 4 1 2 v38.2.length]),(2,bx 3 [ci v38.1]),(4,ro 1 156 2 v38.2.length (rf qK v38.2))] ?_
          exact q_vu [] 8 [19] [(16,vi (imin (w64 (((a4.getD x21.toNat du).B)+a3)) v17.B))] [5] [] (q_J (imin (w64 (((a4.getD x21.toNat du).B)+a3)) v17.B,x20,v38.2,v38.2.length,v38.1) ⟨rfl,hm⟩)
         ·exact q_vu [] 7 [17,19,99] [(17,vb true)] [5] [] (q_J (x19,true,l35,l35.length,x36) ⟨rfl,hm⟩)
       ·refine s_vv [] 6 [75] [(84,vb (decide (((a4.getD x21.toNat du).A)>x19)))] (q_cq hm (λhm=>?_) (λhm=>?_))
        ·obtain⟨v33,h34,hm⟩:=qC hm
         refine q_vu [qd 8 (drw 6 0 (rf qK [(Node.mk a2 (w64 (((a4.getD x21.toNat du).A)-a3))),(Node.mk 0 0)])) (litP qK du 2 (λ_=>rfl) ([(Node.mk a2 (w64 (((a4.getD x21.toNat du).A)-a3))),(Node.mk 0 0)]:List Node) 2 rfl),qd 9 (dex (cen [(2,0),(1,0),(4,0)] [0,0,1] 4 2 (XP ([(Node.mk a2 (w64 (((a4.getD x21.toNat du).A)-a3))),(Node.mk 0 0)]:List Node) x23 l22 v33) (QO ([(Node.mk a2 (w64 (((a4.getD x21.toNat du).A)-a3))),(Node.mk 0 0)]:List Node) x23 l22 v33) [85,93] [2,1,4,6])) (wO (K:=(kx E 130 0)) (xs':=[.one (.lst 2 (rf qK [(Node.mk a2 (w64 (((a4.getD x21.toNat du).A)-a3))),(Node.mk 0 0)])),.one (.bptr 0 0 0),.one (.bptr 1 0 0)]) (b:=false) ⟨[(85,vc (.fn 117 [.bptr 2 0 0,.bptr 1 0 0])),(93,vo 6 0 2 2)],[(2,bx 3 [ci x23]),(1,bx 56 [.own 4 0 2 l22.length]),(4,ro 0 156 2 l22.length (rf qK l22)),(6,ro 0 156 2 2 (rf qK [(Node.mk a2 (w64 (((a4.getD x21.toNat du).A)-a3))),(Node.mk 0 0)]))]⟩ (opAt (rg f58 8382874) 9) [(2,0),(1,0),(4,0)] [0,0,1] 4 (o1 (ke 2)) (by simp only[tl,rf,show([(Node.mk a2 (w64 (((a4.getD x21.toNat du).A)-a3))),(Node.mk 0 0)]:List Node).length=2 from rfl]) (TG ([(Node.mk a2 (w64 (((a4.getD x21.toNat du).A)-a3))),(Node.mk 0 0)]:List Node) x23 l22 v33 h34) (.inr ⟨(by kernel_rfl),SF ([(Node.mk a2 (w64 (((a4.getD x21.toNat du).A)-a3))),(Node.mk 0 0)]:List Node) x23 l22 v33⟩) (by kernel_rfl))] 6 [84] [] [1,2,4] [(1,bx 56 [.own 4 1 2 v33.2.length]),(2,bx 3 [ci v33.1]),(4,ro 1 156 2 v33.2.length (rf qK v33.2))] ?_
         exact q_J (v33.2,v33.2.length,v33.1) ⟨rfl,hm⟩
        ·exact q_sk (q_J (l22,l22.length,x23) ⟨rfl,hm⟩)
    ·rcases bif_c hm with⟨b27,hm⟩|⟨b27,hm⟩
     ·exact q_vv [qf 1 b27] 6 [52] [(58,vb true)] (q_J (true) hm)
     ·rcases bif_c hm with⟨b28,hm⟩|⟨b28,hm⟩
      ·exact q_vv [qf 1 b27,qf 6 b28] 6 [52] [(58,vb (decide (((a4.getD x21.toNat du).A)<(w64 ((w64 (x19+a3))+1)))))] (q_J (decide (((a4.getD x21.toNat du).A)<(w64 ((w64 (x19+a3))+1)))) hm)
      ·exact q_vv [qf 1 b27,qf 6 b28] 6 [52] [(58,vb false)] (q_J (false) hm)
  ·refine q_ex 0 ?_;obtain rfl:=oi hm;exact L1_mk (x20,l22,x23) (by kernel_rfl) (by kernel_rfl)
theorem qHv (a1:Rect) (a2:Int) (a3:Int) (a4:List Span) (a5:List (List Node)) (r:(List Node)×Int) (hm:WO a1 a2 a3 a4 a5=some r):CtX Tryz.prog globs 58 0 0 [.agg (qR a1),.one (ci a2),.one (ci a3),.one (tl qL du a4),.one (tl (qW qK) du a5)] [] (FJ r) (PC r):=by
 unfold WO at hm;refine q_E f58 130 λE=>?_;refine s_vn [] 0 ⟨[(1,vi a2),(2,vi a3),(3,vc (tl qL du a4)),(4,vc (tl (qW qK) du a5)),(5,vp 0 0)],[(0,bx 55 (qR a1))]⟩ (q_sq ?_);obtain⟨v6,h7,hm⟩:=qC hm;refine s_vv [qc 1 [20] 1 (CG a2 v6 h7)] 1 [] [(22,vb (!v6))] (q_cq hm (λhm=>?_) (λhm=>?_))
 ·refine s_vn [] 1 ⟨[(10,vc (.emp)),(11,vi 10)],[]⟩ (q_fo 10 1 156 2 qK ?_);refine q_fl 10 1 156 2 qK ?_;obtain rfl:=oi hm;exact q_sw 1 0 (q_rt q_rm)
 ·refine q_sk (q_sq ?_);refine q_jn (qNs a1 a2 a3 a4 a5) (λp=>SQ a1 a2 a3 a4 a5 p=some r) ?_ ?_
  ·rintro x12 hm;refine q_cq hm (λhm=>?_) (λhm=>?_)
   ·refine s_vn [] 1 ⟨[(10,vc (.emp)),(11,vi 19)],[]⟩ (q_fo 10 1 156 2 qK ?_);refine q_fl 10 1 156 2 qK ?_;obtain rfl:=oi hm;exact q_sw 1 0 (q_rt q_rm)
   ·refine q_sk (q_sq ?_);refine q_jn (qNt a1 a2 a3 a4 a5) (λp=>SW a1 a2 a3 a4 a5 p=some r) ?_ ?_
    ·rintro x15 hm;refine q_cq hm (λhm=>?_) (λhm=>?_)
     ·refine s_vn [] 1 ⟨[(10,vc (.emp)),(11,vi 9)],[]⟩ (q_fo 10 1 156 2 qK ?_);refine q_fl 10 1 156 2 qK ?_;obtain rfl:=oi hm;exact q_sw 1 0 (q_rt q_rm)
     ·refine q_sk (s_vu [] 1 [38] [(12,vp 1 0)] [] [(1,bx 56 [.emp])] ?_);refine s_vu [] 2 [] [(13,vp 2 0)] [] [(2,bx 3 [ci 0])] (s_va 3 [(14,vc (.fn 117 [.bptr 2 0 0,.bptr 1 0 0]))] ?_);obtain⟨v17,h18,hm⟩:=qC hm;refine s_vu [qc 2 [40,41] 3 (OY a1 a2 v17 h18)] 3 [5] [(15,vp 3 0)] [0] [(3,bx 53 (qL v17))] (s_va 4 [(16,vi v17.A),(17,vb false)] ?_);refine q_sq (s_vv [] 4 [3] [(45,vc (tl qL du a4)),(46,vi (a4.length:Int)),(47,vi 0)] ?_);refine q_fu [.ownB 1 0 4 156 2 (rf qK [])] [] [] [1] [(1,bx 56 [.own 4 0 2 0]),(4,ro 0 156 2 0 (rf qK []))] o0 ?_;obtain⟨u52,h51,hm⟩:=qC hm
      refine zY (nd f58 16372) 0 (by kernel_rfl) FUEL (λo=>qFJ o.1 o.2.1 o.2.2) (λv st=>RetQ Tryz.prog f58 (FJ v) (PC v) .ret st) u52 (q_hl (CM a2 a3 a4 a5 v17 v17.A false 0 ([]:List Node) 0 0) (qL3 E a2 a3 a4 a5 v17 FUEL v17.A false 0 ([]:List Node) 0 0 u52 rfl h51)) ?_ ?_
      ·rintro v53 rfl st hr;obtain rfl:=oi hm;exact hr
      ·rintro o50 rfl;replace hm:_=some r:=hm;refine q_jn (ι:=Int×(List Node)×Nat) (λp=>qFw p.1 p.2.1 p.2.2) (λp=>p.2.1.length=p.2.2/\SR p.1 p.2.1=some r) ?_ ?_
       ·rintro⟨x57,l58,l58n⟩ ⟨el58,hm⟩;replace el58:l58.length=l58n:=el58;subst el58;show H _ (qFw x57 l58 l58.length) _ _;refine q_sq (s_vu [] 6 [13] [(128,vb (decide (x57>127)))] [2] [] ?_);refine q_cq hm (λhm=>?_) (λhm=>?_)
        ·refine s_vn [] 6 ⟨[(10,vc (.emp)),(11,vi 4)],[]⟩ (q_fo 10 6 156 2 qK ?_);refine q_fl 10 6 156 2 qK ?_;obtain rfl:=oi hm;exact q_sw 6 0 (q_rt q_rm)
        ·refine q_sk (s_vu [] 6 [12,128] [(10,vo 4 0 2 l58.length),(11,vi 0)] [1] [] ?_);obtain rfl:=oi hm;exact q_sw 4 0 (q_rt q_rm)
       ·refine s_vv [] 5 [17] [(122,vb (!o50.1))] (q_cq hm (λhm=>?_) (λhm=>?_))
        ·obtain⟨v55,h56,hm⟩:=qC hm
         refine q_vu [qd 2 (drw 5 0 (rf qK [(Node.mk 0 0)])) (litP qK du 2 (λ_=>rfl) ([(Node.mk 0 0)]:List Node) 1 rfl),qd 3 (dex (cen [(2,0),(1,0),(4,0)] [0,0,1] 3 2 (XP ([(Node.mk 0 0)]:List Node) o50.2.2 o50.2.1 v55) (QO ([(Node.mk 0 0)]:List Node) o50.2.2 o50.2.1 v55) [123,125] [2,1,4,5])) (wO (K:=(kx E 130 0)) (xs':=[.one (.lst 1 (rf qK [(Node.mk 0 0)])),.one (.bptr 0 0 0),.one (.bptr 1 0 0)]) (b:=false) ⟨[(123,vc (.fn 117 [.bptr 2 0 0,.bptr 1 0 0])),(125,vo 5 0 2 1)],[(2,bx 3 [ci o50.2.2]),(1,bx 56 [.own 4 0 2 o50.2.1.length]),(4,ro 0 156 2 o50.2.1.length (rf qK o50.2.1)),(5,ro 0 156 2 1 (rf qK [(Node.mk 0 0)]))]⟩ (opAt (rg f58 16378) 3) [(2,0),(1,0),(4,0)] [0,0,1] 3 (o1 (ke 1)) (by simp only[tl,rf,show([(Node.mk 0 0)]:List Node).length=1 from rfl]) (TG ([(Node.mk 0 0)]:List Node) o50.2.2 o50.2.1 v55 h56) (.inr ⟨(by kernel_rfl),SF ([(Node.mk 0 0)]:List Node) o50.2.2 o50.2.1 v55⟩) (by kernel_rfl))] 5 [14,122] [] [1,2,4] [(1,bx 56 [.own 4 1 2 v55.2.length]),(2,bx 3 [ci v55.1]),(4,ro 1 156 2 v55.2.length (rf qK v55.2))] ?_
         exact q_J (v55.1,v55.2,v55.2.length) ⟨rfl,hm⟩
        ·exact q_sk (q_J (o50.2.2,o50.2.1,o50.2.1.length) ⟨rfl,hm⟩)
    ·rcases bif_c hm with⟨b14,hm⟩|⟨b14,hm⟩
     ·exact q_vv [qf 2 b14] 1 [32] [(38,vb true)] (q_J (true) hm)
     ·exact q_vv [qf 2 b14] 1 [32] [(38,vb (decide (a3>20)))] (q_J (decide (a3>20)) hm)
  ·obtain⟨v9,h10,hm⟩:=qC hm;rcases bif_c hm with⟨b11,hm⟩|⟨b11,hm⟩
   ·exact q_vv [qc 1 [23] 1 (HO a1 v9 h10),qf 3 b11] 1 [22] [(32,vb true)] (q_J (true) hm)
   ·exact q_vv [qc 1 [23] 1 (HO a1 v9 h10),qf 3 b11] 1 [22] [(32,vb ((a4.length:Int) !=(a5.length:Int)))] (q_J ((a4.length:Int) !=(a5.length:Int)) hm)
def qWX (r:(List Node)×Int×Int):V:= .tup [.one (.own 0 0 2 r.1.length),.one (ci r.2.1),.one (ci r.2.2)]
def qWf (r:(List Node)×Int×Int):List (Nat×(Nat×O)):=[(0,ro 0 156 2 r.1.length (rf qK r.1))]
def qBY (a4:Rect) (a5:Saw) (v10:(List zV)×Int×Int) (v13:(List Int)×(List Int)) (l15:List Span) (l15n:Nat) (l16:List (List Node)) (l16n:Nat) (x17:Int):St:=
 ⟨[(9,vp 0 0),(10,vp 1 0),(18,vi v10.2.1),(19,vo 9 0 1 v13.1.length),(20,vo 10 0 1 v13.2.length),(21,vo 11 0 2 l15n),(22,vo 12 0 1 l16n),(60,vo 8 0 2 v10.1.length),(61,vi (v10.1.length:Int)),(62,vi x17)],[(0,bx 55 (qR a4)),(1,bx 39 (yK a5)),(8,ro 0 132 2 v10.1.length (rf QF v10.1)),(9,ro 0 3 1 v13.1.length (rf qE v13.1)),(10,ro 0 3 1 v13.2.length (rf qE v13.2)),(11,ro 0 53 2 l15n (rf qL l15)),(12,ro 0 56 1 l16n (rf (qW qK) l16))]⟩
def qHW (a4:Rect) (a5:Saw) (v10:(List zV)×Int×Int) (l27:List Span) (l28:List (List Node)):St:=
 ⟨[(9,vp 0 0),(10,vp 1 0),(18,vi v10.2.1),(21,vo 11 0 2 l27.length),(22,vo 12 0 1 l28.length)],[(0,bx 55 (qR a4)),(1,bx 39 (yK a5)),(11,ro 0 53 2 l27.length (rf qL l27)),(12,ro 0 56 1 l28.length (rf (qW qK) l28))]⟩
theorem qPL (E:Env 0) (a4:Rect) (a5:Saw) (v10:(List zV)×Int×Int) (v13:(List Int)×(List Int)):∀(n:Nat) (l15:List Span) (l15n:Nat) (l16:List (List Node)) (l16n:Nat) (x17:Int) (res:(List Span)×(List (List Node))),l15.length=l15n->l16.length=l16n->RU a4 v10 v13 n l15 l16 x17=some res->HL (kx E 106 0) (nd f111 8180) (zN 0 (λo=>qHW a4 a5 v10 o.1 o.2) res) n (qBY a4 a5 v10 v13 l15 l15n l16 l16n x17):=by
 intro n
 induction n with
 |zero=>
  intro l15 l15n l16 l16n x17 res hl0 hl1 hm;cases hm
 |succ n ih=>
  intro l15 l15n l16 l16n x17 res hl0 hl1 hm;subst hl0;subst hl1;refine qU (s_va 13 [(63,vb (decide (x17<(v10.1.length:Int))))] ?_);refine q_sq (q_cq hm (λhm=>?_) (λhm=>?_))
  ·refine q_sk (q_sq ?_);refine q_bk 1 ?_;obtain⟨g19,hm⟩:=qJ hm;refine s_vu [qi 0 g19,qd 1 dN (qT (zB g19))] 13 [63] [(24,vp 13 0)] [] [(13,bx 132 (QF (v10.1.getD x17.toNat du)))] ?_;obtain⟨g20,hm⟩:=qJ hm;obtain⟨v21,h22,hm⟩:=qC hm;obtain⟨g23,hm⟩:=qJ hm
   refine s_du [qi 9 g20,qd 10 dN (qT (zB g20)),qc 12 [67,69,77] 14 (qFc a4 ((v10.1.getD x17.toNat du).At) (w64 (((v10.1.getD x17.toNat du).At)+(v13.1.getD (((v10.1.getD x17.toNat du).Size).toNat) du))) v21 h22),qd 14 (drw 14 0 (rf qL [v21.X])) (litP qL du 2 (λ_=>rfl) ([v21.X]:List Span) 1 rfl),qd 15 (drw 11 1 (rf qL (l15++[v21.X]))) (apP qL du l15 ([v21.X]:List Span) l15.length 1 2 16 (1<=1) (ke _) rfl rfl (λ_=>rfl) (wB g23))] [0,0,0,4,0,16,0,0,128,448,960,2032,4094,8190,16382,32767,65535] 14 [21] [(21,vo 11 1 2 (l15.length+1))] [11] [(11,ro 1 53 2 (l15.length+1) (rf qL (l15++[v21.X])))] ?_
   obtain⟨g24,hm⟩:=qJ hm;obtain⟨v25,h26,hm⟩:=qC hm
   refine q_vu [qi 4 g24,qd 5 dN (qT (zB g24)),qd 7 (drw 15 0 (rf qK [(Node.mk 1 (v13.2.getD (((v10.1.getD x17.toNat du).Size).toNat) du))])) (litP qK du 2 (λ_=>rfl) ([(Node.mk 1 (v13.2.getD (((v10.1.getD x17.toNat du).Size).toNat) du))]:List Node) 1 rfl),qd 8 (dpr [.len 15 (([(Node.mk 1 (v13.2.getD (((v10.1.getD x17.toNat du).Size).toNat) du))]:List Node).length)] (dex (cen [(12,0),(15,0)] [1,1] 14 0 (qDS l16 ([(Node.mk 1 (v13.2.getD (((v10.1.getD x17.toNat du).Size).toNat) du))]:List Node) v25) (qEd l16 ([(Node.mk 1 (v13.2.getD (((v10.1.getD x17.toNat du).Size).toNat) du))]:List Node) v25) [82,89] [12,15]))) (And.intro (show 1=([(Node.mk 1 (v13.2.getD (((v10.1.getD x17.toNat du).Size).toNat) du))]:List Node).length from rfl) (show 1=([(Node.mk 1 (v13.2.getD (((v10.1.getD x17.toNat du).Size).toNat) du))]:List Node).length from rfl)),qd 8 dN (wO (K:=(kx E 106 0)) ⟨[(82,vo 12 0 1 l16.length),(89,vo 15 0 2 (([(Node.mk 1 (v13.2.getD (((v10.1.getD x17.toNat du).Size).toNat) du))]:List Node).length))],[(12,ro 0 56 1 l16.length (rf (qW qK) l16)),(15,ro 0 156 2 (([(Node.mk 1 (v13.2.getD (((v10.1.getD x17.toNat du).Size).toNat) du))]:List Node).length) (rf qK [(Node.mk 1 (v13.2.getD (((v10.1.getD x17.toNat du).Size).toNat) du))]))]⟩ (opAt (rg f111 523571) 8) [(12,0),(15,0)] [1,1] 14 o0 rfl (qKp l16 ([(Node.mk 1 (v13.2.getD (((v10.1.getD x17.toNat du).Size).toNat) du))]:List Node) v25 h26) (.inl rfl) (by kernel_rfl))] 15 [22,24] [(22,vo 12 1 1 v25.2.length)] [12,13] [(12,ro 1 56 1 v25.2.length (rf (qW qK) v25.2))] ?_
   exact q_vv [] 16 [62] [(62,vi (w64 (x17+1)))] (q_hl (qBY a4 a5 v10 v13 (l15++[v21.X]) (l15.length+1) v25.2 v25.2.length (w64 (x17+1))) (ih (l15++[v21.X]) (l15.length+1) v25.2 v25.2.length (w64 (x17+1)) _ (wC rfl rfl) rfl hm))
  ·refine q_ex 0 ?_;obtain rfl:=oi hm;exact q_l0
theorem qVX (a1:List qO) (a2:List qH) (a3:List qD) (a4:Rect) (a5:Saw) (a6:Rates) (r:(List Node)×Int×Int) (hm:jC a1 a2 a3 a4 a5 a6=some r):CtX Tryz.prog globs 111 0 0 [.one (tl qS du a1),.one (tl qN du a2),.one (tl qM du a3),.agg (qR a4),.agg (yK a5),.agg (wI a6)] [] (qWX r) (qWf r):=by
 unfold jC at hm;refine q_E f111 106 λE=>?_;refine s_vn [] 0 ⟨[(0,vc (tl qS du a1)),(1,vc (tl qN du a2)),(2,vc (tl qM du a3)),(9,vp 0 0),(10,vp 1 0),(11,vp 2 0)],[(0,bx 55 (qR a4)),(1,bx 39 (yK a5)),(2,bx 41 (wI a6))]⟩ ?_;obtain⟨v7,h8,hm⟩:=qC hm
 refine s_vu [qc 6 [27,28,29,30,31,32] 3 (qUw a1 a2 a3 a4 a5 a6 v7 h8)] 3 [0,1,11] [(15,vp 7 0),(16,vi v7.2)] [2] [(3,ro 0 3 1 v7.1.Sizes.length (rf qE v7.1.Sizes)),(4,ro 0 72 1 v7.1.Gain.length (rf (qW qE) v7.1.Gain)),(5,ro 0 3 1 v7.1.Chip.length (rf qE v7.1.Chip)),(6,ro 0 3 1 v7.1.Dust.length (rf qE v7.1.Dust)),(7,bx 123 [ci v7.1.Len,ci v7.1.Kerf,ci v7.1.Pitch,.own 3 0 1 v7.1.Sizes.length,.own 4 0 1 v7.1.Gain.length,.own 5 0 1 v7.1.Chip.length,.own 6 0 1 v7.1.Dust.length])] (q_sq ?_);refine s_va 8 [(37,vb (v7.2 !=0))] (q_cq hm (λhm=>?_) (λhm=>?_))
 ·refine s_vn [] 8 ⟨[(12,vc (.emp)),(13,vi 0),(14,vi v7.2)],[]⟩ (q_fo 12 8 156 2 qK ?_);refine q_fl 12 8 156 2 qK ?_;obtain rfl:=oi hm;exact q_sw 8 0 (q_rt q_rm)
 ·refine q_sk ?_;obtain⟨v10,h11,hm⟩:=qC hm
  refine s_vu [qd 1 (dex (cen [] [] 8 0 (qBN v10) (DB v10) [40] [3,4,5,6])) (wO (K:=(kx E 106 0)) (b:=false) ⟨[(40,va [ci v7.1.Len,ci v7.1.Kerf,ci v7.1.Pitch,.own 3 0 1 v7.1.Sizes.length,.own 4 0 1 v7.1.Gain.length,.own 5 0 1 v7.1.Chip.length,.own 6 0 1 v7.1.Dust.length])],[(3,ro 0 3 1 v7.1.Sizes.length (rf qE v7.1.Sizes)),(4,ro 0 72 1 v7.1.Gain.length (rf (qW qE) v7.1.Gain)),(5,ro 0 3 1 v7.1.Chip.length (rf qE v7.1.Chip)),(6,ro 0 3 1 v7.1.Dust.length (rf qE v7.1.Dust))]⟩ (opAt (rg f111 30) 1) [] [] 8 (o1 (And.intro (ke v7.1.Sizes.length) (And.intro (ke v7.1.Gain.length) (And.intro (ke v7.1.Chip.length) (ke v7.1.Dust.length))))) rfl (qGE (Line.mk v7.1.Len v7.1.Kerf v7.1.Pitch v7.1.Sizes v7.1.Gain v7.1.Chip v7.1.Dust) v10 h11) (.inr ⟨(by kernel_rfl),qHw v10⟩) (by kernel_rfl))] 8 [15,16,37] [(16,vi v10.2.2),(17,vo 8 0 2 v10.1.length),(18,vi v10.2.1)] [3,4,5,6,7] [(8,ro 0 132 2 v10.1.length (rf QF v10.1))] ?_
  refine q_sq (s_va 9 [(46,vb (v10.2.2 !=0))] ?_);refine q_cq hm (λhm=>?_) (λhm=>?_)
  ·refine s_vn [] 9 ⟨[(12,vc (.emp)),(13,vi 0),(14,vi v10.2.2)],[]⟩ (q_fo 12 9 156 2 qK ?_);refine q_fl 12 9 156 2 qK ?_;obtain rfl:=oi hm;exact q_sw 9 0 (q_rt q_rm)
  ·refine q_sk ?_;obtain⟨v13,h14,hm⟩:=qC hm;refine s_vu [qc 8 [49,56] 9 (qJw a3 (w64 (a4.Y.B-a4.Y.A)) v13 h14)] 9 [2,16,46] [(19,vo 9 0 1 v13.1.length),(20,vo 10 0 1 v13.2.length)] [] [(9,ro 0 3 1 v13.1.length (rf qE v13.1)),(10,ro 0 3 1 v13.2.length (rf qE v13.2))] (s_va 11 [(21,vc (.emp))] ?_);refine s_va 11 [(22,vc (.emp))] (q_sq ?_);refine s_vv [] 11 [17] [(60,vo 8 0 2 v10.1.length),(61,vi (v10.1.length:Int)),(62,vi 0)] (q_fo 21 11 53 2 qL ?_);refine q_fo 22 12 56 1 (qW qK) ?_;obtain⟨o29,h30,hm⟩:=qC hm
   refine zI (nd f111 8180) 0 (by kernel_rfl) FUEL (λo=>qHW a4 a5 v10 o.1 o.2) o29 (q_hl (qBY a4 a5 v10 v13 ([]:List Span) 0 ([]:List (List Node)) 0 0) (qPL E a4 a5 v10 v13 FUEL ([]:List Span) 0 ([]:List (List Node)) 0 0 o29 rfl rfl h30)) ?_;obtain⟨v31,h32,hm⟩:=qC hm
   refine s_vn [qd 5 (dex (cen [] [] 13 0 (FJ v31) (PC v31) [93,95,96,97] [11,12])) (wO (K:=(kx E 106 0)) (b:=false) ⟨[(93,va (qR a4)),(95,vi a5.Kerf),(96,vo 11 0 2 o29.1.length),(97,vo 12 0 1 o29.2.length)],[(11,ro 0 53 2 o29.1.length (rf qL o29.1)),(12,ro 0 56 1 o29.2.length (rf (qW qK) o29.2))]⟩ (opAt (rg f111 2046) 5) [] [] 13 (o1 (And.intro (ke o29.1.length) (ke o29.2.length))) rfl (qHv a4 2 a5.Kerf o29.1 o29.2 v31 h32) (.inr ⟨(by kernel_rfl),qJI v31⟩) (by kernel_rfl))] 13 ⟨[(16,vi v31.2),(18,vi v10.2.1),(25,vo 13 0 2 v31.1.length)],[(13,ro 0 156 2 v31.1.length (rf qK v31.1))]⟩ (q_sq ?_)
   refine s_va 14 [(102,vb (v31.2 !=0))] (q_cq hm (λhm=>?_) (λhm=>?_))
   ·refine s_vn [] 14 ⟨[(12,vc (.emp)),(13,vi 0),(14,vi v31.2)],[]⟩ (q_fo 12 14 156 2 qK ?_);refine q_fl 12 14 156 2 qK ?_;obtain rfl:=oi hm;exact q_sw 14 0 (q_rt q_rm)
   ·refine q_sk (s_vv [] 14 [16,18,25,102] [(12,vo 13 0 2 v31.1.length),(13,vi v10.2.1),(14,vi 0)] ?_);obtain rfl:=oi hm;exact q_sw 13 0 (q_rt q_rm)
def qLW (r:Bool):V:=vb r
def qL1 (r:Bool):List (Nat×(Nat×O)):=[]
theorem qLs (a1:Node) (r:Bool) (hm:qAf a1=some r):CtX Tryz.prog globs 177 0 0 [.agg (qK a1)] [] (qLW r) (qL1 r):=by
 unfold qAf at hm;refine q_E f177 6 λE=>?_;refine s_vn [] 0 ⟨[(1,vp 0 0)],[(0,bx 156 (qK a1))]⟩ (s_vn [] 1 ⟨[(2,vb (a1.Kind==1))],[]⟩ ?_);obtain rfl:=oi hm;exact q_rt q_rm
def RX (r:Int):V:=vi r
def TA (r:Int):List (Nat×(Nat×O)):=[]
def XL (a1:List Node) (x2:Int):St:=
 ⟨[(0,vc (tl qK du a1)),(1,vc (.fn 177 [])),(7,vi (a1.length:Int)),(8,vi x2)],[]⟩
def BD :St:=
 ⟨[],[]⟩
theorem qCb (E:Env 0) (a1:List Node):∀(n:Nat) (x2:Int) (res:Int⊕Unit),jL a1 n x2=some res->HL (kx E 19 0) (nd f218 52) (wY 0 (λo=>BD) (λv st=>RetQ Tryz.prog f218 (RX v) (TA v) .ret st) res) n (XL a1 x2):=by
 intro n
 induction n with
 |zero=>
  intro x2 res hm;cases hm
 |succ n ih=>
  intro x2 res hm;refine qU (s_va 0 [(9,vb (decide (x2<(a1.length:Int))))] ?_);refine q_sq (q_cq hm (λhm=>?_) (λhm=>?_))
  ·refine q_sk (q_sq ?_);refine q_bk 1 (s_vv [] 0 [9] [(5,vi x2)] ?_);obtain⟨g4,hm⟩:=qJ hm;obtain⟨v5,h6,hm⟩:=qC hm;refine s_vv [qi 3 g4,qk 5 [11,15] 0 ⟨[(11,vc (.fn 177 [])),(15,va [ci ((a1.getD x2.toNat du).Kind),ci ((a1.getD x2.toNat du).At)])],[]⟩ (qLs (a1.getD x2.toNat du) v5 h6)] 0 [] [(16,vb v5)] (q_cq hm (λhm=>?_) (λhm=>?_))
   ·refine s_vn [] 0 ⟨[(4,vi x2)],[]⟩ ?_;obtain rfl:=oi hm;refine q_rt (zQ x2 ?_);exact q_rm
   ·refine q_sk (q_vv [] 0 [5,8,16] [(8,vi (w64 (x2+1)))] ?_);exact q_hl (XL a1 (w64 (x2+1))) (ih (w64 (x2+1)) _ hm)
  ·refine q_ex 0 ?_;obtain rfl:=oi hm;exact q_l1 ()
theorem qEo (a1:List Node) (r:Int) (hm:XC a1=some r):CtX Tryz.prog globs 218 0 0 [.one (tl qK du a1),.one (.fn 177 [])] [] (RX r) (TA r):=by
 unfold XC at hm;refine q_E f218 19 λE=>?_;refine s_vn [] 0 ⟨[(0,vc (tl qK du a1)),(1,vc (.fn 177 []))],[]⟩ (q_sq ?_);refine s_va 0 [(7,vi (a1.length:Int)),(8,vi 0)] ?_;obtain⟨u10,h9,hm⟩:=qC hm;refine zY (nd f218 52) 0 (by kernel_rfl) FUEL (λo=>BD) (λv st=>RetQ Tryz.prog f218 (RX v) (TA v) .ret st) u10 (q_hl (XL a1 0) (qCb E a1 FUEL 0 u10 h9)) ?_ ?_
 ·rintro v11 rfl st hr;obtain rfl:=oi hm;exact hr
 ·rintro o8 rfl;replace hm:_=some r:=hm;refine s_vn [] 0 ⟨[(4,vi (-1))],[]⟩ ?_;obtain rfl:=oi hm;exact q_rt q_rm
def qDf (r:Bool):V:=vb r
def qDt (r:Bool):List (Nat×(Nat×O)):=[]
theorem qCa (a1:List Node) (r:Bool) (hm:WJ a1=some r):CtX Tryz.prog globs 176 0 0 [.one (tl qK du a1),.one (.fn 177 [])] [] (qDf r) (qDt r):=by
 unfold WJ at hm;refine q_E f176 9 λE=>?_;refine s_vn [] 0 ⟨[(0,vc (tl qK du a1)),(1,vc (.fn 177 []))],[]⟩ ?_;obtain⟨v2,h3,hm⟩:=qC hm;refine s_vn [qc 2 [5,6] 0 (qEo a1 v2 h3)] 0 ⟨[(4,vb (decide (v2≥0)))],[]⟩ ?_;obtain rfl:=oi hm;exact q_rt q_rm
def qGv (r:Bool):V:=vb r
def LY (r:Bool):List (Nat×(Nat×O)):=[]
theorem qQR (r:Bool):QQ (LY r):=by
 intro i k o h;unfold LY at h;cases h
theorem qOw (a1:List Node) (r:Bool) (hm:TR a1=some r):CtX Tryz.prog globs 112 0 0 [.one (tl qK du a1)] [] (qGv r) (LY r):=by
 unfold TR at hm;refine q_E f112 5 λE=>?_;refine s_vn [] 0 ⟨[(0,vc (tl qK du a1))],[]⟩ ?_;obtain⟨v2,h3,hm⟩:=qC hm;refine s_vn [qk 1 [3] 0 ⟨[(3,vc (tl qK du a1))],[]⟩ (qCa a1 v2 h3)] 0 ⟨[(2,vb v2)],[]⟩ ?_;obtain rfl:=oi hm;exact q_rt q_rm
def qS4 (r:Int):V:=vi r
def qS6 (r:Int):List (Nat×(Nat×O)):=[]
theorem qHH (a1:List qO) (a2:Rect) (r:Int) (hm:PO a1 a2=some r):CtX Tryz.prog globs 60 0 0 [.one (tl qS du a1),.agg (qR a2)] [] (qS4 r) (qS6 r):=by
 unfold PO at hm;refine q_E f60 15 λE=>?_;refine s_vn [] 0 ⟨[(0,vc (tl qS du a1)),(3,vp 0 0)],[(0,bx 55 (qR a2))]⟩ ?_;obtain⟨v3,h4,hm⟩:=qC hm;obtain⟨v5,h6,hm⟩:=qC hm;refine s_dn [qc 6 [10] 1 (LZ a1 v3 h4),qc 9 [5,13] 1 (qGO a1 (Box.mk a2.X a2.Y (Span.mk 0 v3)) v5 h6)] [0,0,2,0,8,0,32,96,254,511,1023] 1 ⟨[(4,vi v5)],[]⟩ ?_;obtain rfl:=oi hm;exact q_rt q_rm
open Go.Proofs
def qDa (a1:List Int) (r:List Int):V:= .undef
def qCU (a1:List Int) (r:List Int):List (Nat×(Nat×O)):=[(0,ro 0 3 1 r.length (rf qE r))]
theorem lfA {α:Type} {o:Option α} {a b:α} (h:o=some a) (e:a=b:=by kernel_rfl):o=some b:=h.trans (congrArg some e)
def slices_Sort_Si64_lay_ren :Go.Shelf.Ren:=⟨fun |189=>170|125=>213|257=>212|128=>247|129=>248|294=>238|295=>239|296=>240|297=>241|298=>242|299=>243|216=>244|300=>245|301=>246|328=>258|329=>259|330=>260|331=>261|332=>262|215=>254|343=>277|n=>n,fun |28=>72|3=>3|46=>246|0=>0|51=>267|53=>161|4=>4|183=>260|182=>259|131=>221|5=>5|9=>9|218=>274|222=>278|228=>294|229=>107|n=>n,fun n=>n⟩
theorem slices_Sort_Si64_lay : Go.Proofs.Lays.n189 Tryz.prog slices_Sort_Si64_lay_ren :={mixed:=by kernel_rfl,f125:=lfA Tryz.func213,f128:=lfA Tryz.func247,f129:=lfA Tryz.func248,f189:=lfA Tryz.func170,f215:=lfA Tryz.func254,f216:=lfA Tryz.func244,f257:=lfA Tryz.func212,f294:=lfA Tryz.func238,f295:=lfA Tryz.func239,f296:=lfA Tryz.func240,f297:=lfA Tryz.func241,f298:=lfA Tryz.func242,f299:=lfA Tryz.func243,f300:=lfA Tryz.func245,f301:=lfA Tryz.func246,f328:=lfA Tryz.func258,f329:=lfA Tryz.func259,f330:=lfA Tryz.func260,f331:=lfA Tryz.func261,f332:=lfA Tryz.func262,f343:=lfA Tryz.func277,t0:=Tryz.underlying0,a0:=Tryz.isAgg0,z0:=Tryz.sizeOf0,v0:=Tryz.zeroValue0,t3:=Tryz.underlying3,a3:=Tryz.isAgg3,z3:=Tryz.sizeOf3,v3:=Tryz.zeroValue3,t4:=Tryz.underlying4,a4:=Tryz.isAgg4,z4:=Tryz.sizeOf4,v4:=Tryz.zeroValue4,t5:=Tryz.underlying5,a5:=Tryz.isAgg5,z5:=Tryz.sizeOf5,v5:=Tryz.zeroValue5,t9:=Tryz.underlying9,a9:=Tryz.isAgg9,z9:=Tryz.sizeOf9,v9:=Tryz.zeroValue9,t28:=Tryz.underlying72,a28:=Tryz.isAgg72,z28:=Tryz.sizeOf72,v28:=Tryz.zeroValue72,t46:=Tryz.underlying246,a46:=Tryz.isAgg246,z46:=Tryz.sizeOf246,v46:=Tryz.zeroValue246,t51:=Tryz.underlying267,a51:=Tryz.isAgg267,z51:=Tryz.sizeOf267,v51:=Tryz.zeroValue267,t53:=Tryz.underlying161,a53:=Tryz.isAgg161,z53:=Tryz.sizeOf161,v53:=Tryz.zeroValue161,t131:=Tryz.underlying221,a131:=Tryz.isAgg221,z131:=Tryz.sizeOf221,v131:=Tryz.zeroValue221,t182:=Tryz.underlying259,a182:=Tryz.isAgg259,z182:=Tryz.sizeOf259,v182:=Tryz.zeroValue259,t183:=Tryz.underlying260,a183:=Tryz.isAgg260,z183:=Tryz.sizeOf260,v183:=Tryz.zeroValue260,t218:=Tryz.underlying274,a218:=Tryz.isAgg274,z218:=Tryz.sizeOf274,v218:=Tryz.zeroValue274,t222:=Tryz.underlying278,a222:=Tryz.isAgg278,z222:=Tryz.sizeOf278,v222:=Tryz.zeroValue278,t228:=Tryz.underlying294,a228:=Tryz.isAgg294,z228:=Tryz.sizeOf294,v228:=Tryz.zeroValue294,t229:=Tryz.underlying107,a229:=Tryz.isAgg107,z229:=Tryz.sizeOf107,v229:=Tryz.zeroValue107}
theorem qJZ (a1:List Int) (r:List Int) (hm:NI a1=some r):CtX Tryz.prog globs 170 1 1 [.one (.own 0 0 1 a1.length)] [(0,ro 0 3 1 a1.length (rf qE a1))] (qDa a1 r) (qCU a1 r):=by
 unfold NI at hm;obtain⟨g1,hm⟩:=qJ hm;obtain rfl:=oi hm;exact qZe (gl:=globs) slices_Sort_Si64_lay 3 a1 (by simpa using g1)
def KD (a1:List Int) (r:(List Int)×(List Int)):V:=vo 0 0 1 r.2.length
def XW (a1:List Int) (r:(List Int)×(List Int)):List (Nat×(Nat×O)):=[(0,ro 0 3 1 r.2.length (rf qE r.2))]
def MT (l3:List Int) (x4:Int) (x12:Int) (l19:List Int) (l19n:Nat) (x20:Int):St:=
 ⟨[(0,vo 0 0 1 l19n),(3,vi x20),(4,vc (.sub 0 0 1 x4.toNat (l3.length-x4.toNat))),(5,vi x12)],[(0,ro 0 3 1 l19n (rf qE l19))]⟩
def RL (l3:List Int) (x4:Int) (l10:List Int) (l10n:Nat) (x11:Int) (x12:Int):St:=
 ⟨[(0,vo 0 0 1 l10n),(3,vi x11),(4,vc (.sub 0 0 1 x4.toNat (l3.length-x4.toNat))),(5,vi x12)],[(0,ro 0 3 1 l10n (rf qE l10))]⟩
def MY (l21:List Int) (x22:Int):St:=
 ⟨[(0,vo 0 0 1 l21.length),(3,vi x22)],[(0,ro 0 3 1 l21.length (rf qE l21))]⟩
def RM (l3:List Int) (l3n:Nat) (x4:Int):St:=
 ⟨[(0,vo 0 0 1 l3n),(3,vi x4)],[(0,ro 0 3 1 l3n (rf qE l3))]⟩
def MH (l27:List Int):St:=
 ⟨[(0,vo 0 0 1 l27.length)],[(0,ro 0 3 1 l27.length (rf qE l27))]⟩
theorem qEq (E:Env 1) (l3:List Int) (x4:Int):∀(n:Nat) (l10:List Int) (l10n:Nat) (x11:Int) (x12:Int) (res:(List Int)×Int),l10.length=l10n->jB l3 x4 n l10 x11 x12=some res->HL (kx E 61 1) (nd f171 119380) (zN 2 (λo=>MY o.1 o.2) res) n (RL l3 x4 l10 l10n x11 x12):=by
 intro n
 induction n with
 |zero=>
  intro l10 l10n x11 x12 res hl0 hm;cases hm
 |succ n ih=>
  intro l10 l10n x11 x12 res hl0 hm;subst hl0;refine qU (q_sq ?_);refine s_va 1 [(32,vb (decide (x12<(((l3.length-x4.toNat):Nat):Int))))] (q_cq hm (λhm=>?_) (λhm=>?_))
  ·refine q_sk (q_jn (ι:=(List Int)×Nat×Int) (λp=>MT l3 x4 x12 p.1 p.2.1 p.2.2) (λp=>p.1.length=p.2.1/\VT x12 (jB l3 x4 n) p.1 p.2.2=some res) ?_ ?_)
   ·rintro⟨l19,l19n,x20⟩ ⟨el19,hm⟩;replace el19:l19.length=l19n:=el19;subst el19;show H _ (MT l3 x4 x12 l19 l19.length x20) _ _;exact q_vv [] 1 [5] [(5,vi (w64 (x12+1)))] (q_hl (RL l3 x4 l19 l19.length x20 (w64 (x12+1))) (ih l19 l19.length x20 (w64 (x12+1)) _ rfl hm))
   ·refine q_bk 3 ?_;obtain⟨g14,hm⟩:=qJ hm;obtain⟨g15,hm⟩:=qJ hm;obtain⟨g16,hm⟩:=qJ hm;refine s_du [qi 2 g14,qd 3 dN (um (uT (qT (zB g14)) x4.toNat) (kL g15)),qi 7 g16,qd 8 dN (um (uT (qT (zB g16)) x4.toNat) (kL g15))] [0,0,3,7,0,0,32,112,240,511] 1 [32] [(44,vb ((l10.getD (x4.toNat+x12.toNat) du) !=(l10.getD (x4.toNat+((w64 (x12-1)).toNat)) du)))] [] [] (q_cq hm (λhm=>?_) (λhm=>?_))
    ·obtain⟨g18,hm⟩:=qJ hm;refine s_vu [qi 4 g14,qd 5 dN (um (uT (qT (zB g14)) x4.toNat) (kL g15)),qi 6 g18,qd 7 (drw 0 0 (rf qE (l10.set x11.toNat (l10.getD (x4.toNat+x12.toNat) du)))) (stP qE du (l10.getD (x4.toNat+x12.toNat) du) l10 l10.length x11.toNat 0 [ci (l10.getD (x4.toNat+x12.toNat) du)] rfl (qT (zB g18)) rfl)] 1 [44] [] [0] [(0,ro 0 3 1 l10.length (rf qE (l10.set x11.toNat (l10.getD (x4.toNat+x12.toNat) du))))] (q_vv [] 1 [3] [(3,vi (w64 (x11+1)))] ?_);exact q_J ((l10.set x11.toNat (l10.getD (x4.toNat+x12.toNat) du)),l10.length,w64 (x11+1)) ⟨(QE rfl),hm⟩
    ·exact q_sk (q_J (l10,l10.length,x11) ⟨rfl,hm⟩)
  ·refine q_ex 2 ?_;obtain rfl:=oi hm;exact q_l0
theorem qEB (E:Env 1) (a1:List Int):∀(n:Nat) (l3:List Int) (l3n:Nat) (x4:Int) (res:((List Int)×(List Int))⊕(List Int)),l3.length=l3n->yW n l3 x4=some res->HL (kx E 61 1) (nd f171 116) (wY 0 MH (λv st=>RetQ Tryz.prog f171 (KD a1 v) (XW a1 v) .ret st) res) n (RM l3 l3n x4):=by
 intro n
 induction n with
 |zero=>
  intro l3 l3n x4 res hl0 hm;cases hm
 |succ n ih=>
  intro l3 l3n x4 res hl0 hm;subst hl0;refine qU (q_sq ?_);refine s_va 1 [(13,vb (decide (x4<(l3.length:Int))))] (q_cq hm (λhm=>?_) (λhm=>?_))
  ·refine q_sk (q_sq ?_);refine q_bk 1 ?_;obtain⟨g6,hm⟩:=qJ hm;obtain⟨g7,hm⟩:=qJ hm;refine s_du [qi 2 g6,qd 3 dN (qT (zB g6)),qi 7 g7,qd 8 dN (qT (zB g7))] [0,0,3,7,0,0,32,112,240,511] 1 [13] [(25,vb ((l3.getD x4.toNat du)==(l3.getD ((w64 (x4-1)).toNat) du)))] [] [] (q_cq hm (λhm=>?_) (λhm=>?_))
   ·obtain⟨g9,hm⟩:=qJ hm;refine s_vv [qd 2 dN (And.intro (zP g9).1 (zP g9).2.1)] 1 [25] [(4,vc (.sub 0 0 1 x4.toNat (l3.length-x4.toNat)))] (q_sq ?_);refine s_va 1 [(5,vi 1)] ?_;obtain⟨o23,h24,hm⟩:=qC hm;refine zI (nd f171 119380) 2 (by kernel_rfl) FUEL (λo=>MY o.1 o.2) o23 (q_hl (RL l3 x4 l3 l3.length x4 1) (qEq E l3 x4 FUEL l3 l3.length x4 1 o23 rfl h24)) ?_;obtain⟨g25,hm⟩:=qJ hm
    refine s_wu [qd 2 dN (And.intro (zP g25).1 (zP g25).2.1),qd 3 (drw 0 0 (rf qE o23.1)) (show o23.2.toNat+(o23.1.length-o23.2.toNat)<=o23.1.length by have:=(zP g25);omega)] [.row 0 o23.2.toNat (rf qE (o23.1.take o23.2.toNat))] (o1 (tkP qE du o23.1 o23.2.toNat o23.2.toNat (ke _))) 1 [] [] [0] [(0,ro 0 3 1 o23.2.toNat (rf qE (o23.1.take o23.2.toNat)))] ?_;obtain⟨g26,hm⟩:=qJ hm
    refine s_vv [qd 2 dN (And.intro (zP g26).2.1 (zP g26).2.2)] 1 [0,3] [(2,vo 0 0 1 o23.2.toNat)] (q_fn [.len 0 ((o23.1.take o23.2.toNat).length)] ⟨[(2,vo 0 0 1 ((o23.1.take o23.2.toNat).length))],[(0,ro 0 3 1 ((o23.1.take o23.2.toNat).length) (rf qE (o23.1.take o23.2.toNat)))]⟩ (o1 (And.intro (Eq.symm (show(o23.1.take o23.2.toNat).length=o23.2.toNat from(WQ rfl (uu (gp _ _) (show o23.2.toNat+(o23.1.length-o23.2.toNat)<=o23.1.length by have:=(zP g25);omega))))) (Eq.symm (show(o23.1.take o23.2.toNat).length=o23.2.toNat from(WQ rfl (uu (gp _ _) (show o23.2.toNat+(o23.1.length-o23.2.toNat)<=o23.1.length by have:=(zP g25);omega))))))) ?_)
    obtain rfl:=oi hm;refine q_rt (zQ ((o23.1.take o23.2.toNat),(o23.1.take o23.2.toNat)) ?_);exact q_rm
   ·refine q_sk (q_vv [] 1 [3,25] [(3,vi (w64 (x4+1)))] ?_);exact q_hl (RM l3 l3.length (w64 (x4+1))) (ih l3 l3.length (w64 (x4+1)) _ rfl hm)
  ·refine q_ex 0 ?_;obtain rfl:=oi hm;exact q_l1 l3
theorem qG1 (a1:List Int) (r:(List Int)×(List Int)) (hm:YD a1=some r):CtX Tryz.prog globs 171 1 1 [.one (.own 0 0 1 a1.length)] [(0,ro 0 3 1 a1.length (rf qE a1))] (KD a1 r) (XW a1 r):=by
 unfold YD at hm;refine q_E f171 61 λE=>?_;refine s_vn [] 1 ⟨[(0,vo 0 0 1 a1.length)],[(0,ro 0 3 1 a1.length (rf qE a1))]⟩ (q_sq ?_);refine s_va 1 [(8,vb (decide ((a1.length:Int)<2)))] (q_cq hm (λhm=>?_) (λhm=>?_))
 ·refine s_vv [] 1 [0,8] [(2,vo 0 0 1 a1.length)] ?_;obtain rfl:=oi hm;exact q_rt q_rm
 ·refine q_sk (q_sq ?_);refine s_vv [] 1 [8] [(3,vi 1)] ?_;obtain⟨u30,h29,hm⟩:=qC hm;refine zY (nd f171 116) 0 (by kernel_rfl) FUEL MH (λv st=>RetQ Tryz.prog f171 (KD a1 v) (XW a1 v) .ret st) u30 (q_hl (RM a1 a1.length 1) (qEB E a1 FUEL a1 a1.length 1 u30 rfl h29)) ?_ ?_
  ·rintro v31 rfl st hr;obtain rfl:=oi hm;exact hr
  ·rintro o28 rfl;replace hm:_=some r:=hm;refine s_vv [] 1 [0] [(2,vo 0 0 1 o28.length)] ?_;obtain rfl:=oi hm;exact q_rt q_rm
def qRq (r:(List Int)):V:=vo 0 0 1 r.length
def qRr (r:(List Int)):List (Nat×(Nat×O)):=[(0,ro 0 3 1 r.length (rf qE r))]
def AJ (a1:List qD) (l5:List Int) (l5n:Nat) (x6:Int):St:=
 ⟨[(3,vo 0 0 1 l5n),(11,vc (tl qM du a1)),(12,vi (a1.length:Int)),(13,vi x6)],[(0,ro 0 3 1 l5n (rf qE l5))]⟩
def qEa (l12:List Int):St:=
 ⟨[(3,vo 0 0 1 l12.length)],[(0,ro 0 3 1 l12.length (rf qE l12))]⟩
theorem qKL (E:Env 0) (a1:List qD):∀(n:Nat) (l5:List Int) (l5n:Nat) (x6:Int) (res:(List Int)),l5.length=l5n->KK a1 n l5 x6=some res->HL (kx E 32 0) (nd f110 244) (zN 0 qEa res) n (AJ a1 l5 l5n x6):=by
 intro n
 induction n with
 |zero=>
  intro l5 l5n x6 res hl0 hm;cases hm
 |succ n ih=>
  intro l5 l5n x6 res hl0 hm;subst hl0;refine qU (s_va 1 [(14,vb (decide (x6<(a1.length:Int))))] ?_);refine q_sq (q_cq hm (λhm=>?_) (λhm=>?_))
  ·refine q_sk (q_sq ?_);refine q_bk 1 ?_;obtain⟨g8,hm⟩:=qJ hm;refine s_vu [qi 0 g8] 1 [14] [(5,vp 1 0)] [] [(1,bx 74 (qM (a1.getD x6.toNat du)))] ?_;obtain⟨v9,h10,hm⟩:=qC hm;refine s_vu [qc 1 [18] 2 (RS (a1.getD x6.toNat du) v9 h10)] 2 [5] [(6,vi v9.1),(7,vi v9.2)] [1] [] ?_;obtain⟨g11,hm⟩:=qJ hm
   refine q_vu [qd 3 (drw 2 0 (rf qE [v9.1,v9.2])) (litP qE du 1 (λ_=>rfl) ([v9.1,v9.2]:List Int) 2 rfl),qd 4 (drw 0 1 (rf qE (l5++[v9.1,v9.2]))) (apP qE du l5 ([v9.1,v9.2]:List Int) l5.length 2 1 8 (2<=2) (ke _) rfl rfl (λ_=>rfl) (wB g11))] 2 [3,6,7] [(3,vo 0 1 1 (l5.length+2))] [0] [(0,ro 1 3 1 (l5.length+2) (rf qE (l5++[v9.1,v9.2])))] (q_vv [] 3 [13] [(13,vi (w64 (x6+1)))] ?_);exact q_hl (AJ a1 (l5++[v9.1,v9.2]) (l5.length+2) (w64 (x6+1))) (ih (l5++[v9.1,v9.2]) (l5.length+2) (w64 (x6+1)) _ (wC rfl rfl) hm)
  ·refine q_ex 0 ?_;obtain rfl:=oi hm;exact q_l0
theorem qPq (a1:List qD) (r:(List Int)) (hm:DM a1=some r):CtX Tryz.prog globs 110 0 0 [.one (tl qM du a1)] [] (qRq r) (qRr r):=by
 unfold DM at hm;refine q_E f110 32 λE=>?_;refine s_vn [] 0 ⟨[(0,vc (tl qM du a1))],[]⟩ (q_sq ?_);obtain⟨v2,h3,hm⟩:=qC hm;refine s_vv [qc 1 [8] 0 (YU a1 v2 h3)] 0 [] [(10,vb (v2 !=0))] (q_cq hm (λhm=>?_) (λhm=>?_))
 ·refine s_vn [] 0 ⟨[(2,vc (.emp))],[]⟩ (q_fn [.own 2 0 3 1 (rf qE [])] ⟨[(2,vo 0 0 1 0)],[(0,ro 0 3 1 0 (rf qE []))]⟩ o0 ?_);refine q_fn [.len 0 (([]:List Int).length)] ⟨[(2,vo 0 0 1 (([]:List Int).length))],[(0,ro 0 3 1 (([]:List Int).length) (rf qE []))]⟩ (o1 (And.intro (show 0=([]:List Int).length from rfl) (show 0=([]:List Int).length from rfl))) ?_;obtain rfl:=oi hm;exact q_rt q_rm
 ·refine q_sk (s_vv [] 0 [10] [(3,vc (.emp))] ?_);refine q_sq (s_vv [] 0 [0] [(11,vc (tl qM du a1)),(12,vi (a1.length:Int)),(13,vi 0)] ?_);refine q_fo 3 0 3 1 qE ?_;obtain⟨o13,h14,hm⟩:=qC hm;refine zI (nd f110 244) 0 (by kernel_rfl) FUEL qEa o13 (q_hl (AJ a1 ([]:List Int) 0 0) (qKL E a1 FUEL ([]:List Int) 0 0 o13 rfl h14)) ?_;obtain⟨v15,h16,hm⟩:=qC hm;obtain⟨g17,hm⟩:=qJ hm
  refine s_wu [qd 1 (dex (cen [(0,0)] [0] 0 1 (qDa o13 v15) (qCU o13 v15) [28] [0])) (wO (K:=(kx E 32 0)) ⟨[(28,vo 0 0 1 o13.length)],[(0,ro 0 3 1 o13.length (rf qE o13))]⟩ (opAt (rg f110 62) 1) [(0,0)] [0] 0 o0 rfl (qJZ o13 v15 h16) (.inl rfl) (by kernel_rfl))] [.len 0 o13.length] (o1 (And.intro (And.intro (Eq.refl o13.length) (Eq.refl o13.length)) (And.intro (ID g17) (Eq.refl o13.length)))) 1 [] [] [0] [(0,ro 0 3 1 o13.length (rf qE v15))] ?_;obtain⟨v18,h19,hm⟩:=qC hm
  refine s_vn [qd 1 (dpr [.len 0 v15.length] (dex (cen [(0,0)] [0] 0 1 (KD v15 v18) (XW v15 v18) [30] [0]))) (And.intro (And.intro (Eq.symm (show v15.length=o13.length from(ID g17))) (Eq.symm (show v15.length=o13.length from(ID g17)))) (Eq.symm (show v15.length=o13.length from(ID g17)))),qd 1 dN (wO (K:=(kx E 32 0)) ⟨[(30,vo 0 0 1 v15.length)],[(0,ro 0 3 1 v15.length (rf qE v15))]⟩ (opAt (rg f110 126) 1) [(0,0)] [0] 0 o0 rfl (qG1 v15 v18 h19) (.inl rfl) (by kernel_rfl))] 1 ⟨[(2,vo 0 0 1 v18.2.length)],[(0,ro 0 3 1 v18.2.length (rf qE v18.2))]⟩ ?_;obtain rfl:=oi hm;exact q_rt q_rm
end Saw
end Go.SL

import Derived.Test.YthbamnkheinbgaaGreatDoorSBase
import Derived.Test.YthbamnkheinbgaaGreatDoorSFa1
import Derived.Test.YthbamnkheinbgaaGreatDoorSLlaw15whole
import Derived.Test.YthbamnkheinbgaaGreatDoorSLs
import Derived.Test.YthbamnkheinbgaaGreatDoorSFa8
import Derived.Test.YthbamnkheinbgaaGreatDoorSFa5
import Derived.Test.YthbamnkheinbgaaGreatDoorSFa2
import Derived.Test.YthbamnkheinbgaaGreatDoorSFa7
set_option linter.unusedVariables false
set_option linter.unusedSimpArgs false
namespace Go.SL
namespace Saw
open Go.Proofs Go.Proofs.Tryz
set_option maxHeartbeats 4000000
set_option maxRecDepth 100000
def UR (r:Bool):V:=vb r
def UL (r:Bool):List (Nat×(Nat×O)):=[]
def JR (v24:(List qT)×Int) (v28:(List qT)×Int):St:=
 ⟨[(4,vo 6 0 3 v24.1.length),(6,vo 9 0 3 v28.1.length)],[(6,ro 0 50 3 v24.1.length (rf zB v24.1)),(9,ro 0 50 3 v28.1.length (rf zB v28.1))]⟩
def qCI (v24:(List qT)×Int) (v28:(List qT)×Int) (x33:Int) (x44:Bool):St:=
 (JR v24 v28).up [] [(8,vi x33),(78,vb x44)] [] []
def KB (v24:(List qT)×Int) (v28:(List qT)×Int) (x33:Int):St:=
 (JR v24 v28).up [] [(8,vi x33)] [] []
def NW :St:=
 ⟨[],[]⟩
def qCo (v24:(List qT)×Int) (v28:(List qT)×Int) (x31:Bool):St:=
 (JR v24 v28).up [] [(45,vb x31)] [] []
def qCO (a1:Scan) (x22:Bool):St:=
 ⟨[(1,vp 0 0),(24,vb x22)],[(0,bx 25 (qX a1))]⟩
theorem qBM (E:Env 0) (v24:(List qT)×Int) (v28:(List qT)×Int):∀(n:Nat) (x33:Int) (res:Bool⊕Unit),zP v24 v28 n x33=some res->HL (kx E 80 0) (nd f11 4084) (jS 0 (λo=>NW) (λv st=>RetQ Tryz.prog f11 (UR v) (UL v) .ret st) res) n (KB v24 v28 x33):=by
 intro n
 induction n with
 |zero=>
  intro x33 res hm;cases hm
 |succ n ih=>
  intro x33 res hm;refine qS (q_sq ?_);refine s_va 10 [(49,vb (decide (x33<(v24.1.length:Int))))] (q_cq hm (λhm=>?_) (λhm=>?_))
  ·refine q_sk (q_sq ?_);refine q_bk 1 (q_jn (qCI v24 v28 x33) (λp=>JP x33 (zP v24 v28 n) p=some res) ?_ ?_)
   ·rintro x44 hm;refine q_cq hm (λhm=>?_) (λhm=>?_)
    ·refine s_vn [] 12 ⟨[(2,vb false)],[]⟩ ?_;obtain rfl:=oi hm;refine q_rt (zZ false ?_);exact q_rm
    ·refine q_sk (q_vv [] 12 [8,78] [(8,vi (w64 (x33+1)))] ?_);exact q_hl (KB v24 v28 (w64 (x33+1))) (ih (w64 (x33+1)) _ hm)
   ·obtain⟨g35,hm⟩:=qK hm;obtain⟨g36,hm⟩:=qK hm;rcases bif_c hm with⟨b37,hm⟩|⟨b37,hm⟩
    ·exact q_du [qi 2 g35,qd 4 dN (qW (zG g35)),qi 7 g36,qd 9 dN (qW (zG g36)),qf 11 b37] [0,0,3,7,15,0,0,96,224,480,1023,2047,4095,4095,16383,32767,65535,131071,262143,4095,4095,1576959,3674111,7868415,16777215,33554431,67108863] 10 [49] [(78,vb true)] [] [] (q_J (true) hm)
    ·obtain⟨v38,h39,hm⟩:=qE hm;obtain⟨v40,h41,hm⟩:=qE hm;obtain⟨v42,h43,hm⟩:=qE hm
     refine q_du [qi 2 g35,qd 4 dN (qW (zG g35)),qi 7 g36,qd 9 dN (qW (zG g36)),qf 11 b37,qi 14 g35,qd 16 dN (qW (zG g35)),qk 17 [63,68] 10 ⟨[(63,vb false),(68,va [ci (((v24.1.getD x33.toNat dd).Sec).Low),tl qG dd (((v24.1.getD x33.toNat dd).Sec).Rows)])],[]⟩ (qFY ((v24.1.getD x33.toNat dd).Sec) v38 h39),qd 18 (dex (cen [] [] 11 0 (qCl v40) (VN v40) [63,69] [10])) (zK (K:=(kx E 80 0)) (b:=false) ⟨[(63,vb false),(69,va [ci v38.Low,.own 10 0 2 v38.Rows.length])],[(10,ro 0 64 2 v38.Rows.length (rf qG v38.Rows))]⟩ (opAt (rg f11 65352) 18) [] [] 11 (o1 (kr v38.Rows.length)) rfl (qIB (qB.mk v38.Low v38.Rows) v40 h41) (.inr ⟨(by kernel_rfl),qIY v40⟩) (by kernel_rfl)),qi 21 g36,qd 23 dN (qW (zG g36)),qd 24 (dex (cen [] [] 12 0 (qA0 v42) (TM v42) [63,70,75] [11])) (zK (K:=(kx E 80 0)) (b:=false) ⟨[(63,vb false),(70,va [ci v40.Low,.own 11 0 2 v40.Rows.length]),(75,va [ci (((v28.1.getD x33.toNat dd).Sec).Low),tl qG dd (((v28.1.getD x33.toNat dd).Sec).Rows)])],[(11,ro 0 64 2 v40.Rows.length (rf qG v40.Rows))]⟩ (opAt (rg f11 65352) 24) [] [] 12 (o1 (kr v40.Rows.length)) rfl (qGF (qB.mk v40.Low v40.Rows) ((v28.1.getD x33.toNat dd).Sec) v42 h43) (.inr ⟨(by kernel_rfl),qIo v42⟩) (by kernel_rfl))] [0,0,3,7,15,0,0,96,224,480,1023,2047,4095,4095,16383,32767,65535,131071,262143,4095,4095,1576959,3674111,7868415,16777215,33554431,67108863] 10 [49] [(78,vb (!v42))] [] [] ?_
     exact q_J (!v42) hm
  ·refine q_ex 0 ?_;obtain rfl:=oi hm;exact q_l1 ()
theorem qEe (a1:Scan) (r:Bool) (hm:JC a1=some r):CtX Tryz.prog globs 11 0 0 [.agg (qX a1)] [] (UR r) (UL r):=by
 unfold JC at hm;refine q_E f11 80 λE=>?_;refine s_vn [] 0 ⟨[(1,vp 0 0)],[(0,bx 25 (qX a1))]⟩ (q_sq ?_);obtain⟨v2,h3,hm⟩:=qE hm;refine s_vv [qc 1 [9] 1 (qIX a1 v2 h3)] 1 [] [(11,vb (!v2))] (q_cq hm (λhm=>?_) (λhm=>?_))
 ·obtain⟨v5,h6,hm⟩:=qE hm;refine s_vn [qc 0 [] 1 (qCD v5 h6)] 1 ⟨[(2,vb v5)],[]⟩ ?_;obtain rfl:=oi hm;exact q_rt q_rm
 ·refine q_sk ?_;obtain⟨v7,h8,hm⟩:=qE hm;refine s_vu [qk 1 [13] 1 ⟨[(13,va (qX a1))],[]⟩ (qAw a1 1 v7 h8)] 1 [11] [(3,vp 3 0)] [] [(1,ro 0 45 2 v7.Rings.length (rf qM v7.Rings)),(2,ro 0 68 7 v7.Defects.length (rf qJ v7.Defects)),(3,bx 25 [.own 1 0 2 v7.Rings.length,.own 2 0 7 v7.Defects.length])] (q_sq ?_);refine q_jn (qCO a1) (λp=>JL a1 p=some r) ?_ ?_
  ·rintro x22 hm;refine q_cq hm (λhm=>?_) (λhm=>?_)
   ·refine s_vn [] 6 ⟨[(2,vb false)],[]⟩ ?_;obtain rfl:=oi hm;exact q_rt q_rm
   ·refine q_sk ?_;obtain⟨v24,h25,hm⟩:=qE hm;refine s_vu [qk 1 [26] 6 ⟨[(26,va (qX a1))],[]⟩ (IM a1 (-1) 0 v24 h25)] 6 [24] [(4,vo 6 0 3 v24.1.length),(5,vi v24.2)] [] [(6,ro 0 50 3 v24.1.length (rf zB v24.1))] ?_;obtain⟨v26,h27,hm⟩:=qE hm;obtain⟨v28,h29,hm⟩:=qE hm
    refine s_vu [qk 1 [31] 7 ⟨[(31,va (qX a1))],[]⟩ (qAw a1 2 v26 h27),qd 2 (dpr [.frz 7,.frz 8] (dex (cen [] [] 9 0 (XS v28) (KL v28) [32] []))) (And.intro (kr v26.Rings.length) (kr v26.Defects.length)),qd 2 dN (zK (K:=(kx E 80 0)) ⟨[(32,va (qX v26))],[]⟩ (opAt (rg f11 126) 2) [] [] 9 o0 rfl (IM v26 (-1) 0 v28 h29) (.inl rfl) (by kernel_rfl))] 7 [1] [(6,vo 9 0 3 v28.1.length),(7,vi v28.2)] [0] [(9,ro 0 50 3 v28.1.length (rf zB v28.1))] (q_sq ?_);refine q_jn (qCo v24 v28) (λp=>jP v24 v28 p=some r) ?_ ?_
    ·rintro x31 hm;refine q_cq hm (λhm=>?_) (λhm=>?_)
     ·refine s_vn [] 10 ⟨[(2,vb false)],[]⟩ ?_;obtain rfl:=oi hm;exact q_rt q_rm
     ·refine q_sk (q_sq ?_);refine s_vv [] 10 [45] [(8,vi 0)] ?_;obtain⟨u48,h47,hm⟩:=qE hm;refine wJ (nd f11 4084) 0 (by kernel_rfl) FUEL (λo=>NW) (λv st=>RetQ Tryz.prog f11 (UR v) (UL v) .ret st) u48 (q_hl (KB v24 v28 0) (qBM E v24 v28 FUEL 0 u48 h47)) ?_ ?_
      ·rintro v49 rfl st hr;obtain rfl:=oi hm;exact hr
      ·rintro o46 rfl;replace hm:_=some r:=hm;obtain⟨v50,h51,hm⟩:=qE hm;refine s_vn [qc 0 [] 10 (qCD v50 h51)] 10 ⟨[(2,vb v50)],[]⟩ ?_;obtain rfl:=oi hm;exact q_rt q_rm
    ·rcases bif_c hm with⟨b30,hm⟩|⟨b30,hm⟩
     ·exact q_vv [qf 3 b30] 10 [5,7] [(45,vb true)] (q_J (true) hm)
     ·exact q_vv [qf 3 b30] 10 [5,7] [(45,vb ((v24.1.length:Int) !=(v28.1.length:Int)))] (q_J ((v24.1.length:Int) !=(v28.1.length:Int)) hm)
  ·obtain⟨v15,h16,hm⟩:=qE hm;rcases bif_c hm with⟨b17,hm⟩|⟨b17,hm⟩
   ·exact q_xu [.frz 1,.frz 2] (o1 (And.intro (kr v7.Rings.length) (kr v7.Defects.length))) [qc 1 [15] 4 (QE v7 v15 h16),qf 3 b17] [] o0 [0,1,3,7,15,31,15,127,255,511] 4 [3] [(24,vb true)] [1,2,3] [] (q_J (true) hm)
   ·obtain⟨v18,h19,hm⟩:=qE hm;obtain⟨v20,h21,hm⟩:=qE hm
    refine q_xu [.frz 1,.frz 2] (o1 (And.intro (kr v7.Rings.length) (kr v7.Defects.length))) [qc 1 [15] 4 (QE v7 v15 h16),qf 3 b17,qk 5 [18,19] 4 ⟨[(18,vb false),(19,va (qX v7))],[]⟩ (qAw v7 3 v18 h19),qd 7 (dex (cen [] [] 6 0 (qGf v20) (EJ v20) [18,20,21] [4,5])) (zK (K:=(kx E 80 0)) (b:=false) ⟨[(18,vb false),(20,va [.own 4 0 2 v18.Rings.length,.own 5 0 7 v18.Defects.length]),(21,va (qX a1))],[(4,ro 0 45 2 v18.Rings.length (rf qM v18.Rings)),(5,ro 0 68 7 v18.Defects.length (rf qJ v18.Defects))]⟩ (opAt (rg f11 60) 7) [] [] 6 (o1 (And.intro (kr v18.Rings.length) (kr v18.Defects.length))) rfl (qEW (Scan.mk v18.Rings v18.Defects) a1 v20 h21) (.inr ⟨(by kernel_rfl),qNS v20⟩) (by kernel_rfl))] [] o0 [0,1,3,7,15,31,15,127,255,511] 4 [3] [(24,vb (!v20))] [1,2,3] [] ?_
    exact q_J (!v20) hm
end Saw
end Go.SL

import Derived.Test.YthbamnkheinbgaaGreatDoorSBase
import Derived.Test.YthbamnkheinbgaaGreatDoorSFa1
import Derived.Test.YthbamnkheinbgaaGreatDoorSLs
import Derived.Test.YthbamnkheinbgaaGreatDoorSFa7
import Derived.Test.YthbamnkheinbgaaGreatDoorSFa4
import Derived.Test.YthbamnkheinbgaaGreatDoorSFa6
set_option linter.unusedVariables false
set_option linter.unusedSimpArgs false
namespace Go.SL
namespace Saw
open Go.Proofs Go.Proofs.Tryz
set_option maxHeartbeats 4000000
set_option maxRecDepth 100000
def XJ (r:Bool):V:=vb r
def XL (r:Bool):List (Nat×(Nat×O)):=[]
def ZE (a1:Scan) (a2:Scan) (v22:Scan×Int):St:=
 ⟨[(2,vp 0 0),(3,vp 1 0),(8,vp 7 0)],[(0,bx 25 (qU a1)),(1,bx 25 (qU a2)),(5,ro 0 45 2 v22.1.Rings.length (rf qK v22.1.Rings)),(6,ro 0 68 7 v22.1.Defects.length (rf qG v22.1.Defects)),(7,bx 25 [.own 5 0 2 v22.1.Rings.length,.own 6 0 7 v22.1.Defects.length])]⟩
def EY (x28:Bool):St:=
 ⟨[(4,vb x28)],[]⟩
def EP (a1:Scan) (a2:Scan) (v22:Scan×Int) (x35:Int) (x49:Bool):St:=
 (ZE a1 a2 v22).up [] [(9,vi x35),(137,vb x49)] [] []
def WO (a1:Scan) (a2:Scan) (v22:Scan×Int) (x35:Int):St:=
 (ZE a1 a2 v22).up [] [(9,vi x35)] [] []
def TO :St:=
 ⟨[],[]⟩
def ET (a1:Scan) (a2:Scan) (v22:Scan×Int) (x33:Bool):St:=
 (ZE a1 a2 v22).up [] [(85,vb x33)] [] []
def AD (a1:Scan) (a2:Scan) (x20:Bool):St:=
 ⟨[(2,vp 0 0),(3,vp 1 0),(45,vb x20)],[(0,bx 25 (qU a1)),(1,bx 25 (qU a2))]⟩
def EC (a1:Scan) (a2:Scan) (x8:Bool):St:=
 ⟨[(2,vp 0 0),(3,vp 1 0),(23,vb x8)],[(0,bx 25 (qU a1)),(1,bx 25 (qU a2))]⟩
theorem SD (E:Env 0) (a1:Scan) (a2:Scan) (v22:Scan×Int):∀(n:Nat) (x35:Int) (res:Bool⊕Unit),zH a1 a2 v22 n x35=some res->HL (kx E 139 0) (nd f9 4084) (jP 0 (λo=>TO) (λv st=>RetQ Tryz.prog f9 (XJ v) (XL v) .ret st) res) n (WO a1 a2 v22 x35):=by
 intro n
 induction n with
 |zero=>
  intro x35 res hm;cases hm
 |succ n ih=>
  intro x35 res hm;refine qS (q_sq ?_);refine s_va 8 [(90,vb (decide (x35<(v22.1.Rings.length:Int))))] (q_cq hm (λhm=>?_) (λhm=>?_))
  ·refine q_sk (q_sq ?_);refine q_bk 1 ?_;obtain⟨g37,hm⟩:=qJ hm;obtain⟨v38,h39,hm⟩:=qE hm;refine s_vv [qi 3 g37,qd 4 dN (qZ (zG g37)),qc 5 [98] 8 (UX (v22.1.Rings.getD x35.toNat dd) v38 h39)] 8 [90] [(10,vi v38.1),(11,vi v38.2)] ?_;obtain⟨g40,hm⟩:=qJ hm;obtain⟨v41,h42,hm⟩:=qE hm;refine s_vv [qi 3 g40,qc 5 [107] 8 (UX (a1.Rings.getD x35.toNat dd) v41 h42)] 8 [] [(12,vi v41.1),(13,vi v41.2)] ?_;obtain⟨g43,hm⟩:=qJ hm;obtain⟨v44,h45,hm⟩:=qE hm
   refine s_vv [qi 3 g43,qc 5 [116] 8 (UX (a2.Rings.getD x35.toNat dd) v44 h45)] 8 [] [(14,vi v44.1),(15,vi v44.2)] (q_jn (EP a1 a2 v22 x35) (λp=>wV x35 (zH a1 a2 v22 n) p=some res) ?_ ?_)
   ·rintro x49 hm;refine q_cq hm (λhm=>?_) (λhm=>?_)
    ·refine s_vn [] 8 ⟨[(4,vb false)],[]⟩ ?_;obtain rfl:=oi hm;refine q_rt (zN false ?_);exact q_rm
    ·refine q_sk (q_vv [] 8 [9,137] [(9,vi (w64 (x35+1)))] ?_);exact q_hl (WO a1 a2 v22 (w64 (x35+1))) (ih (w64 (x35+1)) _ hm)
   ·rcases bif_c hm with⟨b46,hm⟩|⟨b46,hm⟩
    ·exact q_vv [qf 3 b46] 8 [10,11,12,13,14,15] [(137,vb true)] (q_J (true) hm)
    ·rcases bif_c hm with⟨b47,hm⟩|⟨b47,hm⟩
     ·exact q_vv [qf 3 b46,qf 8 b47] 8 [10,11,12,13,14,15] [(137,vb true)] (q_J (true) hm)
     ·rcases bif_c hm with⟨b48,hm⟩|⟨b48,hm⟩
      ·exact q_vv [qf 3 b46,qf 8 b47,qf 13 b48] 8 [10,11,12,13,14,15] [(137,vb true)] (q_J (true) hm)
      ·exact q_vv [qf 3 b46,qf 8 b47,qf 13 b48] 8 [10,11,12,13,14,15] [(137,vb (decide (v38.2>v44.2)))] (q_J (decide (v38.2>v44.2)) hm)
  ·refine q_ex 0 ?_;obtain rfl:=oi hm;exact q_l1 ()
theorem OS (a1:Scan) (a2:Scan) (r:Bool) (hm:QL a1 a2=some r):CtX Tryz.prog globs 9 0 0 [.agg (qU a1),.agg (qU a2)] [] (XJ r) (XL r):=by
 unfold QL at hm;refine q_E f9 139 λE=>?_;refine s_vn [] 0 ⟨[(2,vp 0 0),(3,vp 1 0)],[(0,bx 25 (qU a1)),(1,bx 25 (qU a2))]⟩ (q_sq ?_);refine q_jn (EC a1 a2) (λp=>wW a1 a2 p=some r) ?_ ?_
 ·rintro x8 hm;refine q_cq hm (λhm=>?_) (λhm=>?_)
  ·obtain⟨v10,h11,hm⟩:=qE hm;refine s_vn [qc 0 [] 2 (GD v10 h11)] 2 ⟨[(4,vb v10)],[]⟩ ?_;obtain rfl:=oi hm;exact q_rt q_rm
  ·refine q_sk ?_;obtain⟨v12,h13,hm⟩:=qE hm;refine s_vu [qc 2 [26,27] 2 (OG a1 a1 v12 h13)] 2 [23] [(5,vp 4 0),(6,vi v12.2)] [] [(2,ro 0 45 2 v12.1.Rings.length (rf qK v12.1.Rings)),(3,ro 0 68 7 v12.1.Defects.length (rf qG v12.1.Defects)),(4,bx 25 [.own 2 0 2 v12.1.Rings.length,.own 3 0 7 v12.1.Defects.length])] (q_sq ?_);obtain⟨v14,h15,hm⟩:=qE hm;refine s_vv [qc 1 [31] 5 (wI a1 v14 h15)] 5 [] [(7,vi v14)] (q_jn (AD a1 a2) (λp=>wX a1 a2 p=some r) ?_ ?_)
   ·rintro x20 hm;refine q_cq hm (λhm=>?_) (λhm=>?_)
    ·refine s_vn [] 5 ⟨[(4,vb false)],[]⟩ ?_;obtain rfl:=oi hm;exact q_rt q_rm
    ·refine q_sk ?_;obtain⟨v22,h23,hm⟩:=qE hm;refine s_vu [qc 2 [47,48] 5 (OG a1 a2 v22 h23)] 5 [45] [(6,vi v22.2),(8,vp 7 0)] [] [(5,ro 0 45 2 v22.1.Rings.length (rf qK v22.1.Rings)),(6,ro 0 68 7 v22.1.Defects.length (rf qG v22.1.Defects)),(7,bx 25 [.own 5 0 2 v22.1.Rings.length,.own 6 0 7 v22.1.Defects.length])] (q_sq ?_);refine s_vv [] 8 [6] [(53,vb (v22.2 !=0))] (q_cq hm (λhm=>?_) (λhm=>?_))
     ·refine q_jn (EY) (λp=>ZA p=some r) ?_ ?_
      ·rintro x28 hm;obtain rfl:=oi hm;exact q_rt q_rm
      ·rcases bif_c hm with⟨b25,hm⟩|⟨b25,hm⟩
       ·obtain⟨v26,h27,hm⟩:=qE hm;exact q_vn [qf 8 b25,qk 9 [62] 8 ⟨[(62,vb true)],[]⟩ (GD v26 h27)] 8 ⟨[(4,vb v26)],[]⟩ (q_J (v26) hm)
       ·exact q_vn [qf 8 b25] 8 ⟨[(4,vb false)],[]⟩ (q_J (false) hm)
     ·refine q_sk (q_sq ?_);refine q_jn (ET a1 a2 v22) (λp=>yD a1 a2 v22 p=some r) ?_ ?_
      ·rintro x33 hm;refine q_cq hm (λhm=>?_) (λhm=>?_)
       ·refine s_vn [] 8 ⟨[(4,vb false)],[]⟩ ?_;obtain rfl:=oi hm;exact q_rt q_rm
       ·refine q_sk (q_sq ?_);refine s_vv [] 8 [85] [(9,vi 0)] ?_;obtain⟨u53,h52,hm⟩:=qE hm;refine zV (nd f9 4084) 0 (by kernel_rfl) FUEL (λo=>TO) (λv st=>RetQ Tryz.prog f9 (XJ v) (XL v) .ret st) u53 (q_hl (WO a1 a2 v22 0) (SD E a1 a2 v22 FUEL 0 u53 h52)) ?_ ?_
        ·rintro v54 rfl st hr;obtain rfl:=oi hm;exact hr
        ·rintro o51 rfl;replace hm:_=some r:=hm;obtain⟨v55,h56,hm⟩:=qE hm;refine s_vn [qc 0 [] 8 (GD v55 h56)] 8 ⟨[(4,vb v55)],[]⟩ ?_;obtain rfl:=oi hm;exact q_rt q_rm
      ·obtain⟨v29,h30,hm⟩:=qE hm;rcases bif_c hm with⟨b31,hm⟩|⟨b31,hm⟩
       ·exact q_vv [qd 1 (dex (cen [] [] 8 0 (jN v29) (wF v29) [65] [5,6])) (zD (K:=(kx E 139 0)) (b:=false) ⟨[(65,va [.own 5 0 2 v22.1.Rings.length,.own 6 0 7 v22.1.Defects.length])],[(5,ro 0 45 2 v22.1.Rings.length (rf qK v22.1.Rings)),(6,ro 0 68 7 v22.1.Defects.length (rf qG v22.1.Defects))]⟩ (opAt (rg f9 508) 1) [] [] 8 (o1 (And.intro (kg v22.1.Rings.length) (kg v22.1.Defects.length))) rfl (wI (Scan.mk v22.1.Rings v22.1.Defects) v29 h30) (.inr ⟨(by kernel_rfl),UH v29⟩) (by kernel_rfl)),qf 3 b31] 8 [53] [(85,vb true)] (q_J (true) hm)
       ·rcases bif_c hm with⟨b32,hm⟩|⟨b32,hm⟩
        ·exact q_vv [qd 1 (dex (cen [] [] 8 0 (jN v29) (wF v29) [65] [5,6])) (zD (K:=(kx E 139 0)) (b:=false) ⟨[(65,va [.own 5 0 2 v22.1.Rings.length,.own 6 0 7 v22.1.Defects.length])],[(5,ro 0 45 2 v22.1.Rings.length (rf qK v22.1.Rings)),(6,ro 0 68 7 v22.1.Defects.length (rf qG v22.1.Defects))]⟩ (opAt (rg f9 508) 1) [] [] 8 (o1 (And.intro (kg v22.1.Rings.length) (kg v22.1.Defects.length))) rfl (wI (Scan.mk v22.1.Rings v22.1.Defects) v29 h30) (.inr ⟨(by kernel_rfl),UH v29⟩) (by kernel_rfl)),qf 3 b31,qf 12 b32] 8 [53] [(85,vb true)] (q_J (true) hm)
        ·exact q_vv [qd 1 (dex (cen [] [] 8 0 (jN v29) (wF v29) [65] [5,6])) (zD (K:=(kx E 139 0)) (b:=false) ⟨[(65,va [.own 5 0 2 v22.1.Rings.length,.own 6 0 7 v22.1.Defects.length])],[(5,ro 0 45 2 v22.1.Rings.length (rf qK v22.1.Rings)),(6,ro 0 68 7 v22.1.Defects.length (rf qG v22.1.Defects))]⟩ (opAt (rg f9 508) 1) [] [] 8 (o1 (And.intro (kg v22.1.Rings.length) (kg v22.1.Defects.length))) rfl (wI (Scan.mk v22.1.Rings v22.1.Defects) v29 h30) (.inr ⟨(by kernel_rfl),UH v29⟩) (by kernel_rfl)),qf 3 b31,qf 12 b32] 8 [53] [(85,vb ((v22.1.Rings.length:Int) !=(a2.Rings.length:Int)))] (q_J ((v22.1.Rings.length:Int) !=(a2.Rings.length:Int)) hm)
   ·rcases bif_c hm with⟨b16,hm⟩|⟨b16,hm⟩
    ·exact q_vu [qf 3 b16] 5 [5,6,7] [(45,vb true)] [2,3,4] [] (q_J (true) hm)
    ·rcases bif_c hm with⟨b17,hm⟩|⟨b17,hm⟩
     ·obtain⟨v18,h19,hm⟩:=qE hm
      exact q_vu [qf 3 b16,qf 6 b17,qd 9 (dex (cen [] [] 5 0 (qBm v18) (GT v18) [39,40,41] [2,3])) (zD (K:=(kx E 139 0)) (b:=false) ⟨[(39,vb true),(40,va [.own 2 0 2 v12.1.Rings.length,.own 3 0 7 v12.1.Defects.length]),(41,va (qU a1))],[(2,ro 0 45 2 v12.1.Rings.length (rf qK v12.1.Rings)),(3,ro 0 68 7 v12.1.Defects.length (rf qG v12.1.Defects))]⟩ (opAt (rg f9 122) 9) [] [] 5 (o1 (And.intro (kg v12.1.Rings.length) (kg v12.1.Defects.length))) rfl (CU (Scan.mk v12.1.Rings v12.1.Defects) a1 v18 h19) (.inr ⟨(by kernel_rfl),qGx v18⟩) (by kernel_rfl))] 5 [5,6,7] [(45,vb (!v18))] [2,3,4] [] (q_J (!v18) hm)
     ·exact q_vu [qf 3 b16,qf 6 b17] 5 [5,6,7] [(45,vb false)] [2,3,4] [] (q_J (false) hm)
 ·obtain⟨v3,h4,hm⟩:=qE hm;rcases bif_c hm with⟨b5,hm⟩|⟨b5,hm⟩
  ·exact q_vv [qc 1 [16] 2 (FG a1 v3 h4),qf 3 b5] 2 [] [(23,vb true)] (q_J (true) hm)
  ·obtain⟨v6,h7,hm⟩:=qE hm;exact q_vv [qc 1 [16] 2 (FG a1 v3 h4),qf 3 b5,qk 5 [19,20] 2 ⟨[(19,vb false),(20,va (qU a2))],[]⟩ (FG a2 v6 h7)] 2 [] [(23,vb (!v6))] (q_J (!v6) hm)
end Saw
end Go.SL

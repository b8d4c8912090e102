import Derived.Test.YthbamnkheinbgaaGreatDoorSBase
import Derived.Test.YthbamnkheinbgaaGreatDoorSLs
import Derived.Test.YthbamnkheinbgaaGreatDoorSLlaw15in
import Derived.Test.YthbamnkheinbgaaGreatDoorSLlaw15whole
import Derived.Test.YthbamnkheinbgaaGreatDoorSFa4
import Derived.Test.YthbamnkheinbgaaGreatDoorSFa7
set_option linter.unusedVariables false
set_option linter.unusedSimpArgs false
namespace Go.SL
namespace Saw
open Go.Proofs Go.Proofs.Tryz
set_option maxHeartbeats 4000000
set_option maxRecDepth 100000
def RN (r:Bool):V:=vb r
def TF (r:Bool):List (Nat×(Nat×O)):=[]
def qAU (x14:Bool):St:=
 ⟨[(2,vb x14)],[]⟩
def qA3 (a1:Scan) (v7:(List qS)×Int) (x24:Int) (x39:Bool):St:=
 ⟨[(1,vp 0 0),(3,vo 1 0 3 v7.1.length),(5,vi x24),(109,vb x39)],[(0,bx 25 (qZ a1)),(1,ro 0 50 3 v7.1.length (rf qT v7.1))]⟩
def XM (a1:Scan) (v7:(List qS)×Int) (x24:Int):St:=
 ⟨[(1,vp 0 0),(3,vo 1 0 3 v7.1.length),(5,vi x24)],[(0,bx 25 (qZ a1)),(1,ro 0 50 3 v7.1.length (rf qT v7.1))]⟩
def DU :St:=
 ⟨[],[]⟩
def qBg (a1:Scan) (v7:(List qS)×Int) (x22:Bool):St:=
 ⟨[(1,vp 0 0),(3,vo 1 0 3 v7.1.length),(52,vb x22)],[(0,bx 25 (qZ a1)),(1,ro 0 50 3 v7.1.length (rf qT v7.1))]⟩
theorem qAB (E:Env 0) (a1:Scan) (v7:(List qS)×Int):∀(n:Nat) (x24:Int) (res:Bool⊕Unit),zP a1 v7 n x24=some res->HL (kx E 111 0) (nd f7 1012) (jJ 0 (λo=>DU) (λv st=>RetQ Tryz.prog f7 (RN v) (TF v) .ret st) res) n (XM a1 v7 x24):=by
 intro n
 induction n with
 |zero=>
  intro x24 res hm;cases hm
 |succ n ih=>
  intro x24 res hm;refine qU (q_sq ?_);refine s_va 2 [(56,vb (decide (x24<(v7.1.length:Int))))] (q_cq hm (λhm=>?_) (λhm=>?_))
  ·refine q_sk (q_sq ?_);refine q_bk 1 (q_jn (qA3 a1 v7 x24) (λp=>yU x24 (zP a1 v7 n) p=some res) ?_ ?_)
   ·rintro x39 hm;refine q_cq hm (λhm=>?_) (λhm=>?_)
    ·refine s_vn [] 4 ⟨[(2,vb false)],[]⟩ ?_;obtain rfl:=oi hm;refine q_rt (zR false ?_);exact q_rm
    ·refine q_sk (q_vv [] 4 [5,109] [(5,vi (w64 (x24+1)))] ?_);exact q_hl (XM a1 v7 (w64 (x24+1))) (ih (w64 (x24+1)) _ hm)
   ·obtain⟨g26,hm⟩:=qH hm;obtain⟨g27,hm⟩:=qH hm;obtain⟨g28,hm⟩:=qH hm;rcases bif_c hm with⟨b29,hm⟩|⟨b29,hm⟩
    ·exact q_du [qi 2 g26,qd 4 dN (zC (zJ g26)),qi 9 g27,qi 15 g28,qf 20 b29] [0,0,3,7,15,0,32,0,128,480,992,2016,0,4096,0,28672,61440,126976,262112,524287,1048575,2097151,2097151,8388607,16777215,33554431,2097151,69206015,2097151,471859199,1008730111,2082471935,4294967295,8589934591,17179869183,34359738367,68719476735,68719476735,274877906943,549755813887,1099511627775,68719476735,2267742732287,68719476735,8864812498943,33054068310015,68238440398847,138607184576511,281474976710655,562949953421311,1125899906842623] 2 [56] [(109,vb true)] [] [] (q_J (true) hm)
    ·obtain⟨v30,h31,hm⟩:=qE hm;obtain⟨v32,h33,hm⟩:=qE hm;rcases bif_c hm with⟨b34,hm⟩|⟨b34,hm⟩
     ·refine q_du [qi 2 g26,qd 4 dN (zC (zJ g26)),qi 9 g27,qi 15 g28,qf 20 b29,qi 23 g26,qd 25 dN (zC (zJ g26)),qi 29 g28,qk 31 [79,89] 2 ⟨[(79,vb false),(89,va [ci ((a1.Rings.getD x24.toNat dd).Z),tl qG dd ((a1.Rings.getD x24.toNat dd).Read)])],[]⟩ (EJ (a1.Rings.getD x24.toNat dd) v30 h31),qd 32 (dex (cen [] [] 3 0 (UL v32) (JM v32) [79,84,90] [2])) (zI (K:=(kx E 111 0)) (b:=false) ⟨[(79,vb false),(84,va [ci (((v7.1.getD x24.toNat dd).Sec).Low),tl qI dd (((v7.1.getD x24.toNat dd).Sec).Rows)]),(90,vo 2 0 2 v30.length)],[(2,ro 0 71 2 v30.length (rf qB v30))]⟩ (opAt (rg f7 16200) 32) [] [] 3 (o1 (kr v30.length)) rfl (qAC ((v7.1.getD x24.toNat dd).Sec) v30 v32 h33) (.inr ⟨(by kernel_rfl),qB8 v32⟩) (by kernel_rfl)),qf 35 b34] [0,0,3,7,15,0,32,0,128,480,992,2016,0,4096,0,28672,61440,126976,262112,524287,1048575,2097151,2097151,8388607,16777215,33554431,2097151,69206015,2097151,471859199,1008730111,2082471935,4294967295,8589934591,17179869183,34359738367,68719476735,68719476735,274877906943,549755813887,1099511627775,68719476735,2267742732287,68719476735,8864812498943,33054068310015,68238440398847,138607184576511,281474976710655,562949953421311,1125899906842623] 2 [56] [(109,vb true)] [] [] ?_
      exact q_J (true) hm
     ·obtain⟨v35,h36,hm⟩:=qE hm;obtain⟨v37,h38,hm⟩:=qE hm
      refine q_du [qi 2 g26,qd 4 dN (zC (zJ g26)),qi 9 g27,qi 15 g28,qf 20 b29,qi 23 g26,qd 25 dN (zC (zJ g26)),qi 29 g28,qk 31 [79,89] 2 ⟨[(79,vb false),(89,va [ci ((a1.Rings.getD x24.toNat dd).Z),tl qG dd ((a1.Rings.getD x24.toNat dd).Read)])],[]⟩ (EJ (a1.Rings.getD x24.toNat dd) v30 h31),qd 32 (dex (cen [] [] 3 0 (UL v32) (JM v32) [79,84,90] [2])) (zI (K:=(kx E 111 0)) (b:=false) ⟨[(79,vb false),(84,va [ci (((v7.1.getD x24.toNat dd).Sec).Low),tl qI dd (((v7.1.getD x24.toNat dd).Sec).Rows)]),(90,vo 2 0 2 v30.length)],[(2,ro 0 71 2 v30.length (rf qB v30))]⟩ (opAt (rg f7 16200) 32) [] [] 3 (o1 (kr v30.length)) rfl (qAC ((v7.1.getD x24.toNat dd).Sec) v30 v32 h33) (.inr ⟨(by kernel_rfl),qB8 v32⟩) (by kernel_rfl)),qf 35 b34,qi 38 g26,qd 40 dN (zC (zJ g26)),qi 45 g27,qk 47 [94,105] 3 ⟨[(94,vb false),(105,va [ci ((a1.Rings.getD (w64 (x24+1)).toNat dd).Z),tl qG dd ((a1.Rings.getD (w64 (x24+1)).toNat dd).Read)])],[]⟩ (EJ (a1.Rings.getD (w64 (x24+1)).toNat dd) v35 h36),qd 48 (dex (cen [] [] 4 0 (UL v37) (JM v37) [94,99,106] [3])) (zI (K:=(kx E 111 0)) (b:=false) ⟨[(94,vb false),(99,va [ci (((v7.1.getD x24.toNat dd).Sec).Low),tl qI dd (((v7.1.getD x24.toNat dd).Sec).Rows)]),(106,vo 3 0 2 v35.length)],[(3,ro 0 71 2 v35.length (rf qB v35))]⟩ (opAt (rg f7 16200) 48) [] [] 4 (o1 (kr v35.length)) rfl (qAC ((v7.1.getD x24.toNat dd).Sec) v35 v37 h38) (.inr ⟨(by kernel_rfl),qB8 v37⟩) (by kernel_rfl))] [0,0,3,7,15,0,32,0,128,480,992,2016,0,4096,0,28672,61440,126976,262112,524287,1048575,2097151,2097151,8388607,16777215,33554431,2097151,69206015,2097151,471859199,1008730111,2082471935,4294967295,8589934591,17179869183,34359738367,68719476735,68719476735,274877906943,549755813887,1099511627775,68719476735,2267742732287,68719476735,8864812498943,33054068310015,68238440398847,138607184576511,281474976710655,562949953421311,1125899906842623] 2 [56] [(109,vb (!v37))] [] [] ?_
      exact q_J (!v37) hm
  ·refine q_ex 0 ?_;obtain rfl:=oi hm;exact q_l1 ()
theorem qCC (a1:Scan) (r:Bool) (hm:ZY a1=some r):CtX Tryz.prog globs 7 0 0 [.agg (qZ a1)] [] (RN r) (TF r):=by
 unfold ZY at hm;refine q_E f7 111 λE=>?_;refine s_vn [] 0 ⟨[(1,vp 0 0)],[(0,bx 25 (qZ a1))]⟩ (q_sq ?_);obtain⟨v2,h3,hm⟩:=qE hm;refine s_vv [qc 1 [6] 1 (qHF a1 v2 h3)] 1 [] [(8,vb (!v2))] (q_cq hm (λhm=>?_) (λhm=>?_))
 ·obtain⟨v5,h6,hm⟩:=qE hm;refine s_vn [qc 0 [] 1 (LQ v5 h6)] 1 ⟨[(2,vb v5)],[]⟩ ?_;obtain rfl:=oi hm;exact q_rt q_rm
 ·refine q_sk ?_;obtain⟨v7,h8,hm⟩:=qE hm;refine s_vu [qk 1 [11] 1 ⟨[(11,va (qZ a1))],[]⟩ (qCv a1 (-1) 0 v7 h8)] 1 [8] [(3,vo 1 0 3 v7.1.length),(4,vi v7.2)] [] [(1,ro 0 50 3 v7.1.length (rf qT v7.1))] (q_sq ?_);refine s_va 2 [(16,vb (v7.2 !=0))] (q_cq hm (λhm=>?_) (λhm=>?_))
  ·refine q_jn (qAU) (λp=>WN p=some r) ?_ ?_
   ·rintro x14 hm;obtain rfl:=oi hm;exact q_rt q_rm
   ·rcases bif_c hm with⟨b10,hm⟩|⟨b10,hm⟩
    ·rcases bif_c hm with⟨b11,hm⟩|⟨b11,hm⟩
     ·obtain⟨v12,h13,hm⟩:=qE hm;exact q_vn [qf 2 b10,qf 7 b11,qk 8 [24] 2 ⟨[(24,vb true)],[]⟩ (LQ v12 h13)] 2 ⟨[(2,vb v12)],[]⟩ (q_J (v12) hm)
     ·exact q_vn [qf 2 b10,qf 7 b11] 2 ⟨[(2,vb false)],[]⟩ (q_J (false) hm)
    ·exact q_vn [qf 2 b10] 2 ⟨[(2,vb false)],[]⟩ (q_J (false) hm)
  ·refine q_sk (q_sq ?_);refine q_jn (qBg a1 v7) (λp=>yV a1 v7 p=some r) ?_ ?_
   ·rintro x22 hm;refine q_cq hm (λhm=>?_) (λhm=>?_)
    ·refine s_vn [] 2 ⟨[(2,vb false)],[]⟩ ?_;obtain rfl:=oi hm;exact q_rt q_rm
    ·refine q_sk (q_sq ?_);refine s_vv [] 2 [52] [(5,vi 0)] ?_;obtain⟨u43,h42,hm⟩:=qE hm;refine zZ (nd f7 1012) 0 (by kernel_rfl) FUEL (λo=>DU) (λv st=>RetQ Tryz.prog f7 (RN v) (TF v) .ret st) u43 (q_hl (XM a1 v7 0) (qAB E a1 v7 FUEL 0 u43 h42)) ?_ ?_
     ·rintro v44 rfl st hr;obtain rfl:=oi hm;exact hr
     ·rintro o41 rfl;replace hm:_=some r:=hm;obtain⟨v45,h46,hm⟩:=qE hm;refine s_vn [qc 0 [] 2 (LQ v45 h46)] 2 ⟨[(2,vb v45)],[]⟩ ?_;obtain rfl:=oi hm;exact q_rt q_rm
   ·rcases bif_c hm with⟨b15,hm⟩|⟨b15,hm⟩
    ·exact q_du [qf 7 b15] [0,1,0,4,12,28,63,127,255,511,1023,2047,4095,8191,16383,8191,40959,8191,139263,401407,925695,2072575,4169727,8364031,16777215,33554431] 2 [4,16] [(52,vb true)] [] [] (q_J (true) hm)
    ·obtain⟨v16,h17,hm⟩:=qE hm;rcases bif_c hm with⟨b18,hm⟩|⟨b18,hm⟩
     ·exact q_du [qf 7 b15,qd 9 (dex (cen [] [] 2 0 (KV v16) (QX v16) [34,35] [1])) (zI (K:=(kx E 111 0)) (b:=false) ⟨[(34,vb false),(35,vo 1 0 3 v7.1.length)],[(1,ro 0 50 3 v7.1.length (rf qT v7.1))]⟩ (opAt (rg f7 124) 9) [] [] 2 (o1 (kr v7.1.length)) rfl (LR v7.1 v16 h17) (.inr ⟨(by kernel_rfl),qCf v16⟩) (by kernel_rfl)),qf 12 b18] [0,1,0,4,12,28,63,127,255,511,1023,2047,4095,8191,16383,8191,40959,8191,139263,401407,925695,2072575,4169727,8364031,16777215,33554431] 2 [4,16] [(52,vb true)] [] [] (q_J (true) hm)
     ·obtain⟨v19,h20,hm⟩:=qE hm;obtain⟨g21,hm⟩:=qH hm
      refine q_du [qf 7 b15,qd 9 (dex (cen [] [] 2 0 (KV v16) (QX v16) [34,35] [1])) (zI (K:=(kx E 111 0)) (b:=false) ⟨[(34,vb false),(35,vo 1 0 3 v7.1.length)],[(1,ro 0 50 3 v7.1.length (rf qT v7.1))]⟩ (opAt (rg f7 124) 9) [] [] 2 (o1 (kr v7.1.length)) rfl (LR v7.1 v16 h17) (.inr ⟨(by kernel_rfl),qCf v16⟩) (by kernel_rfl)),qf 12 b18,qd 14 (dex (cen [] [] 2 0 (qBp v19) (UQ v19) [39,40] [1])) (zI (K:=(kx E 111 0)) (b:=false) ⟨[(39,vb false),(40,vo 1 0 3 v7.1.length)],[(1,ro 0 50 3 v7.1.length (rf qT v7.1))]⟩ (opAt (rg f7 124) 14) [] [] 2 (o1 (kr v7.1.length)) rfl (qG8 v7.1 v19 h20) (.inr ⟨(by kernel_rfl),qHw v19⟩) (by kernel_rfl)),qi 21 g21] [0,1,0,4,12,28,63,127,255,511,1023,2047,4095,8191,16383,8191,40959,8191,139263,401407,925695,2072575,4169727,8364031,16777215,33554431] 2 [4,16] [(52,vb (v19 !=((a1.Rings.getD (w64 ((a1.Rings.length:Int)-1)).toNat dd).Z)))] [] [] ?_
      exact q_J (v19 !=((a1.Rings.getD (w64 ((a1.Rings.length:Int)-1)).toNat dd).Z)) hm
end Saw
end Go.SL

import Derived.Test.YtidlfgiogdjkaaaGreatDoorEBase
import Derived.Test.YtidlfgiogdjkaaaGreatDoorEFa1
set_option linter.unusedVariables false
set_option linter.unusedSimpArgs false
namespace Go.SL
namespace Saw
open Go.Proofs Go.Proofs.Tryz
set_option maxHeartbeats 4000000
set_option maxRecDepth 100000
def ZD (r:Int):V:=vi r
def ZL (r:Int):List (Nat×(Nat×O)):=[]
def XH (a1:Product) (x18:Int):St:=
 ⟨[(1,vp 0 0),(70,vc (tl qA du a1.Lengths)),(71,vi (a1.Lengths.length:Int)),(72,vi x18)],[(0,bx 54 (qH a1))]⟩
def qEG (a1:Product) (x18:Int) (x26:Bool):St:=
 (XH a1 x18).up [] [(94,vb x26)] [] []
def qEt (a1:Product) (x18:Int) (x22:Bool):St:=
 (XH a1 x18).up [] [(5,vi x18),(6,vi (a1.Lengths.getD x18.toNat du)),(82,vb x22)] [] []
def PJ (a1:Product) (x18:Int):St:=
 (XH a1 x18).up [] [] [] []
def MB (a1:Product):St:=
 ⟨[(1,vp 0 0)],[(0,bx 54 (qH a1))]⟩
def qEy (a1:Product) (x32:Int) (x36:Bool):St:=
 ⟨[(97,vc (tl qA du a1.Prices)),(98,vi (a1.Prices.length:Int)),(99,vi x32),(108,vb x36)],[]⟩
def PI (a1:Product) (x32:Int):St:=
 ⟨[(97,vc (tl qA du a1.Prices)),(98,vi (a1.Prices.length:Int)),(99,vi x32)],[]⟩
def MN :St:=
 ⟨[],[]⟩
def qEz (a1:Product) (x10:Bool):St:=
 ⟨[(1,vp 0 0),(46,vb x10)],[(0,bx 54 (qH a1))]⟩
def qEx (a1:Product) (x5:Bool):St:=
 ⟨[(1,vp 0 0),(28,vb x5)],[(0,bx 54 (qH a1))]⟩
theorem qDJ (E:Env 0) (a1:Product):∀(n:Nat) (x18:Int) (res:Int⊕Unit),wJ a1 n x18=some res->HL (kx E 110 0) (nd f74 4084) (wN 0 (λo=>MB a1) (λv st=>RetQ Tryz.prog f74 (ZD v) (ZL v) .ret st) res) n (PJ a1 x18):=by
 intro n
 induction n with
 |zero=>
  intro x18 res hm;cases hm
 |succ n ih=>
  intro x18 res hm;refine qT (s_va 1 [(73,vb (decide (x18<(a1.Lengths.length:Int))))] ?_);refine q_sq (q_cq hm (λhm=>?_) (λhm=>?_))
  ·refine q_sk (q_sq ?_);refine q_bk 1 ?_;obtain⟨g20,hm⟩:=qI hm;refine s_vv [qi 1 g20] 1 [73] [(5,vi x18),(6,vi (a1.Lengths.getD x18.toNat du))] (q_sq ?_);refine q_jn (qEt a1 x18) (λp=>YC a1 x18 (wJ a1 n) p=some res) ?_ ?_
   ·rintro x22 hm;refine q_cq hm (λhm=>?_) (λhm=>?_)
    ·refine s_vn [] 1 ⟨[(2,vi 9)],[]⟩ ?_;obtain rfl:=oi hm;refine q_rt (zG 9 ?_);exact q_rm
    ·refine q_sk (q_jn (qEG a1 x18) (λp=>YB x18 (wJ a1 n) p=some res) ?_ ?_)
     ·rintro x26 hm;refine q_cq hm (λhm=>?_) (λhm=>?_)
      ·refine s_vn [] 1 ⟨[(2,vi 11)],[]⟩ ?_;obtain rfl:=oi hm;refine q_rt (zG 11 ?_);exact q_rm
      ·refine q_sk (q_vv [] 1 [72,94] [(72,vi (w64 (x18+1)))] ?_);exact q_hl (PJ a1 (w64 (x18+1))) (ih (w64 (x18+1)) _ hm)
     ·rcases bif_c hm with⟨b24,hm⟩|⟨b24,hm⟩
      ·obtain⟨g25,hm⟩:=qI hm;exact q_vv [qf 2 b24,qi 8 g25] 1 [5,6,82] [(94,vb (decide ((a1.Lengths.getD x18.toNat du)<=(a1.Lengths.getD (w64 (x18-1)).toNat du))))] (q_J (decide ((a1.Lengths.getD x18.toNat du)<=(a1.Lengths.getD (w64 (x18-1)).toNat du))) hm)
      ·exact q_vv [qf 2 b24] 1 [5,6,82] [(94,vb false)] (q_J (false) hm)
   ·rcases bif_c hm with⟨b21,hm⟩|⟨b21,hm⟩
    ·exact q_vv [qf 2 b21] 1 [] [(82,vb true)] (q_J (true) hm)
    ·exact q_vv [qf 2 b21] 1 [] [(82,vb (decide ((a1.Lengths.getD x18.toNat du)>20000)))] (q_J (decide ((a1.Lengths.getD x18.toNat du)>20000)) hm)
  ·refine q_ex 0 ?_;obtain rfl:=oi hm;exact q_l1 ()
theorem qDI (E:Env 0) (a1:Product):∀(n:Nat) (x32:Int) (res:Int⊕Unit),wQ a1 n x32=some res->HL (kx E 110 0) (nd f74 8180) (wN 2 (λo=>MN) (λv st=>RetQ Tryz.prog f74 (ZD v) (ZL v) .ret st) res) n (PI a1 x32):=by
 intro n
 induction n with
 |zero=>
  intro x32 res hm;cases hm
 |succ n ih=>
  intro x32 res hm;refine qT (s_va 1 [(100,vb (decide (x32<(a1.Prices.length:Int))))] ?_);refine q_sq (q_cq hm (λhm=>?_) (λhm=>?_))
  ·refine q_sk (q_sq ?_);refine q_bk 3 ?_;obtain⟨g34,hm⟩:=qI hm;refine s_vv [qi 0 g34] 1 [100] [(8,vi (a1.Prices.getD x32.toNat du))] (q_jn (qEy a1 x32) (λp=>YD x32 (wQ a1 n) p=some res) ?_ ?_)
   ·rintro x36 hm;refine q_cq hm (λhm=>?_) (λhm=>?_)
    ·refine s_vn [] 1 ⟨[(2,vi 9)],[]⟩ ?_;obtain rfl:=oi hm;refine q_rt (zG 9 ?_);exact q_rm
    ·refine q_sk (q_vv [] 1 [99,108] [(99,vi (w64 (x32+1)))] ?_);exact q_hl (PI a1 (w64 (x32+1))) (ih (w64 (x32+1)) _ hm)
   ·rcases bif_c hm with⟨b35,hm⟩|⟨b35,hm⟩
    ·exact q_vv [qf 2 b35] 1 [8] [(108,vb true)] (q_J (true) hm)
    ·exact q_vv [qf 2 b35] 1 [8] [(108,vb (decide ((a1.Prices.getD x32.toNat du)>1000000)))] (q_J (decide ((a1.Prices.getD x32.toNat du)>1000000)) hm)
  ·refine q_ex 2 ?_;obtain rfl:=oi hm;exact q_l1 ()
theorem qFH (a1:Product) (r:Int) (hm:JG a1=some r):CtX Tryz.prog globs 74 0 0 [.agg (qH a1)] [] (ZD r) (ZL r):=by
 unfold JG at hm;refine q_E f74 110 λE=>?_;refine s_vn [] 0 ⟨[(1,vp 0 0)],[(0,bx 54 (qH a1))]⟩ (q_sq ?_);refine q_jn (qEx a1) (λp=>jY a1 p=some r) ?_ ?_
 ·rintro x5 hm;refine q_cq hm (λhm=>?_) (λhm=>?_)
  ·refine s_vn [] 1 ⟨[(2,vi 9)],[]⟩ ?_;obtain rfl:=oi hm;exact q_rt q_rm
  ·refine q_sk (q_sq ?_);refine q_jn (qEz a1) (λp=>jX a1 p=some r) ?_ ?_
   ·rintro x10 hm;refine q_cq hm (λhm=>?_) (λhm=>?_)
    ·refine s_vn [] 1 ⟨[(2,vi 9)],[]⟩ ?_;obtain rfl:=oi hm;exact q_rt q_rm
    ·refine q_sk (q_sq ?_);obtain⟨v12,h13,hm⟩:=qB hm;refine s_vv [qc 1 [48] 1 (NS a1 v12 h13)] 1 [46] [(4,vi v12.2)] (s_vv [] 1 [4] [(53,vb (decide (v12.2>600)))] ?_);refine q_cq hm (λhm=>?_) (λhm=>?_)
     ·refine s_vn [] 1 ⟨[(2,vi 9)],[]⟩ ?_;obtain rfl:=oi hm;exact q_rt q_rm
     ·refine q_sk (q_sq ?_);refine s_vv [] 1 [53] [(57,vb ((a1.Lengths.length:Int)==0))] (q_cq hm (λhm=>?_) (λhm=>?_))
      ·refine s_vn [] 1 ⟨[(2,vi 3)],[]⟩ ?_;obtain rfl:=oi hm;exact q_rt q_rm
      ·refine q_sk (q_sq ?_);refine s_vv [] 1 [57] [(61,vb (decide ((a1.Lengths.length:Int)>8)))] (q_cq hm (λhm=>?_) (λhm=>?_))
       ·refine s_vn [] 1 ⟨[(2,vi 4)],[]⟩ ?_;obtain rfl:=oi hm;exact q_rt q_rm
       ·refine q_sk (q_sq ?_);refine s_vv [] 1 [61] [(68,vb ((a1.Prices.length:Int) !=(a1.Lengths.length:Int)))] (q_cq hm (λhm=>?_) (λhm=>?_))
        ·refine s_vn [] 1 ⟨[(2,vi 19)],[]⟩ ?_;obtain rfl:=oi hm;exact q_rt q_rm
        ·refine q_sk (q_sq ?_);refine s_vv [] 1 [68] [(70,vc (tl qA du a1.Lengths)),(71,vi (a1.Lengths.length:Int)),(72,vi 0)] ?_;obtain⟨u30,h29,hm⟩:=qB hm;refine zT (nd f74 4084) 0 (by kernel_rfl) FUEL (λo=>MB a1) (λv st=>RetQ Tryz.prog f74 (ZD v) (ZL v) .ret st) u30 (q_hl (PJ a1 0) (qDJ E a1 FUEL 0 u30 h29)) ?_ ?_
         ·rintro v31 rfl st hr;obtain rfl:=oi hm;exact hr
         ·rintro o28 rfl;replace hm:_=some r:=hm;refine q_sq (s_vn [] 1 ⟨[(97,vc (tl qA du a1.Prices)),(98,vi (a1.Prices.length:Int)),(99,vi 0)],[]⟩ ?_);obtain⟨u40,h39,hm⟩:=qB hm;refine zT (nd f74 8180) 2 (by kernel_rfl) FUEL (λo=>MN) (λv st=>RetQ Tryz.prog f74 (ZD v) (ZL v) .ret st) u40 (q_hl (PI a1 0) (qDI E a1 FUEL 0 u40 h39)) ?_ ?_
          ·rintro v41 rfl st hr;obtain rfl:=oi hm;exact hr
          ·rintro o38 rfl;replace hm:_=some r:=hm;refine s_vn [] 1 ⟨[(2,vi 0)],[]⟩ ?_;obtain rfl:=oi hm;exact q_rt q_rm
   ·rcases bif_c hm with⟨b7,hm⟩|⟨b7,hm⟩
    ·exact q_vv [qf 3 b7] 1 [28] [(46,vb true)] (q_J (true) hm)
    ·rcases bif_c hm with⟨b8,hm⟩|⟨b8,hm⟩
     ·exact q_vv [qf 3 b7,qf 8 b8] 1 [28] [(46,vb true)] (q_J (true) hm)
     ·rcases bif_c hm with⟨b9,hm⟩|⟨b9,hm⟩
      ·exact q_vv [qf 3 b7,qf 8 b8,qf 13 b9] 1 [28] [(46,vb true)] (q_J (true) hm)
      ·exact q_vv [qf 3 b7,qf 8 b8,qf 13 b9] 1 [28] [(46,vb (decide (a1.Wane>1000)))] (q_J (decide (a1.Wane>1000)) hm)
 ·rcases bif_c hm with⟨b2,hm⟩|⟨b2,hm⟩
  ·exact q_vv [qf 3 b2] 1 [] [(28,vb true)] (q_J (true) hm)
  ·rcases bif_c hm with⟨b3,hm⟩|⟨b3,hm⟩
   ·exact q_vv [qf 3 b2,qf 8 b3] 1 [] [(28,vb true)] (q_J (true) hm)
   ·rcases bif_c hm with⟨b4,hm⟩|⟨b4,hm⟩
    ·exact q_vv [qf 3 b2,qf 8 b3,qf 15 b4] 1 [] [(28,vb true)] (q_J (true) hm)
    ·exact q_vv [qf 3 b2,qf 8 b3,qf 15 b4] 1 [] [(28,vb (decide (a1.Width>600)))] (q_J (decide (a1.Width>600)) hm)
def UN (r:Int):V:=vi r
def JJ (r:Int):List (Nat×(Nat×O)):=[]
theorem qGY (r:Int):jS (JJ r):=by
 intro i k o h;unfold JJ at h;cases h
def HF (a1:List Product) (x3:Int):St:=
 ⟨[(0,vc (tl qH du a1)),(11,vc (tl qH du a1)),(12,vi (a1.length:Int)),(13,vi x3)],[]⟩
def qC8 :St:=
 ⟨[],[]⟩
theorem qJv (E:Env 0) (a1:List Product):∀(n:Nat) (x3:Int) (res:Int⊕Unit),ZS a1 n x3=some res->HL (kx E 38 0) (nd f30 116) (wN 0 (λo=>qC8) (λv st=>RetQ Tryz.prog f30 (UN v) (JJ v) .ret st) res) n (HF a1 x3):=by
 intro n
 induction n with
 |zero=>
  intro x3 res hm;cases hm
 |succ n ih=>
  intro x3 res hm;refine qT (s_va 0 [(14,vb (decide (x3<(a1.length:Int))))] ?_);refine q_sq (q_cq hm (λhm=>?_) (λhm=>?_))
  ·refine q_sk (q_sq ?_);refine q_bk 1 ?_;obtain⟨g5,hm⟩:=qI hm;refine s_vu [qi 1 g5] 0 [14] [(3,vi x3),(4,vp 0 0)] [] [(0,bx 54 (qH (a1.getD x3.toNat du)))] (q_sq ?_);obtain⟨v6,h7,hm⟩:=qB hm;refine s_vv [qc 2 [19] 1 (qP1 ((a1.getD x3.toNat du).Name) v6 h7)] 1 [] [(21,vb (!v6))] (q_cq hm (λhm=>?_) (λhm=>?_))
   ·refine s_vn [] 1 ⟨[(2,vi 6)],[]⟩ ?_;obtain rfl:=oi hm;refine q_rt (zG 6 ?_);exact q_rm
   ·refine q_sk (q_sq ?_);obtain⟨g9,hm⟩:=qI hm;obtain⟨v10,h11,hm⟩:=qB hm;refine s_du [qd 2 (drw ((a1.take x3.toNat).length) 0 (rf qH (a1.take x3.toNat))) (slPhi qH du a1 x3 (And.intro (ZY g9).2.1 (ZY g9).2.2)),qc 5 [25,27] 1 (qPw (a1.take x3.toNat) ((a1.getD x3.toNat du).Name) v10 h11)] [0,0,3,0,8,31,63,127,127,255,1023] 1 [3,21] [(6,vb v10.2)] [] [] (s_vv [] 1 [6] [(31,vb v10.2)] ?_);refine q_cq hm (λhm=>?_) (λhm=>?_)
    ·refine s_vn [] 1 ⟨[(2,vi 7)],[]⟩ ?_;obtain rfl:=oi hm;refine q_rt (zG 7 ?_);exact q_rm
    ·refine q_sk ?_;obtain⟨v13,h14,hm⟩:=qB hm;refine s_vu [qc 1 [32] 1 (qFH (a1.getD x3.toNat du) v13 h14)] 1 [4,31] [(7,vi v13)] [0] [] (s_va 1 [(35,vb (v13 !=0))] ?_);refine q_cq hm (λhm=>?_) (λhm=>?_)
     ·refine s_vn [] 1 ⟨[(2,vi v13)],[]⟩ ?_;obtain rfl:=oi hm;refine q_rt (zG v13 ?_);exact q_rm
     ·refine q_sk (q_vv [] 1 [7,13,35] [(13,vi (w64 (x3+1)))] ?_);exact q_hl (HF a1 (w64 (x3+1))) (ih (w64 (x3+1)) _ hm)
  ·refine q_ex 0 ?_;obtain rfl:=oi hm;exact q_l1 ()
theorem jZ (a1:List Product) (r:Int) (hm:yK a1=some r):CtX Tryz.prog globs 30 0 0 [.one (tl qH du a1)] [] (UN r) (JJ r):=by
 unfold yK at hm;refine q_E f30 38 λE=>?_;refine s_vn [] 0 ⟨[(0,vc (tl qH du a1))],[]⟩ (q_sq ?_);refine s_va 0 [(10,vb (decide ((a1.length:Int)>16)))] (q_cq hm (λhm=>?_) (λhm=>?_))
 ·refine s_vn [] 0 ⟨[(2,vi 4)],[]⟩ ?_;obtain rfl:=oi hm;exact q_rt q_rm
 ·refine q_sk (q_sq ?_);refine s_vv [] 0 [10] [(11,vc (tl qH du a1)),(12,vi (a1.length:Int)),(13,vi 0)] ?_;obtain⟨u18,h17,hm⟩:=qB hm;refine zT (nd f30 116) 0 (by kernel_rfl) FUEL (λo=>qC8) (λv st=>RetQ Tryz.prog f30 (UN v) (JJ v) .ret st) u18 (q_hl (HF a1 0) (qJv E a1 FUEL 0 u18 h17)) ?_ ?_
  ·rintro v19 rfl st hr;obtain rfl:=oi hm;exact hr
  ·rintro o16 rfl;replace hm:_=some r:=hm;refine s_vn [] 0 ⟨[(2,vi 0)],[]⟩ ?_;obtain rfl:=oi hm;exact q_rt q_rm
def qRA (r:Bool):V:=vb r
def qQS (r:Bool):List (Nat×(Nat×O)):=[]
def qLx (x3:Bool):St:=
 ⟨[(2,vb x3)],[]⟩
theorem qFX (a1:Int) (r:Bool) (hm:GT a1=some r):CtX Tryz.prog globs 105 0 0 [.one (ci a1)] [] (qRA r) (qQS r):=by
 unfold GT at hm;refine q_E f105 9 λE=>?_;refine s_vn [] 0 ⟨[(0,vi a1)],[]⟩ (q_jn (qLx) (λp=>MH p=some r) ?_ ?_)
 ·rintro x3 hm;obtain rfl:=oi hm;exact q_rt q_rm
 ·rcases bif_c hm with⟨b2,hm⟩|⟨b2,hm⟩
  ·exact q_vn [qf 2 b2] 0 ⟨[(2,vb (decide (a1<=1000000)))],[]⟩ (q_J (decide (a1<=1000000)) hm)
  ·exact q_vn [qf 2 b2] 0 ⟨[(2,vb false)],[]⟩ (q_J (false) hm)
open Go.Proofs Go.Proofs.Tryz
def qRl (r:Bool):V:=vb r
def qSv (r:Bool):List (Nat×(Nat×O)):=[]
def qMl (x3:Bool):St:=
 ⟨[(2,vb x3)],[]⟩
theorem qBt (a1:Int) (r:Bool) (hm:DH a1=some r):CtX Tryz.prog globs 104 0 0 [.one (ci a1)] [] (qRl r) (qSv r):=by
 unfold DH at hm;refine q_E f104 9 λE=>?_;refine s_vn [] 0 ⟨[(0,vi a1)],[]⟩ (q_jn (qMl) (λp=>ML p=some r) ?_ ?_)
 ·rintro x3 hm;obtain rfl:=oi hm;exact q_rt q_rm
 ·rcases bif_c hm with⟨b2,hm⟩|⟨b2,hm⟩
  ·exact q_vn [qf 2 b2] 0 ⟨[(2,vb (decide (a1<=20000)))],[]⟩ (q_J (decide (a1<=20000)) hm)
  ·exact q_vn [qf 2 b2] 0 ⟨[(2,vb false)],[]⟩ (q_J (false) hm)
def qUb (r:Int):V:=vi r
def qT9 (r:Int):List (Nat×(Nat×O)):=[]
def qOe (x20:Bool):St:=
 ⟨[(60,vb x20)],[]⟩
def qOv (a2:Rates) (x12:Bool):St:=
 ⟨[(3,vp 1 0),(36,vb x12)],[(1,bx 40 (zN a2))]⟩
def qNH (a1:Saw) (a2:Rates) (x6:Bool):St:=
 ⟨[(2,vp 0 0),(3,vp 1 0),(22,vb x6)],[(0,bx 38 (zW a1)),(1,bx 40 (zN a2))]⟩
theorem AJ (a1:Saw) (a2:Rates) (r:Int) (hm:PR a1 a2=some r):CtX Tryz.prog globs 50 0 0 [.agg (zW a1),.agg (zN a2)] [] (qUb r) (qT9 r):=by
 unfold PR at hm;refine q_E f50 61 λE=>?_;refine s_vn [] 0 ⟨[(2,vp 0 0),(3,vp 1 0)],[(0,bx 38 (zW a1)),(1,bx 40 (zN a2))]⟩ (q_sq ?_);refine q_jn (qNH a1 a2) (λp=>RG a1 a2 p=some r) ?_ ?_
 ·rintro x6 hm;refine q_cq hm (λhm=>?_) (λhm=>?_)
  ·refine s_vn [] 2 ⟨[(4,vi 9)],[]⟩ ?_;obtain rfl:=oi hm;exact q_rt q_rm
  ·refine q_sk (q_sq ?_);refine q_jn (qOv a2) (λp=>GS a2 p=some r) ?_ ?_
   ·rintro x12 hm;refine q_cq hm (λhm=>?_) (λhm=>?_)
    ·refine s_vn [] 2 ⟨[(4,vi 9)],[]⟩ ?_;obtain rfl:=oi hm;exact q_rt q_rm
    ·refine q_sk (q_sq ?_);refine q_jn (qOe) (λp=>YL p=some r) ?_ ?_
     ·rintro x20 hm;refine q_cq hm (λhm=>?_) (λhm=>?_)
      ·refine s_vn [] 2 ⟨[(4,vi 9)],[]⟩ ?_;obtain rfl:=oi hm;exact q_rt q_rm
      ·refine q_sk (s_vn [] 2 ⟨[(4,vi 0)],[]⟩ ?_);obtain rfl:=oi hm;exact q_rt q_rm
     ·rcases bif_c hm with⟨b14,hm⟩|⟨b14,hm⟩
      ·exact q_vn [qf 3 b14] 2 ⟨[(60,vb true)],[]⟩ (q_J (true) hm)
      ·rcases bif_c hm with⟨b15,hm⟩|⟨b15,hm⟩
       ·exact q_vn [qf 3 b14,qf 8 b15] 2 ⟨[(60,vb true)],[]⟩ (q_J (true) hm)
       ·rcases bif_c hm with⟨b16,hm⟩|⟨b16,hm⟩
        ·exact q_vn [qf 3 b14,qf 8 b15,qf 13 b16] 2 ⟨[(60,vb true)],[]⟩ (q_J (true) hm)
        ·rcases bif_c hm with⟨b17,hm⟩|⟨b17,hm⟩
         ·exact q_vn [qf 3 b14,qf 8 b15,qf 13 b16,qf 18 b17] 2 ⟨[(60,vb true)],[]⟩ (q_J (true) hm)
         ·obtain⟨v18,h19,hm⟩:=qB hm;exact q_vn [qf 3 b14,qf 8 b15,qf 13 b16,qf 18 b17,qk 21 [55,57] 2 ⟨[(55,vb false),(57,vi a2.Fine)],[]⟩ (qFX a2.Fine v18 h19)] 2 ⟨[(60,vb (!v18))],[]⟩ (q_J (!v18) hm)
   ·rcases bif_c hm with⟨b8,hm⟩|⟨b8,hm⟩
    ·exact q_vu [qf 3 b8] 2 [2,22] [(36,vb true)] [0] [] (q_J (true) hm)
    ·rcases bif_c hm with⟨b9,hm⟩|⟨b9,hm⟩
     ·exact q_vu [qf 3 b8,qf 8 b9] 2 [2,22] [(36,vb true)] [0] [] (q_J (true) hm)
     ·obtain⟨v10,h11,hm⟩:=qB hm;exact q_vu [qf 3 b8,qf 8 b9,qk 11 [31,33] 2 ⟨[(31,vb false),(33,vi a1.Step)],[]⟩ (qBt a1.Step v10 h11)] 2 [2,22] [(36,vb (!v10))] [0] [] (q_J (!v10) hm)
 ·rcases bif_c hm with⟨b3,hm⟩|⟨b3,hm⟩
  ·exact q_vv [qf 3 b3] 2 [] [(22,vb true)] (q_J (true) hm)
  ·rcases bif_c hm with⟨b4,hm⟩|⟨b4,hm⟩
   ·exact q_vv [qf 3 b3,qf 8 b4] 2 [] [(22,vb true)] (q_J (true) hm)
   ·rcases bif_c hm with⟨b5,hm⟩|⟨b5,hm⟩
    ·exact q_vv [qf 3 b3,qf 8 b4,qf 13 b5] 2 [] [(22,vb true)] (q_J (true) hm)
    ·exact q_vv [qf 3 b3,qf 8 b4,qf 13 b5] 2 [] [(22,vb (decide (a1.Trim>20)))] (q_J (decide (a1.Trim>20)) hm)
def IJ (r:Int):V:=vi r
def IH (r:Int):List (Nat×(Nat×O)):=[]
def qIt (a1:Rect) (x5:Int) (x9:Bool):St:=
 ⟨[(33,va (qO a1)),(34,vi x5),(42,vb x9)],[]⟩
def NJ (a1:Rect) (x5:Int):St:=
 ⟨[(33,va (qO a1)),(34,vi x5)],[]⟩
def qBO :St:=
 ⟨[],[]⟩
def qI1 (a1:Rect) (x3:Bool):St:=
 ⟨[(1,vp 0 0),(20,vb x3)],[(0,bx 33 (qO a1))]⟩
theorem qH2 (E:Env 0) (a1:Rect):∀(n:Nat) (x5:Int) (res:Int⊕Unit),wC a1 n x5=some res->HL (kx E 44 0) (nd f51 116) (wN 0 (λo=>qBO) (λv st=>RetQ Tryz.prog f51 (IJ v) (IH v) .ret st) res) n (NJ a1 x5):=by
 intro n
 induction n with
 |zero=>
  intro x5 res hm;cases hm
 |succ n ih=>
  intro x5 res hm;refine qT (s_va 1 [(35,vb (decide (x5<4)))] ?_);refine q_sq (q_cq hm (λhm=>?_) (λhm=>?_))
  ·refine q_sk (q_sq ?_);refine q_bk 1 ?_;obtain⟨g7,hm⟩:=qI hm;refine s_vv [qi 0 g7] 1 [35] [(4,vi (([a1.X.A,a1.X.B,a1.Y.A,a1.Y.B]:List Int).getD x5.toNat 0))] (q_jn (qIt a1 x5) (λp=>SB x5 (wC a1 n) p=some res) ?_ ?_)
   ·rintro x9 hm;refine q_cq hm (λhm=>?_) (λhm=>?_)
    ·refine s_vn [] 1 ⟨[(2,vi 9)],[]⟩ ?_;obtain rfl:=oi hm;refine q_rt (zG 9 ?_);exact q_rm
    ·refine q_sk (q_vv [] 1 [34,42] [(34,vi (w64 (x5+1)))] ?_);exact q_hl (NJ a1 (w64 (x5+1))) (ih (w64 (x5+1)) _ hm)
   ·rcases bif_c hm with⟨b8,hm⟩|⟨b8,hm⟩
    ·exact q_vv [qf 2 b8] 1 [4] [(42,vb true)] (q_J (true) hm)
    ·exact q_vv [qf 2 b8] 1 [4] [(42,vb (decide ((([a1.X.A,a1.X.B,a1.Y.A,a1.Y.B]:List Int).getD x5.toNat 0)>600)))] (q_J (decide ((([a1.X.A,a1.X.B,a1.Y.A,a1.Y.B]:List Int).getD x5.toNat 0)>600)) hm)
  ·refine q_ex 0 ?_;obtain rfl:=oi hm;exact q_l1 ()
theorem qDs (a1:Rect) (r:Int) (hm:XZ a1=some r):CtX Tryz.prog globs 51 0 0 [.agg (qO a1)] [] (IJ r) (IH r):=by
 unfold XZ at hm;refine q_E f51 44 λE=>?_;refine s_vn [] 0 ⟨[(1,vp 0 0)],[(0,bx 33 (qO a1))]⟩ (q_sq ?_);refine q_jn (qI1 a1) (λp=>UH a1 p=some r) ?_ ?_
 ·rintro x3 hm;refine q_cq hm (λhm=>?_) (λhm=>?_)
  ·refine s_vn [] 1 ⟨[(2,vi 19)],[]⟩ ?_;obtain rfl:=oi hm;exact q_rt q_rm
  ·refine q_sk (q_sq ?_);refine s_vn [] 1 ⟨[(33,va (qO a1)),(34,vi 0)],[]⟩ ?_;obtain⟨u13,h12,hm⟩:=qB hm;refine zT (nd f51 116) 0 (by kernel_rfl) FUEL (λo=>qBO) (λv st=>RetQ Tryz.prog f51 (IJ v) (IH v) .ret st) u13 (q_hl (NJ a1 0) (qH2 E a1 FUEL 0 u13 h12)) ?_ ?_
   ·rintro v14 rfl st hr;obtain rfl:=oi hm;exact hr
   ·rintro o11 rfl;replace hm:_=some r:=hm;refine s_vn [] 1 ⟨[(2,vi 0)],[]⟩ ?_;obtain rfl:=oi hm;exact q_rt q_rm
 ·rcases bif_c hm with⟨b2,hm⟩|⟨b2,hm⟩
  ·exact q_vv [qf 7 b2] 1 [] [(20,vb true)] (q_J (true) hm)
  ·exact q_vv [qf 7 b2] 1 [] [(20,vb (decide (a1.Y.A≥a1.Y.B)))] (q_J (decide (a1.Y.A≥a1.Y.B)) hm)
open Go.Proofs Go.Proofs.Tryz
def qWk (r:Int):V:=vi r
def qVx (r:Int):List (Nat×(Nat×O)):=[]
theorem qTO (a1:List qC) (a2:List qF) (a3:List Product) (a4:Rect) (a5:Saw) (a6:Rates) (r:Int) (hm:BW a1 a2 a3 a4 a5 a6=some r):CtX Tryz.prog globs 85 0 0 [.one (tl qL du a1),.one (tl qP du a2),.one (tl qH du a3),.agg (qO a4),.agg (zW a5),.agg (zN a6)] [] (qWk r) (qVx r):=by
 unfold BW at hm;refine q_E f85 40 λE=>?_;refine s_vn [] 0 ⟨[(0,vc (tl qL du a1)),(1,vc (tl qP du a2)),(2,vc (tl qH du a3)),(9,vp 0 0),(10,vp 1 0),(11,vp 2 0)],[(0,bx 33 (qO a4)),(1,bx 38 (zW a5)),(2,bx 40 (zN a6))]⟩ (q_sq ?_);obtain⟨v7,h8,hm⟩:=qB hm;refine s_vv [qc 1 [17] 3 (YM a1 v7 h8)] 3 [0] [(13,vi v7)] (s_va 3 [(20,vb (v7 !=0))] ?_);refine q_cq hm (λhm=>?_) (λhm=>?_)
 ·refine s_vn [] 3 ⟨[(12,vi v7)],[]⟩ ?_;obtain rfl:=oi hm;exact q_rt q_rm
 ·refine q_sk (q_sq ?_);obtain⟨v10,h11,hm⟩:=qB hm;refine s_vv [qc 1 [22] 3 (UI a2 v10 h11)] 3 [1,13,20] [(14,vi v10)] (s_va 3 [(25,vb (v10 !=0))] ?_);refine q_cq hm (λhm=>?_) (λhm=>?_)
  ·refine s_vn [] 3 ⟨[(12,vi v10)],[]⟩ ?_;obtain rfl:=oi hm;exact q_rt q_rm
  ·refine q_sk (q_sq ?_);obtain⟨v13,h14,hm⟩:=qB hm;refine s_vv [qc 1 [27] 3 (jZ a3 v13 h14)] 3 [2,14,25] [(15,vi v13)] (s_va 3 [(30,vb (v13 !=0))] ?_);refine q_cq hm (λhm=>?_) (λhm=>?_)
   ·refine s_vn [] 3 ⟨[(12,vi v13)],[]⟩ ?_;obtain rfl:=oi hm;exact q_rt q_rm
   ·refine q_sk (q_sq ?_);obtain⟨v16,h17,hm⟩:=qB hm;refine s_vu [qc 2 [32,33] 3 (AJ a5 a6 v16 h17)] 3 [10,11,15,30] [(16,vi v16)] [1,2] [] (s_va 3 [(36,vb (v16 !=0))] ?_);refine q_cq hm (λhm=>?_) (λhm=>?_)
    ·refine s_vn [] 3 ⟨[(12,vi v16)],[]⟩ ?_;obtain rfl:=oi hm;exact q_rt q_rm
    ·refine q_sk ?_;obtain⟨v19,h20,hm⟩:=qB hm;refine s_vn [qc 1 [38] 3 (qDs a4 v19 h20)] 3 ⟨[(12,vi v19)],[]⟩ ?_;obtain rfl:=oi hm;exact q_rt q_rm
def qXG (r:Rect):V:=va (qO r)
def qXe (r:Rect):List (Nat×(Nat×O)):=[]
theorem qE1 (a1:Rect) (a2:Int) (a3:Int) (r:Rect) (hm:HW a1 a2 a3=some r):CtX Tryz.prog globs 187 0 0 [.agg (qO a1),.one (ci a2),.one (ci a3)] [] (qXG r) (qXe r):=by
 unfold HW at hm;refine q_E f187 21 λE=>?_;refine s_vn [] 0 ⟨[(1,vi a2),(2,vi a3),(3,vp 0 0),(6,vp 1 0)],[(0,bx 33 (qO a1)),(1,bx 33 [ci 0,ci 0,ci 0,ci 0])]⟩ (s_vn [] 2 ⟨[(6,vp 1 0)],[(1,bx 33 [ci (w64 (a1.X.A+a2)),ci (w64 (a1.X.A+a3)),ci a1.Y.A,ci a1.Y.B])]⟩ ?_);obtain rfl:=oi hm;exact q_rt q_rm
def qBd (r:List Node):V:=vo 0 0 2 r.length
def PM (r:List Node):List (Nat×(Nat×O)):=[(0,ro 0 65 2 r.length (rf qE r))]
theorem qIX (r:List Node):jS (PM r):=by
 intro i k o h;unfold PM at h;rw[look_cons] at h;split at h
 ·cases h;exact λ_ _=>rfl
 ·cases h
theorem qHr (a1:List Node) (r:List Node) (hm:XL a1=some r):CtX Tryz.prog globs 211 0 0 [.one (tl qE du a1)] [] (qBd r) (PM r):=by
 unfold XL at hm;obtain⟨g1,hm⟩:=qI hm;obtain rfl:=kJ hm;refine qW9 (fn:=f211) (c:=nd f211 1) (nt:=8) (by kernel_rfl) (by kernel_rfl) (by kernel_rfl) (by kernel_rfl) λE=>?_;refine R_sq f211 2 3 (by kernel_rfl) (R_rn f211 2 0 [] [] 0 ⟨[(0,vc (tl qE du a1))],[]⟩ o0 (by kernel_rfl) (by kernel_rfl) ?_);refine R_sq f211 6 7 (by kernel_rfl) (R_sq f211 12 13 (by kernel_rfl) ?_);refine R_nil f211 12 1 1 ⟨[(0,vc (tl qE du a1)),(3,vc (tl qE du a1))],[]⟩ 44 44 65 4 (.tmp 3) a1.length (rf qE a1) (by kernel_rfl) (by kernel_rfl) (by kernel_rfl) (λb hb=>?_)
 refine R_cn f211 (.tmp 4) 26 27 (by kernel_rfl) b (by kernel_rfl) (λb6=>?_) (λb6=>?_)
 ·obtain rfl:a1=[]:=List.eq_nil_of_length_eq_zero (hb b6);refine R_sq f211 52 53 (by kernel_rfl) (R_rn f211 52 2 [] [.own 2 0 65 2 (rf qE [])] 0 ⟨[(2,vo 0 0 2 0)],[(0,ro 0 65 2 0 (rf qE []))]⟩ o0 (by kernel_rfl) (by kernel_rfl) ?_);exact R_ret (by kernel_rfl) (qVJ (by kernel_rfl) (by kernel_rfl))
 ·refine qZU (by kernel_rfl) (R_sq f211 14 15 (by kernel_rfl) ?_);refine R_rn f211 14 3 [(0,drw 0 0 (rf qE [])),(2,drw 0 1 (rf qE ([]++a1)))] [.len 0 a1.length] 0 ⟨[(2,vo 0 1 2 a1.length)],[(0,ro 1 65 2 a1.length (rf qE ([]++a1)))]⟩ (o1 (And.intro (And.intro (litP qE du 2 (λ_=>rfl) ([]:List Node) 0 rfl) (apP qE du ([]:List Node) a1 0 a1.length 2 16 True trivial rfl rfl (λ_=>rfl) (by have:=zI g1;rw[kw];exact this))) (And.intro (And.intro (kw a1.length) (kw a1.length)) (kw a1.length)))) (by kernel_rfl) (by kernel_rfl) (R_ret (by kernel_rfl) ?_);exact qVJ (by kernel_rfl) (by kernel_rfl)
open Go.Proofs Go.Proofs.Tryz
def qEk (a1:List (List Node)) (a2:List Node) (r:(List (List Node))×(List (List Node))):V:=vo 0 0 1 r.2.length
def qEa (a1:List (List Node)) (a2:List Node) (r:(List (List Node))×(List (List Node))):List (Nat×(Nat×O)):=[(0,ro 0 44 1 r.2.length (rf (qM qE) r.2)),(1,ro 0 65 2 a2.length (rf qE a2))]
theorem qKN (a1:List (List Node)) (a2:List Node) (r:(List (List Node))×(List (List Node))) (hm:MO a1 a2=some r):CtX Tryz.prog globs 188 2 0 [.one (.own 0 0 1 a1.length),.one (.own 1 0 2 a2.length)] [(0,ro 0 44 1 a1.length (rf (qM qE) a1)),(1,ro 0 65 2 a2.length (rf qE a2))] (qEk a1 a2 r) (qEa a1 a2 r):=by
 unfold MO at hm;refine q_E f188 10 λE=>?_;refine s_vn [] 2 ⟨[(0,vo 0 0 1 a1.length),(1,vo 1 0 2 a2.length)],[(0,ro 0 44 1 a1.length (rf (qM qE) a1)),(1,ro 0 65 2 a2.length (rf qE a2))]⟩ ?_;obtain⟨v3,h4,hm⟩:=qB hm;obtain⟨g5,hm⟩:=qI hm
 refine s_vu [qd 2 (dex (cen [] [] 2 0 (qBd v3) (PM v3) [6] [1])) (wU (K:=(kx E 10 0)) (b:=false) ⟨[(6,vo 1 0 2 a2.length)],[(1,ro 0 65 2 a2.length (rf qE a2))]⟩ (opAt (rg f188 6) 2) [] [] 2 (o1 (ki a2.length)) rfl (qHr a2 v3 h4) (.inr ⟨(by kernel_rfl),qIX v3⟩) (by kernel_rfl)),qd 3 (dpr [.frz 2] (drw 3 0 (rf (qM qE) [v3]))) (ki v3.length),qd 3 dN (litP (qM qE) du 1 (λ_=>rfl) ([v3]:List (List Node)) 1 rfl),qd 4 (drw 0 1 (rf (qM qE) (a1++[v3]))) (apP (qM qE) du a1 ([v3]:List (List Node)) a1.length 1 1 24 (1<=1) (ki _) rfl rfl (λ_=>rfl) (zI g5))] 2 [0,1] [(4,vo 0 1 1 (a1.length+1))] [0] [(0,ro 1 44 1 (a1.length+1) (rf (qM qE) (a1++[v3])))] ?_
 refine q_fu [.len 0 ((a1++[v3]).length)] [4] [(4,vo 0 1 1 ((a1++[v3]).length))] [0] [(0,ro 1 44 1 ((a1++[v3]).length) (rf (qM qE) (a1++[v3])))] (o1 (And.intro (Eq.symm (show(a1++[v3]).length=(a1.length+1) from(zE rfl rfl))) (Eq.symm (show(a1++[v3]).length=(a1.length+1) from(zE rfl rfl))))) ?_;obtain rfl:=oi hm;exact q_rt q_rm
def qXJ (r:Span):V:=va (qG r)
def qXf (r:Span):List (Nat×(Nat×O)):=[]
theorem DO (a1:Span) (a2:Span) (r:Span) (hm:PQ a1 a2=some r):CtX Tryz.prog globs 168 0 0 [.agg (qG a1),.agg (qG a2)] [] (qXJ r) (qXf r):=by
 unfold PQ at hm;refine q_E f168 24 λE=>?_;refine s_vn [] 0 ⟨[(2,vp 0 0),(3,vp 1 0),(4,vp 2 0)],[(0,bx 31 (qG a1)),(1,bx 31 (qG a2)),(2,bx 31 [ci 0,ci 0])]⟩ (s_vu [] 3 [2,3] [(5,vp 3 0)] [0,1] [(3,bx 31 [ci (imax a1.A a2.A),ci (imin a1.B a2.B)])] ?_);refine q_sq (s_va 4 [(21,vb (decide ((imax a1.A a2.A)≥(imin a1.B a2.B))))] ?_);refine q_cq hm (λhm=>?_) (λhm=>?_)
 ·refine s_vu [] 4 [5,21] [] [3] [] ?_;obtain rfl:=oi hm;exact q_rt q_rm
 ·refine q_sk (s_vn [] 4 ⟨[(4,vp 2 0)],[(2,bx 31 [ci (imax a1.A a2.A),ci (imin a1.B a2.B)])]⟩ ?_);obtain rfl:=oi hm;exact q_rt q_rm
def qTz (r:Box×Bool):V:= .tup [.agg (wG r.1),.one (cb r.2)]
def qTR (r:Box×Bool):List (Nat×(Nat×O)):=[]
def qM8 (v3:Span) (v5:Span) (v7:Span) (x17:Bool):St:=
 ⟨[(4,vp 2 0),(6,vp 3 0),(35,vb x17)],[(2,bx 128 [ci 0,ci 0,ci 0,ci 0,ci 0,ci 0]),(3,bx 128 [ci v3.A,ci v3.B,ci v5.A,ci v5.B,ci v7.A,ci v7.B])]⟩
theorem qRO (a1:Box) (a2:Box) (r:Box×Bool) (hm:qCN a1 a2=some r):CtX Tryz.prog globs 206 0 0 [.agg (wG a1),.agg (wG a2)] [] (qTz r) (qTR r):=by
 unfold qCN at hm;refine q_E f206 38 λE=>?_;refine s_vn [] 0 ⟨[(2,vp 0 0),(3,vp 1 0),(4,vp 2 0)],[(0,bx 128 (wG a1)),(1,bx 128 (wG a2)),(2,bx 128 [ci 0,ci 0,ci 0,ci 0,ci 0,ci 0])]⟩ ?_;obtain⟨v3,h4,hm⟩:=qB hm;obtain⟨v5,h6,hm⟩:=qB hm;obtain⟨v7,h8,hm⟩:=qB hm;refine s_du [qc 4 [8,10] 3 (DO a1.X a2.X v3 h4),qc 9 [13,15] 3 (DO a1.Y a2.Y v5 h6),qc 14 [18,20] 3 (DO a1.Z a2.Z v7 h8)] [0,1,0,4,15,0,32,0,128,511,0,1024,0,4096,16383,32767,0,131071] 3 [2,3] [(6,vp 3 0)] [0,1] [(3,bx 128 [ci v3.A,ci v3.B,ci v5.A,ci v5.B,ci v7.A,ci v7.B])] (q_sq ?_)
 refine q_jn (qM8 v3 v5 v7) (λp=>BF v3 v5 v7 p=some r) ?_ ?_
 ·rintro x17 hm;refine q_cq hm (λhm=>?_) (λhm=>?_)
  ·refine s_vu [] 4 [6,35] [(5,vb false)] [3] [] ?_;obtain rfl:=oi hm;exact q_rt q_rm
  ·refine q_sk (s_vu [] 4 [6,35] [(5,vb true)] [2,3] [(2,bx 128 [ci v3.A,ci v3.B,ci v5.A,ci v5.B,ci v7.A,ci v7.B])] ?_);obtain rfl:=oi hm;exact q_rt q_rm
 ·obtain⟨v9,h10,hm⟩:=qB hm;rcases bif_c hm with⟨b11,hm⟩|⟨b11,hm⟩
  ·exact q_vv [qc 2 [24] 4 (wS v3 v9 h10),qf 3 b11] 4 [] [(35,vb true)] (q_J (true) hm)
  ·obtain⟨v12,h13,hm⟩:=qB hm;rcases bif_c hm with⟨b14,hm⟩|⟨b14,hm⟩
   ·exact q_vv [qc 2 [24] 4 (wS v3 v9 h10),qf 3 b11,qk 6 [26,28] 4 ⟨[(26,vb false),(28,va (qG v5))],[]⟩ (wS v5 v12 h13),qf 8 b14] 4 [] [(35,vb true)] (q_J (true) hm)
   ·obtain⟨v15,h16,hm⟩:=qB hm;exact q_vv [qc 2 [24] 4 (wS v3 v9 h10),qf 3 b11,qk 6 [26,28] 4 ⟨[(26,vb false),(28,va (qG v5))],[]⟩ (wS v5 v12 h13),qf 8 b14,qk 11 [31,33] 4 ⟨[(31,vb false),(33,va (qG v7))],[]⟩ (wS v7 v15 h16)] 4 [] [(35,vb v15)] (q_J (v15) hm)
open Go.Proofs Go.Proofs.Tryz
def qOb (r:Bool):V:=vb r
def qOw (r:Bool):List (Nat×(Nat×O)):=[]
theorem qEm (a1:qF) (a2:Box) (r:Bool) (hm:RJ a1 a2=some r):CtX Tryz.prog globs 175 0 0 [.agg (qP a1),.agg (wG a2)] [] (qOb r) (qOw r):=by
 unfold RJ at hm;refine q_E f175 15 λE=>?_;refine s_vn [] 0 ⟨[(2,vp 0 0),(3,vp 1 0)],[(0,bx 212 (qP a1)),(1,bx 128 (wG a2))]⟩ ?_;obtain⟨v3,h4,hm⟩:=qB hm;refine s_vn [qc 3 [9,10] 2 (qRO a1.Box a2 v3 h4)] 2 ⟨[(6,vb v3.2)],[]⟩ (s_vn [] 3 ⟨[(4,vb v3.2)],[]⟩ ?_);obtain rfl:=oi hm;exact q_rt q_rm
def qM6 (r:Bool):V:=vb r
def qOn (r:Bool):List (Nat×(Nat×O)):=[]
def qJr (x5:Bool):St:=
 ⟨[(4,vb x5)],[]⟩
theorem qMb (a1:Span) (a2:Int) (r:Bool) (hm:AO a1 a2=some r):CtX Tryz.prog globs 176 0 0 [.agg (qG a1),.one (ci a2)] [] (qM6 r) (qOn r):=by
 unfold AO at hm;refine q_E f176 21 λE=>?_;refine s_vn [] 0 ⟨[(1,vi a2),(2,vp 0 0)],[(0,bx 31 (qG a1))]⟩ (q_jn (qJr) (λp=>PE p=some r) ?_ ?_)
 ·rintro x5 hm;obtain rfl:=oi hm;exact q_rt q_rm
 ·rcases bif_c hm with⟨b3,hm⟩|⟨b3,hm⟩
  ·rcases bif_c hm with⟨b4,hm⟩|⟨b4,hm⟩
   ·exact q_vn [qf 3 b3,qf 10 b4] 1 ⟨[(4,vb (decide (a1.B<=a2)))],[]⟩ (q_J (decide (a1.B<=a2)) hm)
   ·exact q_vn [qf 3 b3,qf 10 b4] 1 ⟨[(4,vb false)],[]⟩ (q_J (false) hm)
  ·exact q_vn [qf 3 b3] 1 ⟨[(4,vb false)],[]⟩ (q_J (false) hm)
def qBg (r:Int×Bool):V:= .tup [.one (ci r.1),.one (cb r.2)]
def qBD (r:Int×Bool):List (Nat×(Nat×O)):=[]
def SU (a1:Product) (a2:Int) (x3:Int):St:=
 ⟨[(1,vi a2),(2,vp 0 0),(9,vc (tl qA du a1.Lengths)),(10,vi (a1.Lengths.length:Int)),(11,vi x3)],[(0,bx 54 (qH a1))]⟩
def qDa :St:=
 ⟨[],[]⟩
theorem qJx (E:Env 0) (a1:Product) (a2:Int):∀(n:Nat) (x3:Int) (res:(Int×Bool)⊕Unit),ZR a1 a2 n x3=some res->HL (kx E 30 0) (nd f177 52) (wN 0 (λo=>qDa) (λv st=>RetQ Tryz.prog f177 (qBg v) (qBD v) .ret st) res) n (SU a1 a2 x3):=by
 intro n
 induction n with
 |zero=>
  intro x3 res hm;cases hm
 |succ n ih=>
  intro x3 res hm;refine qT (s_va 1 [(12,vb (decide (x3<(a1.Lengths.length:Int))))] ?_);refine q_sq (q_cq hm (λhm=>?_) (λhm=>?_))
  ·refine q_sk (q_sq ?_);refine q_bk 1 ?_;obtain⟨g5,hm⟩:=qI hm;refine s_vv [qi 1 g5] 1 [12] [(6,vi x3),(7,vi (a1.Lengths.getD x3.toNat du))] (q_sq ?_);refine s_vv [] 1 [7] [(18,vb ((a1.Lengths.getD x3.toNat du) !=a2))] (q_cq hm (λhm=>?_) (λhm=>?_))
   ·refine q_ex 1 (q_vv [] 1 [6,11,18] [(11,vi (w64 (x3+1)))] ?_);exact q_hl (SU a1 a2 (w64 (x3+1))) (ih (w64 (x3+1)) _ hm)
   ·refine q_sk (q_sq ?_);refine s_vv [] 1 [1,9,10,11,18] [(23,vb (decide (x3≥(a1.Prices.length:Int))))] (q_cq hm (λhm=>?_) (λhm=>?_))
    ·refine s_vn [] 1 ⟨[(4,vi 0),(5,vb false)],[]⟩ ?_;obtain rfl:=oi hm;refine q_rt (zG (0,false) ?_);exact q_rm
    ·refine q_sk ?_;obtain⟨g8,hm⟩:=qI hm;refine s_vn [qi 3 g8] 1 ⟨[(4,vi (a1.Prices.getD x3.toNat du)),(5,vb true)],[]⟩ ?_;obtain rfl:=oi hm;refine q_rt (zG ((a1.Prices.getD x3.toNat du),true) ?_);exact q_rm
  ·refine q_ex 0 ?_;obtain rfl:=oi hm;exact q_l1 ()
theorem qOo (a1:Product) (a2:Int) (r:Int×Bool) (hm:FI a1 a2=some r):CtX Tryz.prog globs 177 0 0 [.agg (qH a1),.one (ci a2)] [] (qBg r) (qBD r):=by
 unfold FI at hm;refine q_E f177 30 λE=>?_;refine s_vn [] 0 ⟨[(1,vi a2),(2,vp 0 0)],[(0,bx 54 (qH a1))]⟩ (q_sq ?_);refine s_va 1 [(9,vc (tl qA du a1.Lengths)),(10,vi (a1.Lengths.length:Int)),(11,vi 0)] ?_;obtain⟨u11,h10,hm⟩:=qB hm;refine zT (nd f177 52) 0 (by kernel_rfl) FUEL (λo=>qDa) (λv st=>RetQ Tryz.prog f177 (qBg v) (qBD v) .ret st) u11 (q_hl (SU a1 a2 0) (qJx E a1 a2 FUEL 0 u11 h10)) ?_ ?_
 ·rintro v12 rfl st hr;obtain rfl:=oi hm;exact hr
 ·rintro o9 rfl;replace hm:_=some r:=hm;refine s_vn [] 1 ⟨[(4,vi 0),(5,vb false)],[]⟩ ?_;obtain rfl:=oi hm;exact q_rt q_rm
open Go.Proofs Go.Proofs.Tryz
def qEV (r:Box):V:=va (wG r)
def NV (r:Box):List (Nat×(Nat×O)):=[]
theorem qNr (r:Box):jS (NV r):=by
 intro i k o h;unfold NV at h;cases h
theorem qD1 (a1:zA) (a2:Span) (r:Box) (hm:RD a1 a2=some r):CtX Tryz.prog globs 174 0 0 [.agg (SS a1),.agg (qG a2)] [] (qEV r) (NV r):=by
 unfold RD at hm;refine q_E f174 13 λE=>?_;refine s_vn [] 0 ⟨[(2,vp 0 0),(3,vp 1 0),(4,vp 2 0)],[(0,bx 186 (SS a1)),(1,bx 31 (qG a2)),(2,bx 128 [ci 0,ci 0,ci 0,ci 0,ci 0,ci 0])]⟩ (s_vn [] 3 ⟨[(4,vp 2 0)],[(2,bx 128 [ci a1.rect.X.A,ci a1.rect.X.B,ci a1.rect.Y.A,ci a1.rect.Y.B,ci a2.A,ci a2.B])]⟩ ?_);obtain rfl:=oi hm;exact q_rt q_rm
def qUj (r:Int):V:=vi r
def qTL (r:Int):List (Nat×(Nat×O)):=[]
def HS (a1:List qW) (a2:Span) (x4:Int):St:=
 ⟨[(3,vp 0 0),(8,vc (tl zJ du a1)),(9,vi (a1.length:Int)),(10,vi x4)],[(0,bx 31 (qG a2))]⟩
def qNk (a1:List qW) (a2:Span) (x4:Int) (x10:Int):St:=
 (HS a1 a2 x4).up [] [(5,vi x10)] [] []
def qMS (a1:List qW) (a2:Span) (x3:Int) (x4:Int) (x8:Bool):St:=
 (HS a1 a2 x4).up [] [(5,vi x3),(7,vp 1 0),(27,vb x8)] [] [(1,bx 249 (zJ (a1.getD x4.toNat du)))]
def qAt (a1:List qW) (a2:Span) (x3:Int) (x4:Int):St:=
 (HS a1 a2 x4).up [] [(5,vi x3)] [] []
def qFc (x11:Int):St:=
 ⟨[(5,vi x11)],[]⟩
theorem qLo (E:Env 0) (a1:List qW) (a2:Span):∀(n:Nat) (x3:Int) (x4:Int) (res:Int),QT a1 a2 n x3 x4=some res->HL (kx E 34 0) (nd f178 116) (zL 0 qFc res) n (qAt a1 a2 x3 x4):=by
 intro n
 induction n with
 |zero=>
  intro x3 x4 res hm;cases hm
 |succ n ih=>
  intro x3 x4 res hm;refine qT (s_va 1 [(11,vb (decide (x4<(a1.length:Int))))] ?_);refine q_sq (q_cq hm (λhm=>?_) (λhm=>?_))
  ·refine q_sk (q_jn (qNk a1 a2 x4) (λp=>AB x4 (QT a1 a2 n) p=some res) ?_ ?_)
   ·rintro x10 hm;exact q_vv [] 2 [10] [(10,vi (w64 (x4+1)))] (q_hl (qAt a1 a2 x10 (w64 (x4+1))) (ih x10 (w64 (x4+1)) _ hm))
   ·refine q_bk 1 ?_;obtain⟨g6,hm⟩:=qI hm;refine s_vu [qi 0 g6] 1 [11] [(7,vp 1 0)] [] [(1,bx 249 (zJ (a1.getD x4.toNat du)))] (q_jn (qMS a1 a2 x3 x4) (λp=>AN a1 x3 x4 (QT a1 a2 n) p=some res) ?_ ?_)
    ·rintro x8 hm;refine q_cq hm (λhm=>?_) (λhm=>?_)
     ·exact q_vu [] 2 [5,7,27] [(5,vi (imax x3 ((a1.getD x4.toNat du).lack)))] [1] [] (q_J (imax x3 ((a1.getD x4.toNat du).lack)) hm)
     ·exact q_sk (q_J (x3) hm)
    ·rcases bif_c hm with⟨b7,hm⟩|⟨b7,hm⟩
     ·exact q_vv [qf 6 b7] 2 [] [(27,vb (decide (a2.A<(((a1.getD x4.toNat du).z).B))))] (q_J (decide (a2.A<(((a1.getD x4.toNat du).z).B))) hm)
     ·exact q_vv [qf 6 b7] 2 [] [(27,vb false)] (q_J (false) hm)
  ·refine q_ex 0 ?_;obtain rfl:=oi hm;exact q_l0
theorem qSk (a1:List qW) (a2:Span) (r:Int) (hm:OS a1 a2=some r):CtX Tryz.prog globs 178 0 0 [.one (tl zJ du a1),.agg (qG a2)] [] (qUj r) (qTL r):=by
 unfold OS at hm;refine q_E f178 34 λE=>?_;refine s_vn [] 0 ⟨[(0,vc (tl zJ du a1)),(3,vp 0 0)],[(0,bx 31 (qG a2))]⟩ (s_va 1 [(5,vi 0)] ?_);refine q_sq (s_vv [] 1 [0] [(8,vc (tl zJ du a1)),(9,vi (a1.length:Int)),(10,vi 0)] ?_);obtain⟨o12,h13,hm⟩:=qB hm;refine zF (nd f178 116) 0 (by kernel_rfl) FUEL qFc o12 (q_hl (qAt a1 a2 0 0) (qLo E a1 a2 FUEL 0 0 o12 h13)) (s_vn [] 1 ⟨[(4,vi o12)],[]⟩ ?_);obtain rfl:=oi hm;exact q_rt q_rm
def UR (r:Int×Bool):V:= .tup [.one (ci r.1),.one (cb r.2)]
def WA (r:Int×Bool):List (Nat×(Nat×O)):=[]
theorem qKn (r:Int×Bool):jS (WA r):=by
 intro i k o h;unfold WA at h;cases h
def qHE (a1:zA) (a3:Int) (v14:Box) (x17:Int) (x24:Int):St:=
 ⟨[(2,vi a3),(8,vi x24),(10,vp 2 0),(45,vc (tl qP du a1.defects)),(46,vi (a1.defects.length:Int)),(47,vi x17)],[(2,bx 128 (wG v14))]⟩
def DX (a1:zA) (a3:Int) (v14:Box) (x16:Int) (x17:Int):St:=
 ⟨[(2,vi a3),(8,vi x16),(10,vp 2 0),(45,vc (tl qP du a1.defects)),(46,vi (a1.defects.length:Int)),(47,vi x17)],[(2,bx 128 (wG v14))]⟩
def qAF (x25:Int):St:=
 ⟨[(8,vi x25)],[]⟩
def qHQ (a1:zA) (a2:Span) (a3:Int) (v7:Int×Bool) (x12:Bool):St:=
 ⟨[(2,vi a3),(3,vp 0 0),(4,vp 1 0),(8,vi v7.1),(40,vb x12)],[(0,bx 186 (SS a1)),(1,bx 31 (qG a2))]⟩
theorem qHb (E:Env 0) (a1:zA) (a3:Int) (v14:Box):∀(n:Nat) (x16:Int) (x17:Int) (res:(Int×Bool)⊕Int),wM a1 a3 v14 n x16 x17=some res->HL (kx E 64 0) (nd f127 1012) (wN 0 qAF (λv st=>RetQ Tryz.prog f127 (UR v) (WA v) .ret st) res) n (DX a1 a3 v14 x16 x17):=by
 intro n
 induction n with
 |zero=>
  intro x16 x17 res hm;cases hm
 |succ n ih=>
  intro x16 x17 res hm;refine qT (s_va 3 [(48,vb (decide (x17<(a1.defects.length:Int))))] ?_);refine q_sq (q_cq hm (λhm=>?_) (λhm=>?_))
  ·refine q_sk (q_jn (qHE a1 a3 v14 x17) (λp=>TJ x17 (wM a1 a3 v14 n) p=some res) ?_ ?_)
   ·rintro x24 hm;exact q_vv [] 4 [47] [(47,vi (w64 (x17+1)))] (q_hl (DX a1 a3 v14 x24 (w64 (x17+1))) (ih x24 (w64 (x17+1)) _ hm))
   ·refine q_bk 1 ?_;obtain⟨g19,hm⟩:=qI hm;refine s_vu [qi 0 g19] 3 [48] [(12,vp 3 0)] [] [(3,bx 212 (qP (a1.defects.getD x17.toNat du)))] (q_sq ?_);obtain⟨v20,h21,hm⟩:=qB hm;refine s_vv [qc 2 [51,52] 4 (qEm (a1.defects.getD x17.toNat du) v14 v20 h21)] 4 [] [(54,vb (!v20))] (q_cq hm (λhm=>?_) (λhm=>?_))
    ·exact q_ex 1 (q_J (x16) hm)
    ·refine q_sk (q_sq ?_);refine s_vu [] 4 [12,54] [(57,vb (((a1.defects.getD x17.toNat du).Kind)==3))] [3] [] (q_cq hm (λhm=>?_) (λhm=>?_))
     ·refine s_vn [] 4 ⟨[(6,vi 0),(7,vb false)],[]⟩ ?_;obtain rfl:=oi hm;refine q_rt (zG (0,false) ?_);exact q_rm
     ·refine q_sk (q_vv [] 4 [8,57] [(8,vi (w64 (x16-a3)))] ?_);exact q_J (w64 (x16-a3)) hm
  ·refine q_ex 0 ?_;obtain rfl:=oi hm;exact q_l1 x16
theorem qJw (a1:zA) (a2:Span) (a3:Int) (r:Int×Bool) (hm:YU a1 a2 a3=some r):CtX Tryz.prog globs 127 0 0 [.agg (SS a1),.agg (qG a2),.one (ci a3)] [] (UR r) (WA r):=by
 unfold YU at hm;refine q_E f127 64 λE=>?_;refine s_vn [] 0 ⟨[(2,vi a3),(3,vp 0 0),(4,vp 1 0)],[(0,bx 186 (SS a1)),(1,bx 31 (qG a2))]⟩ (q_sq ?_);obtain⟨v4,h5,hm⟩:=qB hm;refine s_vv [qc 3 [13,15] 2 (qMb a2 a1.length v4 h5)] 2 [] [(17,vb (!v4))] (q_cq hm (λhm=>?_) (λhm=>?_))
 ·refine s_vn [] 2 ⟨[(6,vi 0),(7,vb false)],[]⟩ ?_;obtain rfl:=oi hm;exact q_rt q_rm
 ·refine q_sk ?_;obtain⟨v7,h8,hm⟩:=qB hm;refine s_vv [qc 7 [20,25] 2 (qOo a1.product (w64 (a2.B-a2.A)) v7 h8)] 2 [17] [(8,vi v7.1),(9,vb v7.2)] (q_sq ?_);refine q_jn (qHQ a1 a2 a3 v7) (λp=>TH a1 a2 a3 v7 p=some r) ?_ ?_
  ·rintro x12 hm;refine q_cq hm (λhm=>?_) (λhm=>?_)
   ·refine s_vn [] 2 ⟨[(6,vi 0),(7,vb false)],[]⟩ ?_;obtain rfl:=oi hm;exact q_rt q_rm
   ·refine q_sk ?_;obtain⟨v14,h15,hm⟩:=qB hm;refine s_vu [qc 2 [41,42] 2 (qD1 a1 a2 v14 h15)] 2 [4,40] [(10,vp 2 0)] [1] [(2,bx 128 (wG v14))] (q_sq ?_);refine s_vu [] 3 [3] [(45,vc (tl qP du a1.defects)),(46,vi (a1.defects.length:Int)),(47,vi 0)] [0] [] ?_;obtain⟨u28,h27,hm⟩:=qB hm;refine zT (nd f127 1012) 0 (by kernel_rfl) FUEL qAF (λv st=>RetQ Tryz.prog f127 (UR v) (WA v) .ret st) u28 (q_hl (DX a1 a3 v14 v7.1 0) (qHb E a1 a3 v14 FUEL v7.1 0 u28 h27)) ?_ ?_
    ·rintro v29 rfl st hr;obtain rfl:=oi hm;exact hr
    ·rintro o26 rfl;replace hm:_=some r:=hm;refine s_vn [] 3 ⟨[(6,vi (imax o26 0)),(7,vb true)],[]⟩ ?_;obtain rfl:=oi hm;exact q_rt q_rm
  ·rcases bif_c hm with⟨b9,hm⟩|⟨b9,hm⟩
   ·exact q_du [qf 2 b9] [0,1,3,7,15,7,63,7,135,391,1023,2047] 2 [9] [(40,vb true)] [] [] (q_J (true) hm)
   ·obtain⟨v10,h11,hm⟩:=qB hm;exact q_du [qf 2 b9,qk 6 [31,33,34] 2 ⟨[(31,vb false),(33,vc (tl zJ du a1.zones)),(34,va (qG a2))],[]⟩ (qSk a1.zones a2 v10 h11)] [0,1,3,7,15,7,63,7,135,391,1023,2047] 2 [9] [(40,vb (decide (v10>a1.product.Wane)))] [] [] (q_J (decide (v10>a1.product.Wane)) hm)
end Saw
end Go.SL

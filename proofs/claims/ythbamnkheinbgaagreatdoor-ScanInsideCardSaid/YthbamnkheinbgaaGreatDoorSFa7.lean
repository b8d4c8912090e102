import Derived.Test.YthbamnkheinbgaaGreatDoorSBase
import Derived.Test.YthbamnkheinbgaaGreatDoorSFa4
import Derived.Test.YthbamnkheinbgaaGreatDoorSFa6
set_option linter.unusedVariables false
set_option linter.unusedSimpArgs false
namespace Go.SL
namespace Saw
open Go.Proofs Go.Proofs.Tryz
set_option maxHeartbeats 4000000
set_option maxRecDepth 100000
def KV (r:Int):V:=vi r
def QX (r:Int):List (Nat×(Nat×O)):=[]
theorem qCf (r:Int):yX (QX r):=by
 intro i k o h;unfold QX at h;cases h
def qFr (a1:List qS) (x4:Int) (x5:Int) (x13:Bool):St:=
 ⟨[(3,vi x4),(5,vp 0 0),(13,vc (tl qT dd a1)),(14,vi (a1.length:Int)),(15,vi x5),(39,vb x13)],[(0,bx 50 (qT (a1.getD x5.toNat dd)))]⟩
def DH (a1:List qS) (x4:Int) (x5:Int):St:=
 ⟨[(3,vi x4),(13,vc (tl qT dd a1)),(14,vi (a1.length:Int)),(15,vi x5)],[]⟩
def OK :St:=
 ⟨[],[]⟩
theorem qEf (E:Env 0) (a1:List qS):∀(n:Nat) (x4:Int) (x5:Int) (res:Int⊕Unit),wF a1 n x4 x5=some res->HL (kx E 45 0) (nd f26 500) (jJ 0 (λo=>OK) (λv st=>RetQ Tryz.prog f26 (KV v) (QX v) .ret st) res) n (DH a1 x4 x5):=by
 intro n
 induction n with
 |zero=>
  intro x4 x5 res hm;cases hm
 |succ n ih=>
  intro x4 x5 res hm;refine qU (s_va 0 [(16,vb (decide (x5<(a1.length:Int))))] ?_);refine q_sq (q_cq hm (λhm=>?_) (λhm=>?_))
  ·refine q_sk (q_sq ?_);refine q_bk 1 ?_;obtain⟨g7,hm⟩:=qH hm;refine s_vu [qi 0 g7] 0 [16] [(5,vp 0 0)] [] [(0,bx 50 (qT (a1.getD x5.toNat dd)))] (q_sq ?_);obtain⟨v8,h9,hm⟩:=qE hm;refine s_vv [qc 2 [20] 1 (IZ ((a1.getD x5.toNat dd).Sec) v8 h9)] 1 [] [(6,vi v8)] (s_va 1 [(23,vb (v8 !=0))] ?_);refine q_cq hm (λhm=>?_) (λhm=>?_)
   ·refine s_vn [] 1 ⟨[(2,vi v8)],[]⟩ ?_;obtain rfl:=oi hm;refine q_rt (zR v8 ?_);exact q_rm
   ·refine q_sk (q_sq ?_);refine s_vv [] 1 [6,23] [(29,vb ((((((a1.getD x5.toNat dd).Sec).Rows).length:Nat):Int)==0))] (q_cq hm (λhm=>?_) (λhm=>?_))
    ·refine s_vn [] 1 ⟨[(2,vi 18)],[]⟩ ?_;obtain rfl:=oi hm;refine q_rt (zR 18 ?_);exact q_rm
    ·refine q_sk (q_sq ?_);refine q_jn (qFr a1 x4 x5) (λp=>UA a1 x4 x5 (wF a1 n) p=some res) ?_ ?_
     ·rintro x13 hm;refine q_cq hm (λhm=>?_) (λhm=>?_)
      ·refine s_vn [] 1 ⟨[(2,vi 9)],[]⟩ ?_;obtain rfl:=oi hm;refine q_rt (zR 9 ?_);exact q_rm
      ·refine q_sk (q_vu [] 1 [3,5,39] [(3,vi (w64 (x4+((a1.getD x5.toNat dd).Len))))] [0] [] ?_);exact q_vv [] 1 [15] [(15,vi (w64 (x5+1)))] (q_hl (DH a1 (w64 (x4+((a1.getD x5.toNat dd).Len))) (w64 (x5+1))) (ih (w64 (x4+((a1.getD x5.toNat dd).Len))) (w64 (x5+1)) _ hm))
     ·rcases bif_c hm with⟨b12,hm⟩|⟨b12,hm⟩
      ·exact q_vv [qf 3 b12] 1 [29] [(39,vb true)] (q_J (true) hm)
      ·exact q_vv [qf 3 b12] 1 [29] [(39,vb (decide (((a1.getD x5.toNat dd).Len)>(w64 (20000-x4)))))] (q_J (decide (((a1.getD x5.toNat dd).Len)>(w64 (20000-x4)))) hm)
  ·refine q_ex 0 ?_;obtain rfl:=oi hm;exact q_l1 ()
theorem LR (a1:List qS) (r:Int) (hm:YC a1=some r):CtX Tryz.prog globs 26 0 0 [.one (tl qT dd a1)] [] (KV r) (QX r):=by
 unfold YC at hm;refine q_E f26 45 λE=>?_;refine s_vn [] 0 ⟨[(0,vc (tl qT dd a1))],[]⟩ (q_sq ?_);refine s_va 0 [(9,vb ((a1.length:Int)==0))] (q_cq hm (λhm=>?_) (λhm=>?_))
 ·refine s_vn [] 0 ⟨[(2,vi 3)],[]⟩ ?_;obtain rfl:=oi hm;exact q_rt q_rm
 ·refine q_sk (q_sq ?_);refine s_vv [] 0 [9] [(12,vb (decide ((a1.length:Int)>24)))] (q_cq hm (λhm=>?_) (λhm=>?_))
  ·refine s_vn [] 0 ⟨[(2,vi 4)],[]⟩ ?_;obtain rfl:=oi hm;exact q_rt q_rm
  ·refine q_sk (s_vv [] 0 [12] [(3,vi 0)] ?_);refine q_sq (s_vv [] 0 [0] [(13,vc (tl qT dd a1)),(14,vi (a1.length:Int)),(15,vi 0)] ?_);obtain⟨u17,h16,hm⟩:=qE hm;refine zZ (nd f26 500) 0 (by kernel_rfl) FUEL (λo=>OK) (λv st=>RetQ Tryz.prog f26 (KV v) (QX v) .ret st) u17 (q_hl (DH a1 0 0) (qEf E a1 FUEL 0 0 u17 h16)) ?_ ?_
   ·rintro v18 rfl st hr;obtain rfl:=oi hm;exact hr
   ·rintro o15 rfl;replace hm:_=some r:=hm;refine s_vn [] 0 ⟨[(2,vi 0)],[]⟩ ?_;obtain rfl:=oi hm;exact q_rt q_rm
def qIV (r:(List qS)):V:=vc (tl qT dd r)
def qJh (r:(List qS)):List (Nat×(Nat×O)):=[]
theorem qBm (a1:List qS) (r:(List qS)) (hm:VU a1=some r):CtX Tryz.prog globs 63 0 0 [.one (tl qT dd a1)] [] (qIV r) (qJh r):=by
 unfold VU at hm;refine q_E f63 7 λE=>?_;refine s_vn [] 0 ⟨[(0,vc (tl qT dd a1))],[]⟩ (q_sq ?_);obtain⟨v2,h3,hm⟩:=qE hm;refine s_vv [qc 1 [3] 0 (LR a1 v2 h3)] 0 [] [(5,vb (v2 !=0))] (q_cq hm (λhm=>?_) (λhm=>?_))
 ·refine s_vn [] 0 ⟨[(2,vc (.emp))],[]⟩ (q_fn [.own 2 0 50 3 (rf qT [])] ⟨[(2,vo 0 0 3 0)],[(0,ro 0 50 3 0 (rf qT []))]⟩ o0 ?_);refine q_fn [.len 0 (([]:List qS).length),.frz 0] ⟨[(2,vc (tl qT dd ([]:List qS)))],[]⟩ (o1 (And.intro (And.intro (show 0=([]:List qS).length from rfl) (show 0=([]:List qS).length from rfl)) (kr (([]:List qS).length)))) ?_;obtain rfl:=oi hm;exact q_rt q_rm
 ·refine q_sk (s_vn [] 0 ⟨[(2,vc (tl qT dd a1))],[]⟩ ?_);obtain rfl:=oi hm;exact q_rt q_rm
def qHx (r:Int):V:=vi r
def qHP (r:Int):List (Nat×(Nat×O)):=[]
def UZ (v2:(List qS)) (x4:Int) (x5:Int):St:=
 ⟨[(3,vi x4),(7,vc (tl qT dd v2)),(8,vi (v2.length:Int)),(9,vi x5)],[]⟩
def EM (x10:Int):St:=
 ⟨[(3,vi x10)],[]⟩
theorem qC0 (E:Env 0) (v2:(List qS)):∀(n:Nat) (x4:Int) (x5:Int) (res:Int),NJ v2 n x4 x5=some res->HL (kx E 23 0) (nd f43 116) (zW 0 EM res) n (UZ v2 x4 x5):=by
 intro n
 induction n with
 |zero=>
  intro x4 x5 res hm;cases hm
 |succ n ih=>
  intro x4 x5 res hm;refine qU (s_va 0 [(10,vb (decide (x5<(v2.length:Int))))] ?_);refine q_sq (q_cq hm (λhm=>?_) (λhm=>?_))
  ·refine q_sk (q_sq ?_);refine q_bk 1 ?_;obtain⟨g7,hm⟩:=qH hm;refine s_vu [qi 0 g7] 0 [10] [(5,vp 0 0)] [] [(0,bx 50 (qT (v2.getD x5.toNat dd)))] ?_;obtain⟨v8,h9,hm⟩:=qE hm;refine q_du [qc 5 [17] 1 (qGn ((v2.getD x5.toNat dd).Sec) v8 h9)] [0,0,2,0,8,24,62,127,255] 1 [3,5] [(3,vi (w64 (x4+(w64 (((v2.getD x5.toNat dd).Len)*v8)))))] [0] [] (q_vv [] 1 [9] [(9,vi (w64 (x5+1)))] ?_);exact q_hl (UZ v2 (w64 (x4+(w64 (((v2.getD x5.toNat dd).Len)*v8)))) (w64 (x5+1))) (ih (w64 (x4+(w64 (((v2.getD x5.toNat dd).Len)*v8)))) (w64 (x5+1)) _ hm)
  ·refine q_ex 0 ?_;obtain rfl:=oi hm;exact q_l0
theorem qGJ (a1:List qS) (r:Int) (hm:NR a1=some r):CtX Tryz.prog globs 43 0 0 [.one (tl qT dd a1)] [] (qHx r) (qHP r):=by
 unfold NR at hm;refine q_E f43 23 λE=>?_;refine s_vn [] 0 ⟨[(0,vc (tl qT dd a1))],[]⟩ (s_va 0 [(3,vi 0)] ?_);refine q_sq ?_;obtain⟨v2,h3,hm⟩:=qE hm;refine s_vv [qc 1 [6] 0 (qBm a1 v2 h3)] 0 [0] [(7,vc (tl qT dd v2)),(8,vi (v2.length:Int)),(9,vi 0)] ?_;obtain⟨o11,h12,hm⟩:=qE hm;refine zU (nd f43 116) 0 (by kernel_rfl) FUEL EM o11 (q_hl (UZ v2 0 0) (qC0 E v2 FUEL 0 0 o11 h12)) (s_vn [] 0 ⟨[(2,vi o11)],[]⟩ ?_);obtain rfl:=oi hm;exact q_rt q_rm
open Go.Proofs Go.Proofs.Tryz
def qBp (r:Int):V:=vi r
def UQ (r:Int):List (Nat×(Nat×O)):=[]
theorem qHw (r:Int):yX (UQ r):=by
 intro i k o h;unfold UQ at h;cases h
def VH (v2:(List qS)) (x4:Int) (x5:Int):St:=
 ⟨[(3,vi x4),(7,vc (tl qT dd v2)),(8,vi (v2.length:Int)),(9,vi x5)],[]⟩
def EO (x8:Int):St:=
 ⟨[(3,vi x8)],[]⟩
theorem qCS (E:Env 0) (v2:(List qS)):∀(n:Nat) (x4:Int) (x5:Int) (res:Int),wR v2 n x4 x5=some res->HL (kx E 19 0) (nd f27 116) (zW 0 EO res) n (VH v2 x4 x5):=by
 intro n
 induction n with
 |zero=>
  intro x4 x5 res hm;cases hm
 |succ n ih=>
  intro x4 x5 res hm;refine qU (s_va 0 [(10,vb (decide (x5<(v2.length:Int))))] ?_);refine q_sq (q_cq hm (λhm=>?_) (λhm=>?_))
  ·refine q_sk (q_sq ?_);refine q_bk 1 ?_;obtain⟨g7,hm⟩:=qH hm;refine s_vu [qi 0 g7] 0 [10] [(5,vp 0 0)] [] [(0,bx 50 (qT (v2.getD x5.toNat dd)))] (q_vu [] 1 [3,5] [(3,vi (w64 (x4+((v2.getD x5.toNat dd).Len))))] [0] [] ?_);exact q_vv [] 1 [9] [(9,vi (w64 (x5+1)))] (q_hl (VH v2 (w64 (x4+((v2.getD x5.toNat dd).Len))) (w64 (x5+1))) (ih (w64 (x4+((v2.getD x5.toNat dd).Len))) (w64 (x5+1)) _ hm))
  ·refine q_ex 0 ?_;obtain rfl:=oi hm;exact q_l0
theorem qG8 (a1:List qS) (r:Int) (hm:TE a1=some r):CtX Tryz.prog globs 27 0 0 [.one (tl qT dd a1)] [] (qBp r) (UQ r):=by
 unfold TE at hm;refine q_E f27 19 λE=>?_;refine s_vn [] 0 ⟨[(0,vc (tl qT dd a1))],[]⟩ (s_va 0 [(3,vi 0)] ?_);refine q_sq ?_;obtain⟨v2,h3,hm⟩:=qE hm;refine s_vv [qc 1 [6] 0 (qBm a1 v2 h3)] 0 [0] [(7,vc (tl qT dd v2)),(8,vi (v2.length:Int)),(9,vi 0)] ?_;obtain⟨o9,h10,hm⟩:=qE hm;refine zU (nd f27 116) 0 (by kernel_rfl) FUEL EO o9 (q_hl (VH v2 0 0) (qCS E v2 FUEL 0 0 o9 h10)) (s_vn [] 0 ⟨[(2,vi o9)],[]⟩ ?_);obtain rfl:=oi hm;exact q_rt q_rm
end Saw
end Go.SL

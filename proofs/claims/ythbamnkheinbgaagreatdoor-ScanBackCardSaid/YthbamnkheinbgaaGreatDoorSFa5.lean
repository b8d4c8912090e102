import Derived.Test.YthbamnkheinbgaaGreatDoorSBase
import Derived.Test.YthbamnkheinbgaaGreatDoorSFa4
set_option linter.unusedVariables false
set_option linter.unusedSimpArgs false
namespace Go.SL
namespace Saw
open Go.Proofs Go.Proofs.Tryz
set_option maxHeartbeats 4000000
set_option maxRecDepth 100000
def CW (r:(List Int)):V:=vo 0 0 1 r.length
def CC (r:(List Int)):List (Nat×(Nat×O)):=[(0,ro 0 3 1 r.length (rf qL r))]
def WV (a1:List qI) (l2:List Int) (l2n:Nat) (x3:Int):St:=
 ⟨[(3,vo 0 0 1 l2n),(7,vc (tl qM dd a1)),(8,vi (a1.length:Int)),(9,vi x3)],[(0,ro 0 3 1 l2n (rf qL l2))]⟩
def RU (l7:List Int):St:=
 ⟨[(3,vo 0 0 1 l7.length)],[(0,ro 0 3 1 l7.length (rf qL l7))]⟩
theorem HZ (E:Env 0) (a1:List qI):∀(n:Nat) (l2:List Int) (l2n:Nat) (x3:Int) (res:(List Int)),l2.length=l2n->wP a1 n l2 x3=some res->HL (kx E 40 0) (nd f51 116) (zT 0 RU res) n (WV a1 l2 l2n x3):=by
 intro n
 induction n with
 |zero=>
  intro l2 l2n x3 res hl0 hm;cases hm
 |succ n ih=>
  intro l2 l2n x3 res hl0 hm;subst hl0;refine qT (s_va 1 [(10,vb (decide (x3<(a1.length:Int))))] ?_);refine q_sq (q_cq hm (λhm=>?_) (λhm=>?_))
  ·refine q_sk (q_sq ?_);refine q_bk 1 ?_;obtain⟨g5,hm⟩:=qJ hm;refine s_vu [qi 0 g5] 1 [10] [(5,vp 1 0)] [] [(1,bx 68 (qM (a1.getD x3.toNat dd)))] (s_vu [] 2 [] [(6,vp 2 0)] [] [(2,bx 66 (qCP ((a1.getD x3.toNat dd).Box)))] ?_);obtain⟨g6,hm⟩:=qJ hm
   refine q_vu [qd 21 (drw 3 0 (rf qL [(a1.getD x3.toNat dd).Kind,(((a1.getD x3.toNat dd).Box).X).A,(((a1.getD x3.toNat dd).Box).X).B,(((a1.getD x3.toNat dd).Box).Y).A,(((a1.getD x3.toNat dd).Box).Y).B,(((a1.getD x3.toNat dd).Box).Z).A,(((a1.getD x3.toNat dd).Box).Z).B])) (litP qL dd 1 (λ_=>rfl) ([(a1.getD x3.toNat dd).Kind,(((a1.getD x3.toNat dd).Box).X).A,(((a1.getD x3.toNat dd).Box).X).B,(((a1.getD x3.toNat dd).Box).Y).A,(((a1.getD x3.toNat dd).Box).Y).B,(((a1.getD x3.toNat dd).Box).Z).A,(((a1.getD x3.toNat dd).Box).Z).B]:List Int) 7 rfl),qd 22 (drw 0 1 (rf qL (l2++[(a1.getD x3.toNat dd).Kind,(((a1.getD x3.toNat dd).Box).X).A,(((a1.getD x3.toNat dd).Box).X).B,(((a1.getD x3.toNat dd).Box).Y).A,(((a1.getD x3.toNat dd).Box).Y).B,(((a1.getD x3.toNat dd).Box).Z).A,(((a1.getD x3.toNat dd).Box).Z).B]))) (apP qL dd l2 ([(a1.getD x3.toNat dd).Kind,(((a1.getD x3.toNat dd).Box).X).A,(((a1.getD x3.toNat dd).Box).X).B,(((a1.getD x3.toNat dd).Box).Y).A,(((a1.getD x3.toNat dd).Box).Y).B,(((a1.getD x3.toNat dd).Box).Z).A,(((a1.getD x3.toNat dd).Box).Z).B]:List Int) l2.length 7 1 8 (7<=7) (kr _) rfl rfl (λ_=>rfl) (zW g6))] 3 [3,5,6] [(3,vo 0 1 1 (l2.length+7))] [0,1,2] [(0,ro 1 3 1 (l2.length+7) (rf qL (l2++[(a1.getD x3.toNat dd).Kind,(((a1.getD x3.toNat dd).Box).X).A,(((a1.getD x3.toNat dd).Box).X).B,(((a1.getD x3.toNat dd).Box).Y).A,(((a1.getD x3.toNat dd).Box).Y).B,(((a1.getD x3.toNat dd).Box).Z).A,(((a1.getD x3.toNat dd).Box).Z).B])))] ?_
   exact q_vv [] 4 [9] [(9,vi (w64 (x3+1)))] (q_hl (WV a1 (l2++[(a1.getD x3.toNat dd).Kind,(((a1.getD x3.toNat dd).Box).X).A,(((a1.getD x3.toNat dd).Box).X).B,(((a1.getD x3.toNat dd).Box).Y).A,(((a1.getD x3.toNat dd).Box).Y).B,(((a1.getD x3.toNat dd).Box).Z).A,(((a1.getD x3.toNat dd).Box).Z).B]) (l2.length+7) (w64 (x3+1))) (ih (l2++[(a1.getD x3.toNat dd).Kind,(((a1.getD x3.toNat dd).Box).X).A,(((a1.getD x3.toNat dd).Box).X).B,(((a1.getD x3.toNat dd).Box).Y).A,(((a1.getD x3.toNat dd).Box).Y).B,(((a1.getD x3.toNat dd).Box).Z).A,(((a1.getD x3.toNat dd).Box).Z).B]) (l2.length+7) (w64 (x3+1)) _ (wK rfl rfl) hm))
  ·refine q_ex 0 ?_;obtain rfl:=oi hm;exact q_l0
theorem IY (a1:List qI) (r:(List Int)) (hm:ZC a1=some r):CtX Tryz.prog globs 51 0 0 [.one (tl qM dd a1)] [] (CW r) (CC r):=by
 unfold ZC at hm;refine q_E f51 40 λE=>?_;refine s_vn [] 0 ⟨[(0,vc (tl qM dd a1))],[]⟩ (s_va 0 [(3,vc (.emp))] ?_);refine q_sq (s_vv [] 0 [0] [(7,vc (tl qM dd a1)),(8,vi (a1.length:Int)),(9,vi 0)] ?_);refine q_fo 3 0 3 1 qL ?_;obtain⟨o8,h9,hm⟩:=qE hm;refine zQ (nd f51 116) 0 (by kernel_rfl) FUEL RU o8 (q_hl (WV a1 ([]:List Int) 0 0) (HZ E a1 FUEL ([]:List Int) 0 0 o8 rfl h9)) (s_vv [] 1 [3] [(2,vo 0 0 1 o8.length)] ?_);obtain rfl:=oi hm;exact q_rt q_rm
def IM (r:ByteArray×Int):V:= .tup [.one (cs r.1),.one (ci r.2)]
def PL (r:ByteArray×Int):List (Nat×(Nat×O)):=[]
theorem qEP (r:ByteArray×Int):QI (PL r):=by
 intro i k o h;unfold PL at h;cases h
def PU (a1:Scan) (l5:List Int) (l5n:Nat) (x6:ByteArray) (x7:Int):St:=
 ⟨[(1,vp 0 0),(5,vo 1 0 1 l5n),(6,vc (cs x6)),(15,vi (a1.Rings.length:Int)),(16,vi x7)],[(0,bx 25 (zA a1)),(1,ro 0 3 1 l5n (rf qL l5))]⟩
def FP (a1:Scan) (l16:List Int) (x17:ByteArray):St:=
 ⟨[(1,vp 0 0),(5,vo 1 0 1 l16.length),(6,vc (cs x17))],[(0,bx 25 (zA a1)),(1,ro 0 3 1 l16.length (rf qL l16))]⟩
theorem qAC (E:Env 0) (a1:Scan):∀(n:Nat) (l5:List Int) (l5n:Nat) (x6:ByteArray) (x7:Int) (res:(List Int)×ByteArray),l5.length=l5n->wW a1 n l5 x6 x7=some res->HL (kx E 48 0) (nd f19 500) (zT 0 (λo=>FP a1 o.1 o.2) res) n (PU a1 l5 l5n x6 x7):=by
 intro n
 induction n with
 |zero=>
  intro l5 l5n x6 x7 res hl0 hm;cases hm
 |succ n ih=>
  intro l5 l5n x6 x7 res hl0 hm;subst hl0;refine qT (s_va 2 [(17,vb (decide (x7<(a1.Rings.length:Int))))] ?_);refine q_sq (q_cq hm (λhm=>?_) (λhm=>?_))
  ·refine q_sk (q_sq ?_);refine q_bk 1 (s_vv [] 2 [17] [(7,vi x7)] ?_);obtain⟨g9,hm⟩:=qJ hm;obtain⟨g10,hm⟩:=qJ hm;refine s_vu [qi 4 g9,qd 7 (drw 2 0 (rf qL [(a1.Rings.getD x7.toNat dd).Z])) (litP qL dd 1 (λ_=>rfl) ([(a1.Rings.getD x7.toNat dd).Z]:List Int) 1 rfl),qd 8 (drw 1 1 (rf qL (l5++[(a1.Rings.getD x7.toNat dd).Z]))) (apP qL dd l5 ([(a1.Rings.getD x7.toNat dd).Z]:List Int) l5.length 1 1 8 (1<=1) (kr _) rfl rfl (λ_=>rfl) (zW g10))] 2 [5] [(5,vo 1 1 1 (l5.length+1))] [1] [(1,ro 1 3 1 (l5.length+1) (rf qL (l5++[(a1.Rings.getD x7.toNat dd).Z])))] ?_;obtain⟨v11,h12,hm⟩:=qE hm
   obtain⟨v13,h14,hm⟩:=qE hm;obtain⟨g15,hm⟩:=qJ hm;refine q_vv [qi 4 g9,qc 7 [34] 3 (EM ((a1.Rings.getD x7.toNat dd).Read) v11 h12),qd 8 (dex (cen [] [] 4 0 (GN v13) (PE v13) [35] [3])) (zG (K:=(kx E 48 0)) (b:=false) ⟨[(35,vo 3 0 1 v11.length)],[(3,ro 0 3 1 v11.length (rf qL v11))]⟩ (opAt (rg f19 32051) 8) [] [] 4 (o1 (kr v11.length)) rfl (FB v11 v13 h14) (.inr ⟨(by kernel_rfl),HU v13⟩) (by kernel_rfl)),qd 9 dN (AS g15)] 3 [6,7] [(6,vc (cs (x6++v13)))] (q_vv [] 4 [16] [(16,vi (w64 (x7+1)))] ?_)
   exact q_hl (PU a1 (l5++[(a1.Rings.getD x7.toNat dd).Z]) (l5.length+1) (x6++v13) (w64 (x7+1))) (ih (l5++[(a1.Rings.getD x7.toNat dd).Z]) (l5.length+1) (x6++v13) (w64 (x7+1)) _ (wK rfl rfl) hm)
  ·refine q_ex 0 ?_;obtain rfl:=oi hm;exact q_l0
theorem GE (a1:Scan) (r:ByteArray×Int) (hm:jH a1=some r):CtX Tryz.prog globs 19 0 0 [.agg (zA a1)] [] (IM r) (PL r):=by
 unfold jH at hm;refine q_E f19 48 λE=>?_;refine s_vn [] 0 ⟨[(1,vp 0 0)],[(0,bx 25 (zA a1))]⟩ (q_sq ?_);obtain⟨v2,h3,hm⟩:=qE hm;refine s_vv [qc 1 [8] 1 (YK a1 v2 h3)] 1 [] [(4,vi v2)] (s_va 1 [(11,vb (v2 !=0))] ?_);refine q_cq hm (λhm=>?_) (λhm=>?_)
 ·refine s_vn [] 1 ⟨[(2,vc (cs (ByteArray.mk #[]))),(3,vi v2)],[]⟩ ?_;obtain rfl:=oi hm;exact q_rt q_rm
 ·refine q_sk (s_vv [] 1 [4,11] [(5,vc (.emp))] ?_);refine s_va 1 [(6,vc (cs (ByteArray.mk #[])))] (q_sq ?_);refine s_va 1 [(15,vi (a1.Rings.length:Int)),(16,vi 0)] (q_fo 5 1 3 1 qL ?_);obtain⟨o18,h19,hm⟩:=qE hm;refine zQ (nd f19 500) 0 (by kernel_rfl) FUEL (λo=>FP a1 o.1 o.2) o18 (q_hl (PU a1 ([]:List Int) 0 (ByteArray.mk #[]) 0) (qAC E a1 FUEL ([]:List Int) 0 (ByteArray.mk #[]) 0 o18 rfl h19)) ?_;obtain⟨v20,h21,hm⟩:=qE hm;obtain⟨g22,hm⟩:=qJ hm;obtain⟨v23,h24,hm⟩:=qE hm;obtain⟨v25,h26,hm⟩:=qE hm;obtain⟨g27,hm⟩:=qJ hm
  refine s_dn [qd 1 (dex (cen [] [] 2 0 (GN v20) (PE v20) [39] [1])) (zG (K:=(kx E 48 0)) (b:=false) ⟨[(39,vo 1 0 1 o18.1.length)],[(1,ro 0 3 1 o18.1.length (rf qL o18.1))]⟩ (opAt (rg f19 126) 1) [] [] 2 (o1 (kr o18.1.length)) rfl (FB o18.1 v20 h21) (.inr ⟨(by kernel_rfl),HU v20⟩) (by kernel_rfl)),qd 3 dN (AS g22),qc 6 [44] 2 (IY a1.Defects v23 h24),qd 7 (dex (cen [] [] 3 0 (GN v25) (PE v25) [45] [2])) (zG (K:=(kx E 48 0)) (b:=false) ⟨[(45,vo 2 0 1 v23.length)],[(2,ro 0 3 1 v23.length (rf qL v23))]⟩ (opAt (rg f19 126) 7) [] [] 3 (o1 (kr v23.length)) rfl (FB v23 v25 h26) (.inr ⟨(by kernel_rfl),HU v25⟩) (by kernel_rfl)),qd 8 dN (AS g27)] [0,1,0,7,0,16,51,115,255,511,1023] 2 ⟨[(2,vc (cs ((v20++o18.2)++v25))),(3,vi 0)],[]⟩ ?_
  obtain rfl:=oi hm;exact q_rt q_rm
def jO (a1:Int) (a2:qD) (r:Int×Int×Int):V:= .tup [.one (.val (.int .u64 r.1)),.one (ci r.2.1),.one (ci r.2.2)]
def jM (a1:Int) (a2:qD) (r:Int×Int×Int):List (Nat×(Nat×O)):=[(0,bx 172 (qK a2))]
def LK (a1:Int) (a2:qD) (x3:Int) (x4:Int) (x13:Bool):St:=
 ⟨[(1,vi a1),(7,vc (.val (.int .u64 (orI .u64 x3 (shlI .u64 (IntKind.u64.wrap (andI .u8 (wS a2.s ((w64 (a1+x4)).toNat)) 127)) (w64 (7*x4))))))),(8,vi x4),(50,vb x13)],[(0,bx 172 (qK a2))]⟩
def LJ (a1:Int) (a2:qD) (x3:Int) (x4:Int) (x8:Bool):St:=
 ⟨[(0,vp 0 0),(1,vi a1),(7,vc (.val (.int .u64 x3))),(8,vi x4),(9,vc (.val (.int .u8 (wS a2.s ((w64 (a1+x4)).toNat))))),(34,vb x8)],[(0,bx 172 (qK a2))]⟩
def ZM (a1:Int) (a2:qD) (x3:Int) (x4:Int):St:=
 ⟨[(0,vp 0 0),(1,vi a1),(7,vc (.val (.int .u64 x3))),(8,vi x4)],[(0,bx 172 (qK a2))]⟩
def KQ :St:=
 ⟨[],[]⟩
theorem NP (E:Env 1) (a1:Int) (a2:qD):∀(n:Nat) (x3:Int) (x4:Int) (res:(Int×Int×Int)⊕Unit),zL a1 a2 n x3 x4=some res->HL (kx E 56 1) (nd f185 60) (yS 0 (λo=>KQ) (λv st=>RetQ Tryz.prog f185 (jO a1 a2 v) (jM a1 a2 v) .ret st) res) n (ZM a1 a2 x3 x4):=by
 intro n
 induction n with
 |zero=>
  intro x3 x4 res hm;cases hm
 |succ n ih=>
  intro x3 x4 res hm;refine qT (q_sq ?_);refine q_bk 1 (q_sq ?_);refine s_va 1 [(20,vb (decide ((w64 (a1+x4))≥(a2.s.size:Int))))] (q_cq hm (λhm=>?_) (λhm=>?_))
  ·refine s_vv [] 1 [0,1,7,8,20] [(4,vc (.val (.int .u64 0))),(5,vi 0),(6,vi 3)] ?_;obtain rfl:=oi hm;refine q_rt (zU (0,0,3) ?_);exact q_rm
  ·refine q_sk ?_;obtain⟨g6,hm⟩:=qJ hm;refine s_vv [qi 7 g6] 1 [20] [(9,vc (.val (.int .u8 (wS a2.s ((w64 (a1+x4)).toNat)))))] (q_sq ?_);refine q_jn (LJ a1 a2 x3 x4) (λp=>wZ a1 a2 x3 x4 (zL a1 a2 n) p=some res) ?_ ?_
   ·rintro x8 hm;refine q_cq hm (λhm=>?_) (λhm=>?_)
    ·refine s_vv [] 1 [0,1,7,8,9,34] [(4,vc (.val (.int .u64 0))),(5,vi 0),(6,vi 5)] ?_;obtain rfl:=oi hm;refine q_rt (zU (0,0,5) ?_);exact q_rm
    ·refine q_sk ?_;obtain⟨g10,hm⟩:=qJ hm;refine s_vv [qd 6 dN (nneg_of g10)] 1 [7,34] [(7,vc (.val (.int .u64 (orI .u64 x3 (shlI .u64 (IntKind.u64.wrap (andI .u8 (wS a2.s ((w64 (a1+x4)).toNat)) 127)) (w64 (7*x4)))))))] (q_sq ?_);refine s_va 1 [(44,vb (decide ((wS a2.s ((w64 (a1+x4)).toNat))≥128)))] (q_cq hm (λhm=>?_) (λhm=>?_))
     ·refine q_ex 1 (q_vv [] 1 [8,9,44] [(8,vi (w64 (x4+1)))] ?_);exact q_hl (ZM a1 a2 (orI .u64 x3 (shlI .u64 (IntKind.u64.wrap (andI .u8 (wS a2.s ((w64 (a1+x4)).toNat)) 127)) (w64 (7*x4)))) (w64 (x4+1))) (ih (orI .u64 x3 (shlI .u64 (IntKind.u64.wrap (andI .u8 (wS a2.s ((w64 (a1+x4)).toNat)) 127)) (w64 (7*x4)))) (w64 (x4+1)) _ hm)
     ·refine q_sk (q_sq ?_);refine q_jn (LK a1 a2 x3 x4) (λp=>yP a1 a2 x3 x4 p=some res) ?_ ?_
      ·rintro x13 hm;refine q_cq hm (λhm=>?_) (λhm=>?_)
       ·refine s_vv [] 1 [1,7,8,50] [(4,vc (.val (.int .u64 0))),(5,vi 0),(6,vi 5)] ?_;obtain rfl:=oi hm;refine q_rt (zU (0,0,5) ?_);exact q_rm
       ·refine q_sk (s_vv [] 1 [1,7,8,50] [(4,vc (.val (.int .u64 (orI .u64 x3 (shlI .u64 (IntKind.u64.wrap (andI .u8 (wS a2.s ((w64 (a1+x4)).toNat)) 127)) (w64 (7*x4))))))),(5,vi (w64 ((w64 (a1+x4))+1))),(6,vi 0)] ?_);obtain rfl:=oi hm;refine q_rt (zU (orI .u64 x3 (shlI .u64 (IntKind.u64.wrap (andI .u8 (wS a2.s ((w64 (a1+x4)).toNat)) 127)) (w64 (7*x4))),w64 ((w64 (a1+x4))+1),0) ?_);exact q_rm
      ·rcases bif_c hm with⟨b12,hm⟩|⟨b12,hm⟩
       ·exact q_vv [qf 2 b12] 1 [0,9,44] [(50,vb (decide (x4>0)))] (q_J (decide (x4>0)) hm)
       ·exact q_vv [qf 2 b12] 1 [0,9,44] [(50,vb false)] (q_J (false) hm)
   ·rcases bif_c hm with⟨b7,hm⟩|⟨b7,hm⟩
    ·exact q_vv [qf 2 b7] 1 [] [(34,vb (decide ((wS a2.s ((w64 (a1+x4)).toNat))>1)))] (q_J (decide ((wS a2.s ((w64 (a1+x4)).toNat))>1)) hm)
    ·exact q_vv [qf 2 b7] 1 [] [(34,vb false)] (q_J (false) hm)
theorem RS (a1:Int) (a2:qD) (r:Int×Int×Int) (hm:jB a1 a2=some r):CtX Tryz.prog globs 185 1 1 [.one (.bptr 0 0 0),.one (ci a1)] [(0,bx 172 (qK a2))] (jO a1 a2 r) (jM a1 a2 r):=by
 unfold jB at hm;refine q_E f185 56 λE=>?_;refine s_vn [] 1 ⟨[(0,vp 0 0),(1,vi a1)],[(0,bx 172 (qK a2))]⟩ (s_va 1 [(7,vc (.val (.int .u64 0)))] ?_);refine s_va 1 [(8,vi 0)] ?_;obtain⟨u17,h16,hm⟩:=qE hm;refine wL (nd f185 60) 0 (by kernel_rfl) FUEL (λo=>KQ) (λv st=>RetQ Tryz.prog f185 (jO a1 a2 v) (jM a1 a2 v) .ret st) u17 (q_hl (ZM a1 a2 0 0) (NP E a1 a2 FUEL 0 0 u17 h16)) ?_ ?_
 ·rintro v18 rfl st hr;obtain rfl:=oi hm;exact hr
 ·rintro o15 rfl;replace hm:_=some r:=hm;cases hm
open Go.Proofs Go.Proofs.Tryz
def TY (a1:Int) (a2:Int) (a3:Int) (a4:qD) (r:Int×Int×Int):V:= .tup [.one (ci r.1),.one (ci r.2.1),.one (ci r.2.2)]
def TR (a1:Int) (a2:Int) (a3:Int) (a4:qD) (r:Int×Int×Int):List (Nat×(Nat×O)):=[(0,bx 172 (qK a4))]
def LH (a4:qD) (v5:Int×Int×Int) (x9:Int) (x11:Bool):St:=
 ⟨[(12,vi v5.2.1),(14,vi x9),(40,vb x11)],[(0,bx 172 (qK a4))]⟩
def LI (a2:Int) (a3:Int) (a4:qD) (v5:Int×Int×Int) (x9:Int):St:=
 ⟨[(2,vi a2),(3,vi a3),(12,vi v5.2.1),(14,vi x9)],[(0,bx 172 (qK a4))]⟩
theorem SK (a1:Int) (a2:Int) (a3:Int) (a4:qD) (r:Int×Int×Int) (hm:yN a1 a2 a3 a4=some r):CtX Tryz.prog globs 162 1 1 [.one (.bptr 0 0 0),.one (ci a1),.one (ci a2),.one (ci a3)] [(0,bx 172 (qK a4))] (TY a1 a2 a3 a4 r) (TR a1 a2 a3 a4 r):=by
 unfold yN at hm;refine q_E f162 43 λE=>?_;refine s_vn [] 1 ⟨[(0,vp 0 0),(1,vi a1),(2,vi a2),(3,vi a3)],[(0,bx 172 (qK a4))]⟩ ?_;obtain⟨v5,h6,hm⟩:=qE hm;refine s_vv [qd 2 (dex (cen [(0,0)] [0] 0 1 (jO a1 a4 v5) (jM a1 a4 v5) [16,17] [0])) (zG (K:=(kx E 43 1)) ⟨[(16,vp 0 0),(17,vi a1)],[(0,bx 172 (qK a4))]⟩ (opAt (rg f162 6) 2) [(0,0)] [0] 0 o0 rfl (RS a1 a4 v5 h6) (.inl rfl) (by kernel_rfl))] 1 [0,1] [(11,vc (.val (.int .u64 v5.1))),(12,vi v5.2.1),(13,vi v5.2.2)] (q_sq ?_);refine s_va 1 [(23,vb (v5.2.2 !=0))] (q_cq hm (λhm=>?_) (λhm=>?_))
 ·refine s_vv [] 1 [2,3,11,12,13,23] [(8,vi 0),(9,vi 0),(10,vi v5.2.2)] ?_;obtain rfl:=oi hm;exact q_rt q_rm
 ·refine q_sk (s_vv [qd 1 dN (show¬(1:Int)<0 by decide)] 1 [13,23] [(14,vi (w64 (shrI .u64 v5.1 1)))] ?_);refine q_jn (LI a2 a3 a4 v5) (λp=>jD a2 a3 v5 p=some r) ?_ ?_
  ·rintro x9 hm;refine q_sq (q_jn (LH a4 v5 x9) (λp=>yW v5 x9 p=some r) ?_ ?_)
   ·rintro x11 hm;refine q_cq hm (λhm=>?_) (λhm=>?_)
    ·refine s_vv [] 1 [12,14,40] [(8,vi 0),(9,vi 0),(10,vi 9)] ?_;obtain rfl:=oi hm;exact q_rt q_rm
    ·refine q_sk (s_vv [] 1 [12,14,40] [(8,vi x9),(9,vi v5.2.1),(10,vi 0)] ?_);obtain rfl:=oi hm;exact q_rt q_rm
   ·rcases bif_c hm with⟨b10,hm⟩|⟨b10,hm⟩
    ·exact q_vv [qf 3 b10] 1 [2,3] [(40,vb true)] (q_J (true) hm)
    ·exact q_vv [qf 3 b10] 1 [2,3] [(40,vb (decide (x9>a3)))] (q_J (decide (x9>a3)) hm)
  ·refine s_vv [] 1 [11] [(30,vb ((andI .u64 v5.1 1)==1))] (q_cq hm (λhm=>?_) (λhm=>?_))
   ·exact q_vv [] 1 [14,30] [(14,vi (notI .i64 (w64 (shrI .u64 v5.1 1))))] (q_J (notI .i64 (w64 (shrI .u64 v5.1 1))) hm)
   ·exact q_sk (q_J (w64 (shrI .u64 v5.1 1)) hm)
def RW (a1:qD) (r:Bool):V:=vb r
def RQ (a1:qD) (r:Bool):List (Nat×(Nat×O)):=[(0,bx 172 (qK a1))]
theorem MU (a1:qD) (r:Bool) (hm:ZH a1=some r):CtX Tryz.prog globs 160 1 1 [.one (.bptr 0 0 0)] [(0,bx 172 (qK a1))] (RW a1 r) (RQ a1 r):=by
 unfold ZH at hm;refine q_E f160 12 λE=>?_;refine s_vn [] 1 ⟨[(0,vp 0 0)],[(0,bx 172 (qK a1))]⟩ (s_vv [] 1 [0] [(2,vb (a1.e !=0))] ?_);obtain rfl:=oi hm;exact q_rt q_rm
def RT (a1:Int) (a2:Int) (a3:qD) (r:Int×Int×Int):V:= .tup [.one (.val (.int .u64 r.1)),.one (ci r.2.1),.one (ci r.2.2)]
def RY (a1:Int) (a2:Int) (a3:qD) (r:Int×Int×Int):List (Nat×(Nat×O)):=[(0,bx 172 (qK a3))]
def LA (a3:qD) (v4:Int×Int×Int) (x8:Bool):St:=
 ⟨[(9,vc (.val (.int .u64 v4.1))),(10,vi v4.2.1),(29,vb x8)],[(0,bx 172 (qK a3))]⟩
theorem HX (a1:Int) (a2:Int) (a3:qD) (r:Int×Int×Int) (hm:ZI a1 a2 a3=some r):CtX Tryz.prog globs 161 1 1 [.one (.bptr 0 0 0),.one (ci a1),.one (ci a2)] [(0,bx 172 (qK a3))] (RT a1 a2 a3 r) (RY a1 a2 a3 r):=by
 unfold ZI at hm;refine q_E f161 32 λE=>?_;refine s_vn [] 1 ⟨[(0,vp 0 0),(1,vi a1),(2,vi a2)],[(0,bx 172 (qK a3))]⟩ ?_;obtain⟨v4,h5,hm⟩:=qE hm;refine s_vv [qd 2 (dex (cen [(0,0)] [0] 0 1 (jO a1 a3 v4) (jM a1 a3 v4) [13,14] [0])) (zG (K:=(kx E 32 1)) ⟨[(13,vp 0 0),(14,vi a1)],[(0,bx 172 (qK a3))]⟩ (opAt (rg f161 6) 2) [(0,0)] [0] 0 o0 rfl (RS a1 a3 v4 h5) (.inl rfl) (by kernel_rfl))] 1 [0,1] [(9,vc (.val (.int .u64 v4.1))),(10,vi v4.2.1),(11,vi v4.2.2)] (q_sq ?_);refine s_va 1 [(20,vb (v4.2.2 !=0))] (q_cq hm (λhm=>?_) (λhm=>?_))
 ·refine s_vv [] 1 [2,9,10,11,20] [(6,vc (.val (.int .u64 0))),(7,vi 0),(8,vi v4.2.2)] ?_;obtain rfl:=oi hm;exact q_rt q_rm
 ·refine q_sk (q_sq ?_);refine q_jn (LA a3 v4) (λp=>yI v4 p=some r) ?_ ?_
  ·rintro x8 hm;refine q_cq hm (λhm=>?_) (λhm=>?_)
   ·refine s_vv [] 1 [9,10,29] [(6,vc (.val (.int .u64 0))),(7,vi 0),(8,vi 4)] ?_;obtain rfl:=oi hm;exact q_rt q_rm
   ·refine q_sk (s_vv [] 1 [9,10,29] [(6,vc (.val (.int .u64 v4.1))),(7,vi v4.2.1),(8,vi 0)] ?_);obtain rfl:=oi hm;exact q_rt q_rm
  ·rcases bif_c hm with⟨b7,hm⟩|⟨b7,hm⟩
   ·exact q_vv [qf 2 b7] 1 [2,11,20] [(29,vb true)] (q_J (true) hm)
   ·exact q_vv [qf 2 b7] 1 [2,11,20] [(29,vb (decide (v4.1>(IntKind.u64.wrap (a2)))))] (q_J (decide (v4.1>(IntKind.u64.wrap (a2)))) hm)
open Go.Proofs Go.Proofs.Tryz
def DR (a1:Int) (a2:Int) (a3:qD) (r:Int×Int):V:= .undef
def DT (a1:Int) (a2:Int) (a3:qD) (r:Int×Int):List (Nat×(Nat×O)):=[(0,bx 172 [cs a3.s,ci r.1,ci r.2])]
theorem IP (a1:Int) (a2:Int) (a3:qD) (r:Int×Int) (hm:yC a1 a2 a3=some r):CtX Tryz.prog globs 163 1 1 [.one (.bptr 0 0 0),.one (ci a1),.one (ci a2)] [(0,bx 172 (qK a3))] (DR a1 a2 a3 r) (DT a1 a2 a3 r):=by
 unfold yC at hm;refine q_E f163 16 λE=>?_;refine q_sq (s_va 1 [(7,vb (a2 !=0))] ?_);refine q_cq hm (λhm=>?_) (λhm=>?_)
 ·refine s_vn [] 1 ⟨[],[(0,bx 172 [cs a3.s,ci a3.at_,ci a2])]⟩ ?_;obtain rfl:=oi hm;exact q_rt q_rm
 ·refine q_sk (q_vn [] 1 ⟨[],[(0,bx 172 [cs a3.s,ci a1,ci a3.e])]⟩ ?_);obtain rfl:=oi hm;exact q_rm
def DI (a1:Int) (a2:Int) (a3:Int) (a4:qD) (r:(List Int)×Int×Int):V:=vo 1 0 1 r.1.length
def GY (a1:Int) (a2:Int) (a3:Int) (a4:qD) (r:(List Int)×Int×Int):List (Nat×(Nat×O)):=[(0,bx 172 [cs a4.s,ci r.2.1,ci r.2.2]),(1,ro 0 3 1 r.1.length (rf qL r.1))]
def SM (a2:Int) (a3:Int) (a4:qD) (v8:Int×Int×Int) (x10:Int) (x11:Int) (l12:List Int) (x13:Int) (x15:Bool):St:=
 ⟨[(0,vp 0 0),(2,vi a2),(3,vi a3),(9,vc (.val (.int .u64 v8.1))),(10,vi x10),(11,vi x11),(12,vo 1 0 1 l12.length),(13,vc (.val (.int .u64 x13))),(34,vb x15)],[(0,bx 172 (qK a4)),(1,ro 0 3 1 l12.length (rf qL l12))]⟩
def WM (a2:Int) (a3:Int) (a4:qD) (v8:Int×Int×Int) (x10:Int) (x11:Int) (l12:List Int) (l12n:Nat) (x13:Int):St:=
 ⟨[(0,vp 0 0),(2,vi a2),(3,vi a3),(9,vc (.val (.int .u64 v8.1))),(10,vi x10),(11,vi x11),(12,vo 1 0 1 l12n),(13,vc (.val (.int .u64 x13)))],[(0,bx 172 (qK a4)),(1,ro 0 3 1 l12n (rf qL l12))]⟩
def TA (a4:qD) (x20:Int) (x21:Int) (l22:List Int):St:=
 ⟨[(0,vp 0 0),(10,vi x20),(11,vi x21),(12,vo 1 0 1 l22.length)],[(0,bx 172 (qK a4)),(1,ro 0 3 1 l22.length (rf qL l22))]⟩
theorem HF (E:Env 1) (a2:Int) (a3:Int) (a4:qD) (v8:Int×Int×Int):∀(n:Nat) (x10:Int) (x11:Int) (l12:List Int) (l12n:Nat) (x13:Int) (res:Int×Int×(List Int)),l12.length=l12n->zB a2 a3 a4 v8 n x10 x11 l12 x13=some res->HL (kx E 57 1) (nd f109 500) (zT 0 (λo=>TA a4 o.1 o.2.1 o.2.2) res) n (WM a2 a3 a4 v8 x10 x11 l12 l12n x13):=by
 intro n
 induction n with
 |zero=>
  intro x10 x11 l12 l12n x13 res hl0 hm;cases hm
 |succ n ih=>
  intro x10 x11 l12 l12n x13 res hl0 hm;subst hl0;refine qT (q_sq ?_);refine q_jn (SM a2 a3 a4 v8 x10 x11 l12 x13) (λp=>wQ a2 a3 a4 x10 x11 l12 x13 (zB a2 a3 a4 v8 n) p=some res) ?_ ?_
  ·rintro x15 hm;refine q_cq hm (λhm=>?_) (λhm=>?_)
   ·refine q_sk (q_sq ?_);refine q_bk 1 (s_vv [] 2 [11,34] [] ?_);obtain⟨v17,h18,hm⟩:=qE hm;refine s_vv [qd 4 (dex (cen [(0,0)] [0] 1 1 (TY x10 a2 a3 a4 v17) (TR x10 a2 a3 a4 v17) [38,39,40,41] [0])) (zG (K:=(kx E 57 1)) ⟨[(38,vp 0 0),(39,vi x10),(40,vi a2),(41,vi a3)],[(0,bx 172 (qK a4))]⟩ (opAt (rg f109 16018) 4) [(0,0)] [0] 1 o0 rfl (SK x10 a2 a3 a4 v17 h18) (.inl rfl) (by kernel_rfl))] 2 [10] [(10,vi v17.2.1),(11,vi v17.2.2),(14,vi v17.1)] ?_;obtain⟨g19,hm⟩:=qJ hm
    refine q_vu [qd 2 (drw 2 0 (rf qL [v17.1])) (litP qL dd 1 (λ_=>rfl) ([v17.1]:List Int) 1 rfl),qd 3 (drw 1 1 (rf qL (l12++[v17.1]))) (apP qL dd l12 ([v17.1]:List Int) l12.length 1 1 8 (1<=1) (kr _) rfl rfl (λ_=>rfl) (zW g19))] 2 [12,14] [(12,vo 1 1 1 (l12.length+1))] [1] [(1,ro 1 3 1 (l12.length+1) (rf qL (l12++[v17.1])))] (q_vv [] 3 [13] [(13,vc (.val (.int .u64 (IntKind.u64.wrap (x13+1)))))] ?_)
    exact q_hl (WM a2 a3 a4 v8 v17.2.1 v17.2.2 (l12++[v17.1]) (l12.length+1) (IntKind.u64.wrap (x13+1))) (ih v17.2.1 v17.2.2 (l12++[v17.1]) (l12.length+1) (IntKind.u64.wrap (x13+1)) _ (wK rfl rfl) hm)
   ·refine q_ex 0 ?_;obtain rfl:=oi hm;exact q_l0
  ·rcases bif_c hm with⟨b14,hm⟩|⟨b14,hm⟩
   ·exact q_vv [qf 3 b14] 2 [] [(34,vb (x11==0))] (q_J (x11==0) hm)
   ·exact q_vv [qf 3 b14] 2 [] [(34,vb false)] (q_J (false) hm)
theorem IV (a1:Int) (a2:Int) (a3:Int) (a4:qD) (r:(List Int)×Int×Int) (hm:JI a1 a2 a3 a4=some r):CtX Tryz.prog globs 109 1 1 [.one (.bptr 0 0 0),.one (ci a1),.one (ci a2),.one (ci a3)] [(0,bx 172 (qK a4))] (DI a1 a2 a3 a4 r) (GY a1 a2 a3 a4 r):=by
 unfold JI at hm;refine q_E f109 57 λE=>?_;refine s_vn [] 1 ⟨[(0,vp 0 0),(1,vi a1),(2,vi a2),(3,vi a3)],[(0,bx 172 (qK a4))]⟩ (q_sq ?_);obtain⟨v5,h6,hm⟩:=qE hm;refine s_vv [qd 1 (dex (cen [(0,0)] [0] 0 1 (RW a4 v5) (RQ a4 v5) [15] [0])) (zG (K:=(kx E 57 1)) ⟨[(15,vp 0 0)],[(0,bx 172 (qK a4))]⟩ (opAt (rg f109 12) 1) [(0,0)] [0] 0 o0 rfl (MU a4 v5 h6) (.inl rfl) (by kernel_rfl))] 1 [] [(16,vb v5)] (q_cq hm (λhm=>?_) (λhm=>?_))
 ·refine s_vv [] 1 [0,1,2,3,16] [(8,vc (.emp))] (q_fo 8 1 3 1 qL ?_);refine q_fl 8 1 3 1 qL ?_;obtain rfl:=oi hm;exact q_rt q_rm
 ·refine q_sk ?_;obtain⟨v8,h9,hm⟩:=qE hm;refine s_vv [qd 6 (dex (cen [(0,0)] [0] 0 1 (RT a4.at_ a1 a4 v8) (RY a4.at_ a1 a4 v8) [18,22,23] [0])) (zG (K:=(kx E 57 1)) ⟨[(18,vp 0 0),(22,vi a4.at_),(23,vi a1)],[(0,bx 172 (qK a4))]⟩ (opAt (rg f109 14) 6) [(0,0)] [0] 0 o0 rfl (HX a4.at_ a1 a4 v8 h9) (.inl rfl) (by kernel_rfl))] 1 [1,16] [(9,vc (.val (.int .u64 v8.1))),(10,vi v8.2.1),(11,vi v8.2.2)] (s_va 1 [(12,vc (.emp))] ?_);refine q_sq (s_va 1 [(13,vc (.val (.int .u64 0)))] ?_);refine q_fo 12 1 3 1 qL ?_;obtain⟨o23,h24,hm⟩:=qE hm
  refine zQ (nd f109 500) 0 (by kernel_rfl) FUEL (λo=>TA a4 o.1 o.2.1 o.2.2) o23 (q_hl (WM a2 a3 a4 v8 v8.2.1 v8.2.2 ([]:List Int) 0 0) (HF E a2 a3 a4 v8 FUEL v8.2.1 v8.2.2 ([]:List Int) 0 0 o23 rfl h24)) ?_;obtain⟨v25,h26,hm⟩:=qE hm
  refine s_vu [qd 3 (dex (cen [(0,0)] [0] 1 1 (DR o23.1 o23.2.1 a4 v25) (DT o23.1 o23.2.1 a4 v25) [50,51,52] [0])) (zG (K:=(kx E 57 1)) ⟨[(50,vp 0 0),(51,vi o23.1),(52,vi o23.2.1)],[(0,bx 172 (qK a4))]⟩ (opAt (rg f109 126) 3) [(0,0)] [0] 1 o0 rfl (IP o23.1 o23.2.1 a4 v25 h26) (.inl rfl) (by kernel_rfl))] 2 [0,10] [] [0] [(0,bx 172 [cs a4.s,ci v25.1,ci v25.2])] (q_sq ?_);refine s_vv [] 2 [11] [(55,vb (o23.2.1 !=0))] (q_cq hm (λhm=>?_) (λhm=>?_))
  ·refine s_vu [] 2 [12,55] [(8,vc (.emp))] [1] [] (q_fo 8 2 3 1 qL ?_);refine q_fl 8 2 3 1 qL ?_;obtain rfl:=oi hm;exact q_sw 2 1 (q_rt q_rm)
  ·refine q_sk (s_vv [] 2 [12,55] [(8,vo 1 0 1 o23.2.2.length)] ?_);obtain rfl:=oi hm;exact q_rt q_rm
def KE (a1:Int) (a2:qD) (r:(List Int)×Int×Int):V:=vo 2 0 1 r.1.length
def KL (a1:Int) (a2:qD) (r:(List Int)×Int×Int):List (Nat×(Nat×O)):=[(0,bx 129 [.bptr 1 0 0]),(1,bx 172 [cs a2.s,ci r.2.1,ci r.2.2]),(2,ro 0 3 1 r.1.length (rf qL r.1))]
theorem TN (a1:Int) (a2:qD) (r:(List Int)×Int×Int) (hm:QZ a1 a2=some r):CtX Tryz.prog globs 108 2 2 [.one (ci a1),.one (.bptr 0 0 0)] [(0,bx 129 [.bptr 1 0 0]),(1,bx 172 (qK a2))] (KE a1 a2 r) (KL a1 a2 r):=by
 unfold QZ at hm;refine q_E f108 7 λE=>?_;refine s_vn [] 2 ⟨[(0,vi a1),(1,vp 0 0)],[(0,bx 129 [.bptr 1 0 0]),(1,bx 172 (qK a2))]⟩ ?_;obtain⟨v3,h4,hm⟩:=qE hm
 refine s_vu [qd 2 (dex (cen [(1,0)] [0] 1 1 (DI a1 (-1099511627776) 1099511627776 a2 v3) (GY a1 (-1099511627776) 1099511627776 a2 v3) [4,5] [1])) (zG (K:=(kx E 7 2)) ⟨[(4,vp 1 0),(5,vi a1)],[(1,bx 172 (qK a2))]⟩ (opAt (rg f108 6) 2) [(1,0)] [0] 1 o0 rfl (IV a1 (-1099511627776) 1099511627776 a2 v3 h4) (.inl rfl) (by kernel_rfl))] 2 [0,1] [(3,vo 2 0 1 v3.1.length)] [1] [(1,bx 172 [cs a2.s,ci v3.2.1,ci v3.2.2]),(2,ro 0 3 1 v3.1.length (rf qL v3.1))] ?_;obtain rfl:=oi hm;exact q_rt q_rm
open Go.Proofs Go.Proofs.Tryz
def WJ (r:(List qC)×Bool):V:= .tup [.one (.own 0 0 3 r.1.length),.one (cb r.2)]
def jR (r:(List qC)×Bool):List (Nat×(Nat×O)):=[(0,ro 0 73 3 r.1.length (rf qF r.1))]
theorem qAG (r:(List qC)×Bool):QI (jR r):=by
 intro i k o h;unfold jR at h;rw[look_cons] at h;split at h
 ·cases h;exact λ_ _=>rfl
 ·cases h
def AT (l2:List Int) (l3:List qC) (x10:Bool):St:=
 ⟨[(0,vc (tl qL dd l2)),(4,vo 0 0 3 l3.length),(19,vb x10)],[(0,ro 0 73 3 l3.length (rf qF l3))]⟩
def QN (l2:List Int) (l3:List qC) (l3n:Nat):St:=
 ⟨[(0,vc (tl qL dd l2)),(4,vo 0 0 3 l3n)],[(0,ro 0 73 3 l3n (rf qF l3))]⟩
def TK (l16:List qC):St:=
 ⟨[(4,vo 0 0 3 l16.length)],[(0,ro 0 73 3 l16.length (rf qF l16))]⟩
theorem SW (E:Env 0):∀(n:Nat) (l2:List Int) (l3:List qC) (l3n:Nat) (res:((List qC)×Bool)⊕(List qC)),l3.length=l3n->zO n l2 l3=some res->HL (kx E 43 0) (nd f110 56) (yS 0 TK (λv st=>RetQ Tryz.prog f110 (WJ v) (jR v) .ret st) res) n (QN l2 l3 l3n):=by
 intro n
 induction n with
 |zero=>
  intro l2 l3 l3n res hl0 hm;cases hm
 |succ n ih=>
  intro l2 l3 l3n res hl0 hm;subst hl0;refine qT (q_sq ?_);refine s_va 1 [(7,vb (decide ((l2.length:Int)>0)))] (q_cq hm (λhm=>?_) (λhm=>?_))
  ·refine q_sk (q_bk 1 ?_);refine q_bk 2 ?_;obtain⟨g5,hm⟩:=qJ hm;refine s_vv [qi 1 g5] 1 [7] [(8,vb ((l2.getD (0:Int).toNat dd)==0))] (q_cq hm (λhm=>?_) (λhm=>?_))
   ·obtain⟨g7,hm⟩:=qJ hm;refine s_vu [qd 2 (drw 1 0 (rf qF [(qC.mk (qA.mk 0 0) false)])) (litP qF dd 3 (λ_=>rfl) ([(qC.mk (qA.mk 0 0) false)]:List qC) 1 rfl),qd 3 (drw 0 1 (rf qF (l3++[(qC.mk (qA.mk 0 0) false)]))) (apP qF dd l3 ([(qC.mk (qA.mk 0 0) false)]:List qC) l3.length 1 3 24 (1<=1) (kr _) rfl rfl (λ_=>rfl) (zW g7))] 1 [4,8] [(4,vo 0 1 3 (l3.length+1))] [0] [(0,ro 1 73 3 (l3.length+1) (rf qF (l3++[(qC.mk (qA.mk 0 0) false)])))] ?_;obtain⟨g8,hm⟩:=qJ hm
    exact q_vv [qd 1 (drw ((l2.drop ((1:Int).toNat)).length) 0 (rf qL (l2.drop ((1:Int).toNat)))) (slPlo qL dd l2 1 (And.intro (qZ g8).1 (qZ g8).2.1))] 2 [0] [(0,vc (tl qL dd (l2.drop ((1:Int).toNat))))] (q_hl (QN (l2.drop ((1:Int).toNat)) (l3++[(qC.mk (qA.mk 0 0) false)]) (l3.length+1)) (ih (l2.drop ((1:Int).toNat)) (l3++[(qC.mk (qA.mk 0 0) false)]) (l3.length+1) _ (wK rfl rfl) hm))
   ·refine q_jn (AT l2 l3) (λp=>yM l2 l3 (zO n) p=some res) ?_ ?_
    ·rintro x10 hm;refine q_cq hm (λhm=>?_) (λhm=>?_)
     ·obtain⟨g12,hm⟩:=qJ hm;obtain⟨g13,hm⟩:=qJ hm;obtain⟨g14,hm⟩:=qJ hm
      refine s_du [qi 2 g12,qi 5 g13,qd 9 (drw 1 0 (rf qF [(qC.mk (qA.mk (l2.getD (1:Int).toNat dd) (l2.getD (2:Int).toNat dd)) true)])) (litP qF dd 3 (λ_=>rfl) ([(qC.mk (qA.mk (l2.getD (1:Int).toNat dd) (l2.getD (2:Int).toNat dd)) true)]:List qC) 1 rfl),qd 10 (drw 0 1 (rf qF (l3++[(qC.mk (qA.mk (l2.getD (1:Int).toNat dd) (l2.getD (2:Int).toNat dd)) true)]))) (apP qF dd l3 ([(qC.mk (qA.mk (l2.getD (1:Int).toNat dd) (l2.getD (2:Int).toNat dd)) true)]:List qC) l3.length 1 3 24 (1<=1) (kr _) rfl rfl (λ_=>rfl) (zW g14))] [0,0,2,6,0,16,48,126,254,510,1023,2047] 1 [4,19] [(4,vo 0 1 3 (l3.length+1))] [0] [(0,ro 1 73 3 (l3.length+1) (rf qF (l3++[(qC.mk (qA.mk (l2.getD (1:Int).toNat dd) (l2.getD (2:Int).toNat dd)) true)])))] ?_
      obtain⟨g15,hm⟩:=qJ hm;exact q_vv [qd 1 (drw ((l2.drop ((3:Int).toNat)).length) 0 (rf qL (l2.drop ((3:Int).toNat)))) (slPlo qL dd l2 3 (And.intro (qZ g15).1 (qZ g15).2.1))] 2 [0] [(0,vc (tl qL dd (l2.drop ((3:Int).toNat))))] (q_hl (QN (l2.drop ((3:Int).toNat)) (l3++[(qC.mk (qA.mk (l2.getD (1:Int).toNat dd) (l2.getD (2:Int).toNat dd)) true)]) (l3.length+1)) (ih (l2.drop ((3:Int).toNat)) (l3++[(qC.mk (qA.mk (l2.getD (1:Int).toNat dd) (l2.getD (2:Int).toNat dd)) true)]) (l3.length+1) _ (wK rfl rfl) hm))
     ·refine s_vn [] 1 ⟨[(2,vc (.emp)),(3,vb false)],[]⟩ (q_fo 2 1 73 3 qF ?_);refine q_fl 2 1 73 3 qF ?_;obtain rfl:=oi hm;refine q_sw 1 0 (q_rt ?_);exact zU (([]:List qC),false) q_rm
    ·rcases bif_c hm with⟨b9,hm⟩|⟨b9,hm⟩
     ·exact q_vv [qi 1 g5,qf 4 b9] 1 [8] [(19,vb (decide ((l2.length:Int)≥3)))] (q_J (decide ((l2.length:Int)≥3)) hm)
     ·exact q_vv [qi 1 g5,qf 4 b9] 1 [8] [(19,vb false)] (q_J (false) hm)
  ·refine q_ex 0 ?_;obtain rfl:=oi hm;exact q_l1 l3
theorem CU (a1:List Int) (r:(List qC)×Bool) (hm:ZS a1=some r):CtX Tryz.prog globs 110 0 0 [.one (tl qL dd a1)] [] (WJ r) (jR r):=by
 unfold ZS at hm;refine q_E f110 43 λE=>?_;refine s_vn [] 0 ⟨[(0,vc (tl qL dd a1))],[]⟩ (s_va 0 [(4,vc (.emp))] ?_);refine q_sq (q_fo 4 0 73 3 qF ?_);obtain⟨u19,h18,hm⟩:=qE hm;refine wL (nd f110 56) 0 (by kernel_rfl) FUEL TK (λv st=>RetQ Tryz.prog f110 (WJ v) (jR v) .ret st) u19 (q_hl (QN a1 ([]:List qC) 0) (SW E FUEL a1 ([]:List qC) 0 u19 rfl h18)) ?_ ?_
 ·rintro v20 rfl st hr;obtain rfl:=oi hm;exact hr
 ·rintro o17 rfl;replace hm:_=some r:=hm;refine s_vv [] 1 [4] [(2,vo 0 0 3 o17.length),(3,vb true)] ?_;obtain rfl:=oi hm;exact q_rt q_rm
def qBI (r:qD):V:=vp 0 0
def qBA (r:qD):List (Nat×(Nat×O)):=[(0,bx 172 (qK r))]
theorem qAK (a1:ByteArray) (r:qD) (hm:KC a1=some r):CtX Tryz.prog globs 107 0 0 [.one (cs a1)] [] (qBI r) (qBA r):=by
 unfold KC at hm;refine q_E f107 6 λE=>?_;refine s_vn [] 0 ⟨[(0,vc (cs a1))],[]⟩ (s_vn [] 0 ⟨[(2,vp 0 0)],[(0,bx 172 [cs a1,ci 0,ci 0])]⟩ ?_);obtain rfl:=oi hm;exact q_rt q_rm
def FO (r:(List qI)×Bool):V:= .tup [.one (.own 0 0 7 r.1.length),.one (cb r.2)]
def JU (r:(List qI)×Bool):List (Nat×(Nat×O)):=[(0,ro 0 68 7 r.1.length (rf qM r.1))]
theorem qBC (r:(List qI)×Bool):QI (JU r):=by
 intro i k o h;unfold JU at h;rw[look_cons] at h;split at h
 ·cases h;exact λ_ _=>rfl
 ·cases h
def YS (l3:List Int) (l4:List qI) (l4n:Nat):St:=
 ⟨[(0,vc (tl qL dd l3)),(4,vo 0 0 7 l4n)],[(0,ro 0 68 7 l4n (rf qM l4))]⟩
def UT (l15:List qI):St:=
 ⟨[(4,vo 0 0 7 l15.length)],[(0,ro 0 68 7 l15.length (rf qM l15))]⟩
theorem AG (E:Env 0):∀(n:Nat) (l3:List Int) (l4:List qI) (l4n:Nat) (res:(List qI)),l4.length=l4n->QH n l3 l4=some res->HL (kx E 46 0) (nd f111 120) (zT 0 UT res) n (YS l3 l4 l4n):=by
 intro n
 induction n with
 |zero=>
  intro l3 l4 l4n res hl0 hm;cases hm
 |succ n ih=>
  intro l3 l4 l4n res hl0 hm;subst hl0;refine qT (q_sq ?_);refine s_va 1 [(12,vb (decide ((l3.length:Int)>0)))] (q_cq hm (λhm=>?_) (λhm=>?_))
  ·refine q_sk (q_sq ?_);refine q_bk 1 ?_;obtain⟨g6,hm⟩:=qJ hm;obtain⟨g7,hm⟩:=qJ hm;obtain⟨g8,hm⟩:=qJ hm;obtain⟨g9,hm⟩:=qJ hm;obtain⟨g10,hm⟩:=qJ hm;obtain⟨g11,hm⟩:=qJ hm;refine s_du [qi 1 g6,qi 4 g7,qi 8 g8,qi 11 g9,qi 15 g10,qi 18 g11] [0,1,3,0,8,24,63,0,128,384,0,1024,3072,8064,0,16384,49152,0,131072,393216,1032192,2097151,0,8388607] 1 [12] [(5,vp 1 0)] [] [(1,bx 66 [ci (l3.getD (1:Int).toNat dd),ci (l3.getD (2:Int).toNat dd),ci (l3.getD (3:Int).toNat dd),ci (l3.getD (4:Int).toNat dd),ci (l3.getD (5:Int).toNat dd),ci (l3.getD (6:Int).toNat dd)])] ?_;obtain⟨g12,hm⟩:=qJ hm
   obtain⟨g13,hm⟩:=qJ hm
   refine q_du [qi 2 g12,qd 6 (drw 2 0 (rf qM [(qI.mk (l3.getD (0:Int).toNat dd) (Box.mk (Span.mk (l3.getD (1:Int).toNat dd) (l3.getD (2:Int).toNat dd)) (Span.mk (l3.getD (3:Int).toNat dd) (l3.getD (4:Int).toNat dd)) (Span.mk (l3.getD (5:Int).toNat dd) (l3.getD (6:Int).toNat dd))))])) (litP qM dd 7 (λ_=>rfl) ([(qI.mk (l3.getD (0:Int).toNat dd) (Box.mk (Span.mk (l3.getD (1:Int).toNat dd) (l3.getD (2:Int).toNat dd)) (Span.mk (l3.getD (3:Int).toNat dd) (l3.getD (4:Int).toNat dd)) (Span.mk (l3.getD (5:Int).toNat dd) (l3.getD (6:Int).toNat dd))))]:List qI) 1 rfl),qd 7 (drw 0 1 (rf qM (l4++[(qI.mk (l3.getD (0:Int).toNat dd) (Box.mk (Span.mk (l3.getD (1:Int).toNat dd) (l3.getD (2:Int).toNat dd)) (Span.mk (l3.getD (3:Int).toNat dd) (l3.getD (4:Int).toNat dd)) (Span.mk (l3.getD (5:Int).toNat dd) (l3.getD (6:Int).toNat dd))))]))) (apP qM dd l4 ([(qI.mk (l3.getD (0:Int).toNat dd) (Box.mk (Span.mk (l3.getD (1:Int).toNat dd) (l3.getD (2:Int).toNat dd)) (Span.mk (l3.getD (3:Int).toNat dd) (l3.getD (4:Int).toNat dd)) (Span.mk (l3.getD (5:Int).toNat dd) (l3.getD (6:Int).toNat dd))))]:List qI) l4.length 1 7 56 (1<=1) (kr _) rfl rfl (λ_=>rfl) (zW g13))] [0,0,2,6,0,30,62,127,255] 2 [4,5] [(4,vo 0 1 7 (l4.length+1))] [0,1] [(0,ro 1 68 7 (l4.length+1) (rf qM (l4++[(qI.mk (l3.getD (0:Int).toNat dd) (Box.mk (Span.mk (l3.getD (1:Int).toNat dd) (l3.getD (2:Int).toNat dd)) (Span.mk (l3.getD (3:Int).toNat dd) (l3.getD (4:Int).toNat dd)) (Span.mk (l3.getD (5:Int).toNat dd) (l3.getD (6:Int).toNat dd))))])))] ?_
   obtain⟨g14,hm⟩:=qJ hm;refine q_vv [qd 1 (drw ((l3.drop ((7:Int).toNat)).length) 0 (rf qL (l3.drop ((7:Int).toNat)))) (slPlo qL dd l3 7 (And.intro (qZ g14).1 (qZ g14).2.1))] 3 [0] [(0,vc (tl qL dd (l3.drop ((7:Int).toNat))))] ?_
   exact q_hl (YS (l3.drop ((7:Int).toNat)) (l4++[(qI.mk (l3.getD (0:Int).toNat dd) (Box.mk (Span.mk (l3.getD (1:Int).toNat dd) (l3.getD (2:Int).toNat dd)) (Span.mk (l3.getD (3:Int).toNat dd) (l3.getD (4:Int).toNat dd)) (Span.mk (l3.getD (5:Int).toNat dd) (l3.getD (6:Int).toNat dd))))]) (l4.length+1)) (ih (l3.drop ((7:Int).toNat)) (l4++[(qI.mk (l3.getD (0:Int).toNat dd) (Box.mk (Span.mk (l3.getD (1:Int).toNat dd) (l3.getD (2:Int).toNat dd)) (Span.mk (l3.getD (3:Int).toNat dd) (l3.getD (4:Int).toNat dd)) (Span.mk (l3.getD (5:Int).toNat dd) (l3.getD (6:Int).toNat dd))))]) (l4.length+1) _ (wK rfl rfl) hm)
  ·refine q_ex 0 ?_;obtain rfl:=oi hm;exact q_l0
theorem qAN (a1:List Int) (r:(List qI)×Bool) (hm:WR a1=some r):CtX Tryz.prog globs 111 0 0 [.one (tl qL dd a1)] [] (FO r) (JU r):=by
 unfold WR at hm;refine q_E f111 46 λE=>?_;refine s_vn [] 0 ⟨[(0,vc (tl qL dd a1))],[]⟩ (q_sq ?_);refine s_vv [qd 2 dN (show(7:Int)≠0 by decide)] 0 [] [(9,vb ((Int.tmod (a1.length:Int) 7) !=0))] (q_cq hm (λhm=>?_) (λhm=>?_))
 ·refine s_vn [] 0 ⟨[(2,vc (.emp)),(3,vb false)],[]⟩ (q_fo 2 0 68 7 qM ?_);refine q_fl 2 0 68 7 qM ?_;obtain rfl:=oi hm;exact q_rt q_rm
 ·refine q_sk (s_vv [] 0 [9] [(4,vc (.emp))] ?_);refine q_sq (q_fo 4 0 68 7 qM ?_);obtain⟨o16,h17,hm⟩:=qE hm;refine zQ (nd f111 120) 0 (by kernel_rfl) FUEL UT o16 (q_hl (YS a1 ([]:List qI) 0) (AG E FUEL a1 ([]:List qI) 0 o16 rfl h17)) (s_vv [] 1 [4] [(2,vo 0 0 7 o16.length),(3,vb true)] ?_);obtain rfl:=oi hm;exact q_rt q_rm
open Go.Proofs Go.Proofs.Tryz
def BO (a1:qD) (r:Int):V:=vi r
def BS (a1:qD) (r:Int):List (Nat×(Nat×O)):=[(0,bx 172 (qK a1))]
theorem OZ (a1:qD) (r:Int) (hm:XH a1=some r):CtX Tryz.prog globs 164 1 1 [.one (.bptr 0 0 0)] [(0,bx 172 (qK a1))] (BO a1 r) (BS a1 r):=by
 unfold XH at hm;refine q_E f164 9 λE=>?_;refine s_vn [] 1 ⟨[(0,vp 0 0)],[(0,bx 172 (qK a1))]⟩ (q_sq ?_);refine s_va 1 [(4,vb false)] (R_cnF f164 (.tmp 4) 26 27 (by kernel_rfl) (by kernel_rfl) ?_);refine q_sk (s_vv [] 1 [0,4] [(2,vi a1.e)] ?_);obtain rfl:=oi hm;exact q_rt q_rm
def DK (a1:qD) (r:Int):V:=vi r
def DS (a1:qD) (r:Int):List (Nat×(Nat×O)):=[(0,bx 172 (qK a1))]
theorem IQ (a1:qD) (r:Int) (hm:JQ a1=some r):CtX Tryz.prog globs 165 1 1 [.one (.bptr 0 0 0)] [(0,bx 172 (qK a1))] (DK a1 r) (DS a1 r):=by
 unfold JQ at hm;refine q_E f165 15 λE=>?_;refine s_vn [] 1 ⟨[(0,vp 0 0)],[(0,bx 172 (qK a1))]⟩ (q_sq ?_);refine s_va 1 [(4,vb false)] (R_cnF f165 (.tmp 4) 26 27 (by kernel_rfl) (by kernel_rfl) ?_);refine q_sk (s_du [] [0,1,3,7,15,0,32,96,224,511,1023] 1 [0,4] [(2,vi (w64 ((a1.s.size:Int)-a1.at_)))] [] [] ?_);obtain rfl:=oi hm;exact q_rt q_rm
def BX (a1:qD) (r:Int):V:=vi r
def BT (a1:qD) (r:Int):List (Nat×(Nat×O)):=[(0,bx 172 (qK a1))]
theorem qAc (a1:qD) (r:Int) (hm:YX a1=some r):CtX Tryz.prog globs 112 1 1 [.one (.bptr 0 0 0)] [(0,bx 172 (qK a1))] (BX a1 r) (BT a1 r):=by
 unfold YX at hm;refine q_E f112 12 λE=>?_;refine s_vn [] 1 ⟨[(0,vp 0 0)],[(0,bx 172 (qK a1))]⟩ (q_sq ?_);obtain⟨v2,h3,hm⟩:=qE hm;refine s_vv [qd 1 (dex (cen [(0,0)] [0] 0 1 (BO a1 v2) (BS a1 v2) [4] [0])) (zG (K:=(kx E 12 1)) ⟨[(4,vp 0 0)],[(0,bx 172 (qK a1))]⟩ (opAt (rg f112 12) 1) [(0,0)] [0] 0 o0 rfl (OZ a1 v2 h3) (.inl rfl) (by kernel_rfl))] 1 [] [(3,vi v2)] (s_va 1 [(7,vb (v2 !=0))] ?_);refine q_cq hm (λhm=>?_) (λhm=>?_)
 ·refine s_vv [] 1 [0,3,7] [(2,vi v2)] ?_;obtain rfl:=oi hm;exact q_rt q_rm
 ·refine q_sk (q_sq ?_);obtain⟨v5,h6,hm⟩:=qE hm;refine s_vv [qd 1 (dex (cen [(0,0)] [0] 0 1 (DK a1 v5) (DS a1 v5) [9] [0])) (zG (K:=(kx E 12 1)) ⟨[(9,vp 0 0)],[(0,bx 172 (qK a1))]⟩ (opAt (rg f112 28) 1) [(0,0)] [0] 0 o0 rfl (IQ a1 v5 h6) (.inl rfl) (by kernel_rfl))] 1 [0,3,7] [(11,vb (decide (v5>0)))] (q_cq hm (λhm=>?_) (λhm=>?_))
  ·refine s_vv [] 1 [11] [(2,vi 4)] ?_;obtain rfl:=oi hm;exact q_rt q_rm
  ·refine q_sk (s_vv [] 1 [11] [(2,vi 0)] ?_);obtain rfl:=oi hm;exact q_rt q_rm
end Saw
end Go.SL

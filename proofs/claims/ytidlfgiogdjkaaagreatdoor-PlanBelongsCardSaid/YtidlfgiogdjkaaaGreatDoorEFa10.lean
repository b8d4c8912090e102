import Derived.Test.YtidlfgiogdjkaaaGreatDoorEBase
import Derived.Test.YtidlfgiogdjkaaaGreatDoorEFa9
import Derived.Test.YtidlfgiogdjkaaaGreatDoorEFa7
import Derived.Test.YtidlfgiogdjkaaaGreatDoorEFa2
import Derived.Test.YtidlfgiogdjkaaaGreatDoorEFa6
import Derived.Test.YtidlfgiogdjkaaaGreatDoorEFa1
import Derived.Test.YtidlfgiogdjkaaaGreatDoorEFa3
set_option linter.unusedVariables false
set_option linter.unusedSimpArgs false
namespace Go.SL
namespace Saw
open Go.Proofs
set_option maxHeartbeats 4000000
set_option maxRecDepth 100000
def KE (r:Bool):V:=vb r
def ZQ (r:Bool):List (Nat×(Nat×O)):=[]
theorem qAc (r:Bool):jW (ZQ r):=by
 intro i k o h;unfold ZQ at h;cases h
def qBq (a1:Pattern) (a2:List Product) (a3:Saw) (v14:(List Span)×(List (List Node))×Bool) (v17:(List Int)) (x19:Int) (x26:Bool):St:=
 ⟨[(1,vc (tl qC default a2)),(3,vp 0 0),(5,vp 1 0),(8,vo 3 0 1 v14.2.1.length),(10,vo 4 0 1 v17.length),(11,vi x19),(12,vp 5 0),(43,vo 2 0 2 v14.1.length),(44,vi ((v14.1.length:Nat):Int)),(45,vi x19),(70,vb x26)],[(0,bx 46 (qT a1)),(1,bx 38 (qU a3)),(2,ro 0 31 2 v14.1.length (rf e_Span v14.1)),(3,ro 0 44 1 v14.2.1.length (rf (qD e_Node) v14.2.1)),(4,ro 0 3 1 v17.length (rf e_i64 v17)),(5,bx 31 [ci ((v14.1.getD x19.toNat default).A),ci ((v14.1.getD x19.toNat default).B)])]⟩
def MK (a1:Pattern) (a2:List Product) (a3:Saw) (v14:(List Span)×(List (List Node))×Bool) (v17:(List Int)) (x19:Int):St:=
 ⟨[(1,vc (tl qC default a2)),(3,vp 0 0),(5,vp 1 0),(8,vo 3 0 1 v14.2.1.length),(10,vo 4 0 1 v17.length),(43,vo 2 0 2 v14.1.length),(44,vi ((v14.1.length:Nat):Int)),(45,vi x19)],[(0,bx 46 (qT a1)),(1,bx 38 (qU a3)),(2,ro 0 31 2 v14.1.length (rf e_Span v14.1)),(3,ro 0 44 1 v14.2.1.length (rf (qD e_Node) v14.2.1)),(4,ro 0 3 1 v17.length (rf e_i64 v17))]⟩
def qBu :St:=
 ⟨[],[]⟩
def qBJ (a1:Pattern) (a2:List Product) (a3:Saw) (x12:Bool):St:=
 ⟨[(1,vc (tl qC default a2)),(3,vp 0 0),(5,vp 1 0),(27,vb x12)],[(0,bx 46 (qT a1)),(1,bx 38 (qU a3))]⟩
theorem qGy (E:Env 0) (a1:Pattern) (a2:List Product) (a3:Saw) (v14:(List Span)×(List (List Node))×Bool) (v17:(List Int)):∀(n:Nat) (x19:Int) (res:Bool⊕Unit),QN a1 a2 a3 v14 v17 n x19=some res->HL (kx E 85 0) (nd Tryz.f22 1012) (wY 0 (λo=>qBu) (λv st=>RetQ Tryz.prog Tryz.f22 (KE v) (ZQ v) .ret st) res) n (MK a1 a2 a3 v14 v17 x19):=by
 intro n
 induction n with
 |zero=>
  intro x19 res hm;cases hm
 |succ n ih=>
  intro x19 res hm;refine qM ?_;refine s_vu [] 5 [] [(46,vb (decide (x19<((v14.1.length:Nat):Int))))] [] [] ?_;refine q_sq ?_;refine q_cm hm (λb20 hm=>?_) (λb20 hm=>?_)
  ·refine q_sk ?_;refine q_sq ?_;refine q_bk 1 ?_;obtain⟨g21,hm⟩:=qI hm;refine s_vu [qd 1 (Dir.none) (inb_of g21),qd 2 (Dir.none) (toNat_lt (inb_of g21))] 5 [46] [(11,vi x19),(12,vp 5 0)] [] [(5,bx 31 [ci ((v14.1.getD x19.toNat default).A),ci ((v14.1.getD x19.toNat default).B)])] ?_;refine q_sq ?_;refine q_jn (ι:=Bool) (λp=>qBq a1 a2 a3 v14 v17 x19 p) (λp=>NH a1 a2 a3 v14 x19 (QN a1 a2 a3 v14 v17 n) p=some res) ?_ ?_
   ·rintro x26 hm;show H _ (qBq a1 a2 a3 v14 v17 x19 x26) _ _;refine q_cm hm (λb27 hm=>?_) (λb27 hm=>?_)
    ·refine s_vn [] 6 ⟨[(6,vb false)],[]⟩ ?_;obtain rfl:=oi hm;refine q_rt ?_;refine zH false ?_;exact q_rm
    ·refine q_sk ?_;obtain⟨g28,hm⟩:=qI hm;obtain⟨v29,h30,hm⟩:=qB hm;refine s_du [qd 9 (Dir.none) (inb_of g28),qd 10 (Dir.none) (toNat_lt (inb_of g28)),qc 11 [75,76,77,81] 6 (qI9 (Rect.mk a1.Frame.X (v14.1.getD x19.toNat default)) a2 a3 (v14.2.1.getD x19.toNat default) v29 h30)] [0,1,3,0,15,0,0,0,0,384,896,2047,4095] 6 [11,12,70] [(83,vb (!v29))] [5] [] ?_;refine q_cm hm (λb31 hm=>?_) (λb31 hm=>?_)
     ·refine s_vn [] 6 ⟨[(6,vb false)],[]⟩ ?_;obtain rfl:=oi hm;refine q_rt ?_;refine zH false ?_;exact q_rm
     ·refine q_sk ?_;refine q_vu [] 6 [45,83] [(45,vi (w64 (x19+1)))] [] [] ?_;exact q_hl (MK a1 a2 a3 v14 v17 (w64 (x19+1))) (ih (w64 (x19+1)) _ hm)
   ·obtain⟨g22,hm⟩:=qI hm;rcases bif_c hm with⟨b23,hm⟩|⟨b23,hm⟩
    ·refine q_vu [qd 9 (Dir.none) (IL g22),qf 11 b23] 6 [] [(70,vb true)] [] [] ?_;exact q_J (true) hm
    ·obtain⟨v24,h25,hm⟩:=qB hm;refine q_vu [qd 9 (Dir.none) (IL g22),qf 11 b23,qd 18 (dex (cen [] [] 6 0 (LC v24) (JB v24) [61,62,67] [4])) (wF (K:=(kx E 85 0)) (b:=false) ⟨[(61,vb false),(62,vo 4 0 1 v17.length),(67,vi (w64 (((v14.1.getD x19.toNat default).B)-((v14.1.getD x19.toNat default).A))))],[(4,ro 0 3 1 v17.length (rf e_i64 v17))]⟩ (opAt (rg Tryz.f22 129636) 18) [] [] 6 (o1 (Nat.le_refl v17.length)) rfl (qBU v17 (w64 (((v14.1.getD x19.toNat default).B)-((v14.1.getD x19.toNat default).A))) v24 h25) (.inr ⟨(by kernel_rfl),qC6 v24⟩) (by kernel_rfl))] 6 [] [(70,vb (!v24))] [] [] ?_
     exact q_J (!v24) hm
  ·refine q_ex 0 ?_;obtain rfl:=oi hm;exact jI () (by kernel_rfl) (by kernel_rfl)
theorem plan_Member_ok (a1:Pattern) (a2:List Product) (a3:Saw) (r:Bool) (hm:WV a1 a2 a3=some r):CtX Tryz.prog globs 22 0 0 [.agg (qT a1),.one (tl qC default a2),.agg (qU a3)] [] (KE r) (ZQ r):=by
 unfold WV at hm;refine q_E Tryz.f22 85 λE=>?_;refine s_vn [] 0 ⟨[(1,vc (tl qC default a2)),(3,vp 0 0),(5,vp 1 0)],[(0,bx 46 (qT a1)),(1,bx 38 (qU a3))]⟩ ?_;refine q_sq ?_;refine q_jn (ι:=Bool) (λp=>qBJ a1 a2 a3 p) (λp=>RY a1 a2 a3 p=some r) ?_ ?_
 ·rintro x12 hm;show H _ (qBJ a1 a2 a3 x12) _ _;refine q_cm hm (λb13 hm=>?_) (λb13 hm=>?_)
  ·refine s_vn [] 2 ⟨[(6,vb false)],[]⟩ ?_;obtain rfl:=oi hm;refine q_rt ?_;exact q_rm
  ·refine q_sk ?_;obtain⟨v14,h15,hm⟩:=qB hm;refine s_vu [qk 6 [30,32,34] 2 ⟨[(30,va (qE a1.Frame)),(32,vi a3.Kerf),(34,vc (tl e_Node default a1.Nodes))],[]⟩ (qGC a1.Frame 3 a3.Kerf a1.Nodes v14 h15)] 2 [27] [(7,vo 2 0 2 v14.1.length),(8,vo 3 0 1 v14.2.1.length),(9,vb v14.2.2)] [] [(2,ro 0 31 2 v14.1.length (rf e_Span v14.1)),(3,ro 0 44 1 v14.2.1.length (rf (qD e_Node) v14.2.1))] ?_;refine q_sq ?_;refine s_vu [] 4 [9] [(40,vb (!v14.2.2))] [] [] ?_;refine q_cm hm (λb16 hm=>?_) (λb16 hm=>?_)
   ·refine s_vn [] 4 ⟨[(6,vb false)],[]⟩ ?_;obtain rfl:=oi hm;refine q_rt ?_;exact q_rm
   ·refine q_sk ?_;obtain⟨v17,h18,hm⟩:=qB hm;refine s_vu [qc 1 [41] 4 (SN a2 v17 h18)] 4 [40] [(10,vo 4 0 1 v17.length)] [] [(4,ro 0 3 1 v17.length (rf e_i64 v17))] ?_;refine q_sq ?_;refine s_vu [] 5 [7] [(43,vo 2 0 2 v14.1.length),(44,vi ((v14.1.length:Nat):Int)),(45,vi 0)] [] [] ?_;obtain⟨u34,h33,hm⟩:=qB hm;refine zP (nd Tryz.f22 1012) 0 (by kernel_rfl) FUEL (λo=>qBu) (λv st=>RetQ Tryz.prog Tryz.f22 (KE v) (ZQ v) .ret st) u34 (q_hl (MK a1 a2 a3 v14 v17 0) (qGy E a1 a2 a3 v14 v17 FUEL 0 u34 h33)) ?_ ?_
    ·rintro v35 rfl st hr;obtain rfl:=oi hm;exact hr
    ·rintro o32 rfl;replace hm:_=some r:=hm;refine s_vn [] 5 ⟨[(6,vb true)],[]⟩ ?_;obtain rfl:=oi hm;refine q_rt ?_;exact q_rm
 ·obtain⟨v4,h5,hm⟩:=qB hm;rcases bif_c hm with⟨b6,hm⟩|⟨b6,hm⟩
  ·refine q_vu [qc 1 [13] 2 (wZ a2 v4 h5),qf 3 b6] 2 [] [(27,vb true)] [] [] ?_;exact q_J (true) hm
  ·obtain⟨v7,h8,hm⟩:=qB hm;rcases bif_c hm with⟨b9,hm⟩|⟨b9,hm⟩
   ·refine q_vu [qc 1 [13] 2 (wZ a2 v4 h5),qf 3 b6,qk 6 [16,17,18] 2 ⟨[(16,vb false),(17,va (qU a3)),(18,va [ci 0,ci 0,ci 0])],[]⟩ (NI a3 (Rates.mk 0 0 0) v7 h8),qf 9 b9] 2 [] [(27,vb true)] [] [] ?_;exact q_J (true) hm
   ·obtain⟨v10,h11,hm⟩:=qB hm;refine q_vu [qc 1 [13] 2 (wZ a2 v4 h5),qf 3 b6,qk 6 [16,17,18] 2 ⟨[(16,vb false),(17,va (qU a3)),(18,va [ci 0,ci 0,ci 0])],[]⟩ (NI a3 (Rates.mk 0 0 0) v7 h8),qf 9 b9,qk 12 [22,24] 2 ⟨[(22,vb false),(24,va (qE a1.Frame))],[]⟩ (CT a1.Frame v10 h11)] 2 [] [(27,vb (v10 !=0))] [] [] ?_;exact q_J (v10 !=0) hm
def qHQ (r:Pattern×Int):V:=vc (.fn 165 [.bptr 0 0 0,.bptr 1 0 0])
def qHJ (r:Pattern×Int):List (Nat×(Nat×O)):=[(0,bx 46 (qT r.1)),(1,bx 3 [ci r.2])]
theorem qGg (a1:Pattern) (a2:Int) (r:Pattern×Int) (hm:jJ a1 a2=some r):CtX Tryz.prog globs 116 0 0 [.agg (qT a1),.one (ci a2)] [] (qHQ r) (qHJ r):=by
 unfold jJ at hm;refine q_E Tryz.f116 6 λE=>?_;refine s_vn [] 0 ⟨[(2,vp 0 0),(3,vp 1 0)],[(0,bx 46 (qT a1)),(1,bx 3 [ci a2])]⟩ ?_;refine s_vu [] 2 [2,3] [(4,vc (.fn 165 [.bptr 0 0 0,.bptr 1 0 0]))] [] [] ?_;obtain rfl:=oi hm;refine q_rt ?_;exact q_rm
def qEQ (r:Int):V:=vi r
def qEE (r:Int):List (Nat×(Nat×O)):=[]
def LH :St:=
 ⟨[],[]⟩
def FY (x15:Bool):St:=
 ⟨[(46,vb x15)],[]⟩
def zaQ (a1:Node) (a2:Pattern_place) (x6:Bool):St:=
 ⟨[(2,vp 0 0),(3,vp 1 0),(23,vb x6)],[(0,bx 65 (e_Node a1)),(1,bx 175 (e_Pattern_place a2))]⟩
theorem qDR (a1:Node) (a2:Pattern_place) (r:Int) (hm:ZM a1 a2=some r):CtX Tryz.prog globs 117 0 0 [.agg (e_Node a1),.agg (e_Pattern_place a2)] [] (qEQ r) (qEE r):=by
 unfold ZM at hm;refine q_E Tryz.f117 47 λE=>?_;refine s_vn [] 0 ⟨[(2,vp 0 0),(3,vp 1 0)],[(0,bx 65 (e_Node a1)),(1,bx 175 (e_Pattern_place a2))]⟩ ?_;refine q_sq ?_;refine q_jn (ι:=Bool) (λp=>zaQ a1 a2 p) (λp=>jA a1 a2 p=some r) ?_ ?_
 ·rintro x6 hm;show H _ (zaQ a1 a2 x6) _ _;refine q_cm hm (λb7 hm=>?_) (λb7 hm=>?_)
  ·refine s_vn [] 2 ⟨[(4,vi 10)],[]⟩ ?_;obtain rfl:=oi hm;refine q_rt ?_;exact q_rm
  ·refine q_sk ?_;refine q_sq ?_;refine s_vu [] 2 [23] [(26,vb (decide (a2.level>64)))] [] [] ?_;refine q_cm hm (λb8 hm=>?_) (λb8 hm=>?_)
   ·refine s_vn [] 2 ⟨[(4,vi 28)],[]⟩ ?_;obtain rfl:=oi hm;refine q_rt ?_;exact q_rm
   ·refine q_sk ?_;refine q_jn (ι:=Unit) (λp=>LH) (λp=>ZB=some r) ?_ ?_
    ·rintro _ hm;show H _ (LH) _ _;refine s_vn [] 3 ⟨[(4,vi 0)],[]⟩ ?_;obtain rfl:=oi hm;refine q_rt ?_;exact q_rm
    ·obtain⟨v9,h10,hm⟩:=qB hm;refine s_vu [qc 2 [28] 2 (MI a1.Kind v9 h10)] 2 [26] [(29,vb v9)] [] [] ?_;refine q_cm hm (λb11 hm=>?_) (λb11 hm=>?_)
     ·obtain⟨v12,h13,hm⟩:=qB hm;refine s_vu [qc 4 [31,33] 2 (MF a2.rect a1.Kind v12 h13)] 2 [3,29] [(5,vp 2 0)] [1] [(2,bx 31 (e_Span v12))] ?_;refine q_jn (ι:=Bool) (λp=>FY p) (λp=>YN p=some r) ?_ ?_
      ·rintro x15 hm;show H _ (FY x15) _ _;refine q_cm hm (λb16 hm=>?_) (λb16 hm=>?_)
       ·refine s_vn [] 3 ⟨[(4,vi 20)],[]⟩ ?_;obtain rfl:=oi hm;refine q_rt ?_;exact q_rm
       ·refine q_sk ?_;exact q_J () hm
      ·rcases bif_c hm with⟨b14,hm⟩|⟨b14,hm⟩
       ·refine q_vn [qf 5 b14] 3 ⟨[(46,vb true)],[]⟩ ?_;exact q_J (true) hm
       ·refine q_vn [qf 5 b14] 3 ⟨[(46,vb (decide (a1.At≥v12.B)))],[]⟩ ?_;exact q_J (decide (a1.At≥v12.B)) hm
     ·refine q_sk ?_;exact q_J () hm
 ·rcases bif_c hm with⟨b3,hm⟩|⟨b3,hm⟩
  ·refine q_vu [qf 3 b3] 2 [] [(23,vb true)] [] [] ?_;exact q_J (true) hm
  ·rcases bif_c hm with⟨b4,hm⟩|⟨b4,hm⟩
   ·refine q_vu [qf 3 b3,qf 8 b4] 2 [] [(23,vb true)] [] [] ?_;exact q_J (true) hm
   ·rcases bif_c hm with⟨b5,hm⟩|⟨b5,hm⟩
    ·refine q_vu [qf 3 b3,qf 8 b4,qf 12 b5] 2 [] [(23,vb (a1.At !=0))] [] [] ?_;exact q_J (a1.At !=0) hm
    ·refine q_vu [qf 3 b3,qf 8 b4,qf 12 b5] 2 [] [(23,vb false)] [] [] ?_;exact q_J (false) hm
def qAF (a1:Rect) (a2:Int) (a3:List Product) (r:Int):V:=vi r
def pattern_Check_1_o (a1:Rect) (a2:Int) (a3:List Product) (r:Int):List (Nat×(Nat×O)):=[(0,bx 22 [tl qC default a3])]
def HS (a3:List Product) (x18:Bool):St:=
 ⟨[(49,vb x18)],[(0,bx 22 [tl qC default a3])]⟩
def SA (a1:Rect) (a2:Int) (a3:List Product) (x5:Bool):St:=
 ⟨[(1,vi a2),(2,vp 0 0),(3,vp 1 0),(17,vb x5)],[(0,bx 22 [tl qC default a3]),(1,bx 33 (qE a1))]⟩
theorem qFP (a1:Rect) (a2:Int) (a3:List Product) (r:Int) (hm:PL a1 a2 a3=some r):CtX Tryz.prog globs 62 1 1 [.agg (qE a1),.one (ci a2),.one (.bptr 0 0 0)] [(0,bx 22 [tl qC default a3])] (qAF a1 a2 a3 r) (pattern_Check_1_o a1 a2 a3 r):=by
 unfold PL at hm;refine q_E Tryz.f62 50 λE=>?_;refine s_vn [] 1 ⟨[(1,vi a2),(2,vp 0 0),(3,vp 1 0)],[(0,bx 22 [tl qC default a3]),(1,bx 33 (qE a1))]⟩ ?_;refine q_sq ?_;refine q_jn (ι:=Bool) (λp=>SA a1 a2 a3 p) (λp=>QK a1 a2 a3 p=some r) ?_ ?_
 ·rintro x5 hm;show H _ (SA a1 a2 a3 x5) _ _;refine q_cm hm (λb6 hm=>?_) (λb6 hm=>?_)
  ·refine s_vu [] 2 [1,2,3,17] [(5,vi 8)] [1] [] ?_;obtain rfl:=oi hm;refine q_rt ?_;exact q_rm
  ·refine q_sk ?_;obtain⟨g7,hm⟩:=qI hm;obtain⟨v8,h9,hm⟩:=qB hm;refine s_vu [qd 2 (Dir.none) (inb_of g7),qc 4 [22] 2 (XO (a3.getD a2.toNat default) v8 h9)] 2 [1,2,17] [(6,vi v8.1),(7,vi v8.2)] [] [] ?_;obtain⟨v10,h11,hm⟩:=qB hm;obtain⟨v12,h13,hm⟩:=qB hm;refine s_du [qc 2 [27] 2 (VM a1.X v10 h11),qc 5 [30] 2 (VM a1.Y v12 h13)] [0,1,3,0,8,31,63,127] 2 [3] [(8,vi v10),(9,vi v12)] [1] [] ?_;refine q_sq ?_;refine q_jn (ι:=Bool) (λp=>HS a3 p) (λp=>jS p=some r) ?_ ?_
   ·rintro x18 hm;show H _ (HS a3 x18) _ _;refine q_cm hm (λb19 hm=>?_) (λb19 hm=>?_)
    ·refine s_vu [] 2 [49] [(5,vi 20)] [] [] ?_;obtain rfl:=oi hm;refine q_rt ?_;exact q_rm
    ·refine q_sk ?_;refine s_vu [] 2 [49] [(5,vi 0)] [] [] ?_;obtain rfl:=oi hm;refine q_rt ?_;exact q_rm
   ·rcases bif_c hm with⟨b14,hm⟩|⟨b14,hm⟩
    ·rcases bif_c hm with⟨b15,hm⟩|⟨b15,hm⟩
     ·refine q_vu [qf 3 b14,qf 12 b15] 2 [6,7,8,9] [(49,vb true)] [] [] ?_;exact q_J (true) hm
     ·refine q_vu [qf 3 b14,qf 12 b15] 2 [6,7,8,9] [(49,vb (v12 !=v8.1))] [] [] ?_;exact q_J (v12 !=v8.1) hm
    ·rcases bif_c hm with⟨b16,hm⟩|⟨b16,hm⟩
     ·rcases bif_c hm with⟨b17,hm⟩|⟨b17,hm⟩
      ·refine q_vu [qf 3 b14,qf 8 b16,qf 12 b17] 2 [6,7,8,9] [(49,vb true)] [] [] ?_;exact q_J (true) hm
      ·refine q_vu [qf 3 b14,qf 8 b16,qf 12 b17] 2 [6,7,8,9] [(49,vb (v12 !=v8.1))] [] [] ?_;exact q_J (v12 !=v8.1) hm
     ·refine q_vu [qf 3 b14,qf 8 b16] 2 [6,7,8,9] [(49,vb false)] [] [] ?_;exact q_J (false) hm
 ·rcases bif_c hm with⟨b4,hm⟩|⟨b4,hm⟩
  ·refine q_vu [qf 2 b4] 2 [] [(17,vb true)] [] [] ?_;exact q_J (true) hm
  ·refine q_vu [qf 2 b4] 2 [] [(17,vb (decide (a2≥((a3.length:Nat):Int))))] [] [] ?_;exact q_J (decide (a2≥((a3.length:Nat):Int))) hm
noncomputable def TK (a1:Int) (a2:Pattern_place) (a3:Pattern) (a4:List Product) (a5:Int) (a6:Int) (ri:RI 67) (r:Nat×Int×Int):V:=vb (Nat.beq r.1 0)
noncomputable def TL (a1:Int) (a2:Pattern_place) (a3:Pattern) (a4:List Product) (a5:Int) (a6:Int) (ri:RI 67) (r:Nat×Int×Int):List (Nat×(Nat×O)):=[(0,lz (rc Tryz.f61 506 ri) ri.b [.ret] r.1),(1,bx 46 (qT a3)),(2,bx 114 [.fn 62 [.bptr 3 0 0]]),(3,bx 22 [tl qC default a4]),(4,bx 47 [ci r.2.1]),(5,bx 3 [ci r.2.2])]
noncomputable def BL (ri:RI 67) (a1:Int) (a3:Pattern) (a4:List Product) (a5:Int) (a6:Int) (x16:Int):St:=
 ⟨[(6,vp 4 0),(7,vp 5 0),(8,vi a1),(11,vi x16)],[(0,ly (rc Tryz.f61 506 ri) ri.b),(1,bx 46 (qT a3)),(2,bx 114 [.fn 62 [.bptr 3 0 0]]),(3,bx 22 [tl qC default a4]),(4,bx 47 [ci a5]),(5,bx 3 [ci a6])]⟩
noncomputable def BE (ri:RI 67) (a1:Int) (a2:Pattern_place) (a3:Pattern) (a4:List Product) (a5:Int) (a6:Int) (v9:Int) (x12:Bool):St:=
 ⟨[(5,vp 2 0),(6,vp 4 0),(7,vp 5 0),(8,vi a1),(9,vp 6 0),(10,vp 7 0),(11,vi v9),(50,vb x12)],[(0,ly (rc Tryz.f61 506 ri) ri.b),(1,bx 46 (qT a3)),(2,bx 114 [.fn 62 [.bptr 3 0 0]]),(3,bx 22 [tl qC default a4]),(4,bx 47 [ci a5]),(5,bx 3 [ci a6]),(6,bx 175 (e_Pattern_place a2)),(7,bx 65 [ci ((a3.Nodes.getD a1.toNat default).Kind),ci ((a3.Nodes.getD a1.toNat default).At)])]⟩
theorem LF (a1:Int) (a2:Pattern_place) (a3:Pattern) (a4:List Product) (a5:Int) (a6:Int) (ri:RI 67) (r:Nat×Int×Int) (hm:jM a1 a2 a3 a4 a5 a6=some r):CtR Tryz.prog globs (rc Tryz.f61 506 ri) ri.b [3,5,6,7] 6 6 [.one (ci a1),.agg (e_Pattern_place a2),.one (.bptr 1 0 0),.one (.bptr 2 0 0),.one (.bptr 4 0 0),.one (.bptr 5 0 0)] [(0,lq (rc Tryz.f61 506 ri) ri.b),(1,bx 46 (qT a3)),(2,bx 114 [.fn 62 [.bptr 3 0 0]]),(3,bx 22 [tl qC default a4]),(4,bx 47 [ci a5]),(5,bx 3 [ci a6])] (TK a1 a2 a3 a4 a5 a6 ri r) (TL a1 a2 a3 a4 a5 a6 ri r):=by
 unfold jM at hm;refine q_R Tryz.f61 506 67 ri λE=>?_;refine q_sq ?_;refine q_vn [] 6 ⟨[(3,vp 1 0),(5,vp 2 0),(6,vp 4 0),(7,vp 5 0),(8,vi a1),(30,va (e_Pattern_place a2))],[(0,lq (rc Tryz.f61 506 ri) ri.b),(1,bx 46 (qT a3)),(2,bx 114 [.fn 62 [.bptr 3 0 0]]),(3,bx 22 [tl qC default a4]),(4,bx 47 [ci a5]),(5,bx 3 [ci a6])]⟩ ?_;refine q_vu [] 6 [30] [(9,vp 6 0)] [] [(6,bx 175 (e_Pattern_place a2))] ?_
 refine q_rd ⟨[(3,vp 1 0),(5,vp 2 0),(6,vp 4 0),(7,vp 5 0),(8,vi a1),(9,vp 6 0)],[(0,ly (rc Tryz.f61 506 ri) ri.b),(1,bx 46 (qT a3)),(2,bx 114 [.fn 62 [.bptr 3 0 0]]),(3,bx 22 [tl qC default a4]),(4,bx 47 [ci a5]),(5,bx 3 [ci a6]),(6,bx 175 (e_Pattern_place a2))]⟩ ?_;refine q_bk 1 ?_;refine q_sq ?_;refine q_sq ?_;refine q_vu [] 7 [] [(35,vb (decide (a1≥((a3.Nodes.length:Nat):Int))))] [] [] ?_;refine q_cm hm (λb7 hm=>?_) (λb7 hm=>?_)
 ·refine q_sq ?_;refine q_vu [] 7 [3,5,6,7,8,9,35] [] [4,6] [(4,bx 47 [ci 3])] ?_;obtain rfl:=oi hm;refine q_rt ?_;exact q_rq
 ·refine q_sk ?_;refine q_sq ?_;obtain⟨g8,hm⟩:=qI hm;refine q_vu [qd 3 (Dir.none) (inb_of g8)] 7 [3,35] [(10,vp 7 0)] [] [(7,bx 65 [ci ((a3.Nodes.getD a1.toNat default).Kind),ci ((a3.Nodes.getD a1.toNat default).At)])] ?_;refine q_sq ?_;obtain⟨v9,h10,hm⟩:=qB hm;refine q_vu [qc 2 [41,42] 8 (qDR (a3.Nodes.getD a1.toNat default) a2 v9 h10)] 8 [] [(11,vi v9)] [] [] ?_;refine q_jn (ι:=Int) (λp=>BL ri a1 a3 a4 a5 a6 p) (λp=>WX a1 a5 a6 p=some r) ?_ ?_
  ·rintro x16 hm;show H _ (BL ri a1 a3 a4 a5 a6 x16) _ _;refine q_sq ?_;refine q_sq ?_;refine q_vu [] 8 [] [(58,vb (x16 !=0))] [] [] ?_;refine q_cm hm (λb17 hm=>?_) (λb17 hm=>?_)
   ·refine q_sq ?_;refine q_vu [] 8 [6,7,8,11,58] [] [4] [(4,bx 47 [ci x16])] ?_;obtain rfl:=oi hm;refine q_rt ?_;exact q_rq
   ·refine q_sk ?_;refine q_vu [] 8 [6,7,8,11,58] [] [5] [(5,bx 3 [ci (w64 (a1+1))])] ?_;obtain rfl:=oi hm;exact q_rq
  ·refine q_jn (ι:=Bool) (λp=>BE ri a1 a2 a3 a4 a5 a6 v9 p) (λp=>WW a1 a2 a3 a4 a5 a6 v9 p=some r) ?_ ?_
   ·rintro x12 hm;show H _ (BE ri a1 a2 a3 a4 a5 a6 v9 x12) _ _;refine q_cm hm (λb13 hm=>?_) (λb13 hm=>?_)
    ·obtain⟨v14,h15,hm⟩:=qB hm;refine q_vu [qd 5 (dex (cen [(3,0)] [0] 7 1 (qAF a2.rect ((a3.Nodes.getD a1.toNat default).At) a4 v14) (pattern_Check_1_o a2.rect ((a3.Nodes.getD a1.toNat default).At) a4 v14) [51,53,55] [3])) (wF (K:=(kr E 67 6 ri.b)) ⟨[(51,vc (.fn 62 [.bptr 3 0 0])),(53,va (qE a2.rect)),(55,vi ((a3.Nodes.getD a1.toNat default).At))],[(3,bx 22 [tl qC default a4])]⟩ (opAt (rg Tryz.f61 129722) 5) [(3,0)] [0] 7 o0 rfl (qFP a2.rect ((a3.Nodes.getD a1.toNat default).At) a4 v14 h15) (.inl rfl) (by kernel_rfl))] 8 [5,9,10,11,50] [(11,vi v14)] [6,7] [] ?_;exact q_J (v14) hm
    ·refine q_sk ?_;exact q_J (v9) hm
   ·rcases bif_c hm with⟨b11,hm⟩|⟨b11,hm⟩
    ·refine q_vu [qf 2 b11] 8 [] [(50,vb (((a3.Nodes.getD a1.toNat default).Kind)==1))] [] [] ?_;exact q_J (((a3.Nodes.getD a1.toNat default).Kind)==1) hm
    ·refine q_vu [qf 2 b11] 8 [] [(50,vb false)] [] [] ?_;exact q_J (false) hm
def qJO (r:Rect):V:=va (qE r)
def qJ8 (r:Rect):List (Nat×(Nat×O)):=[]
def qAO (x5:Rect):St:=
 ⟨[(3,vp 0 0),(6,vp 2 0)],[(0,bx 33 (qE x5)),(2,bx 33 [ci 0,ci 0,ci 0,ci 0])]⟩
theorem HM (a1:Rect) (a2:Int) (a3:Span) (r:Rect) (hm:XJ a1 a2 a3=some r):CtX Tryz.prog globs 202 0 0 [.agg (qE a1),.one (ci a2),.agg (e_Span a3)] [] (qJO r) (qJ8 r):=by
 unfold XJ at hm;refine q_E Tryz.f202 14 λE=>?_;refine s_vn [] 0 ⟨[(1,vi a2),(3,vp 0 0),(5,vp 1 0),(6,vp 2 0)],[(0,bx 33 (qE a1)),(1,bx 31 (e_Span a3)),(2,bx 33 [ci 0,ci 0,ci 0,ci 0])]⟩ ?_;refine q_jn (ι:=Rect) (λp=>qAO p) (λp=>GS p=some r) ?_ ?_
 ·rintro x5 hm;show H _ (qAO x5) _ _;refine s_vu [] 3 [3] [] [0,2] [(2,bx 33 (qE x5))] ?_;obtain rfl:=oi hm;refine q_rt ?_;exact q_rm
 ·refine s_vu [] 3 [1] [(8,vb (a2==2))] [] [] ?_;refine q_cm hm (λb4 hm=>?_) (λb4 hm=>?_)
  ·refine q_vu [] 3 [5,8] [] [0,1] [(0,bx 33 [ci a3.A,ci a3.B,ci a1.Y.A,ci a1.Y.B])] ?_;exact q_J ((Rect.mk a3 a1.Y)) hm
  ·refine q_vu [] 3 [5,8] [] [0,1] [(0,bx 33 [ci a1.X.A,ci a1.X.B,ci a3.A,ci a3.B])] ?_;exact q_J ((Rect.mk a1.X a3)) hm
def qIm (r:Rect×Rect×Rect):V:= .tup [.agg (qE r.1),.agg (qE r.2.1),.agg (qE r.2.2)]
def qI1 (r:Rect×Rect×Rect):List (Nat×(Nat×O)):=[]
theorem qHI (a1:Rect) (a2:Node) (a3:Int) (r:Rect×Rect×Rect) (hm:jY a1 a2 a3=some r):CtX Tryz.prog globs 166 0 0 [.agg (qE a1),.agg (e_Node a2),.one (ci a3)] [] (qIm r) (qI1 r):=by
 unfold jY at hm;refine q_E Tryz.f166 50 λE=>?_;refine s_vn [] 0 ⟨[(2,vi a3),(3,vp 0 0),(4,vp 1 0),(6,vp 2 0),(7,vp 3 0),(8,vp 4 0)],[(0,bx 33 (qE a1)),(1,bx 65 (e_Node a2)),(2,bx 33 [ci 0,ci 0,ci 0,ci 0]),(3,bx 33 [ci 0,ci 0,ci 0,ci 0]),(4,bx 33 [ci 0,ci 0,ci 0,ci 0])]⟩ ?_;obtain⟨v4,h5,hm⟩:=qB hm;refine s_vu [qc 3 [11,13] 5 (MF a1 a2.Kind v4 h5)] 5 [] [(9,vp 5 0)] [] [(5,bx 31 (e_Span v4))] ?_;refine s_vu [] 6 [2] [(10,vi (imin (w64 (a2.At+a3)) v4.B))] [] [] ?_;obtain⟨v6,h7,hm⟩:=qB hm
 refine s_vu [qc 8 [22,24,29] 6 (HM a1 a2.Kind (Span.mk v4.A a2.At) v6 h7)] 6 [] [] [2] [(2,bx 33 (qE v6))] ?_;obtain⟨v8,h9,hm⟩:=qB hm;refine s_vu [qc 7 [31,33,37] 6 (HM a1 a2.Kind (Span.mk a2.At (imin (w64 (a2.At+a3)) v4.B)) v8 h9)] 6 [] [] [3] [(3,bx 33 (qE v8))] ?_;obtain⟨v10,h11,hm⟩:=qB hm;refine s_vu [qc 7 [39,41,45] 6 (HM a1 a2.Kind (Span.mk (imin (w64 (a2.At+a3)) v4.B) v4.B) v10 h11)] 6 [3,4,9,10] [] [0,1,4,5] [(4,bx 33 (qE v10))] ?_;refine s_du [] [0,0,0,1,11,31] 6 [] [] [] [] ?_;obtain rfl:=oi hm;refine q_rt ?_;exact q_rm
noncomputable def BO (a1:Pattern) (a2:List Product) (a3:Int) (a4:Int) (a5:Pattern) (a6:Int) (ri:RI 67) (r:Nat×Int×Int):V:= .undef
noncomputable def BM (a1:Pattern) (a2:List Product) (a3:Int) (a4:Int) (a5:Pattern) (a6:Int) (ri:RI 67) (r:Nat×Int×Int):List (Nat×(Nat×O)):=[(0,lz (rc Tryz.f61 506 ri) ri.b [.ret] r.1),(1,bx 46 (qT a1)),(2,bx 114 [.fn 62 [.bptr 3 0 0]]),(3,bx 22 [tl qC default a2]),(4,bx 47 [ci r.2.1]),(5,bx 3 [ci r.2.2]),(6,bx 46 (qT a5)),(7,bx 3 [ci a6])]
noncomputable def MT (ri:RI 67) (a1:Pattern) (a2:List Product) (a5:Pattern) (a6:Int) (x8:Int) (l25:List Pattern_place) (l25n:Nat) (x26:Int) (x27:Int):St:=
 ⟨[(0,vc (.yl (rc Tryz.f61 506 ri) ri.b [3,5,6,7] [.bptr 1 0 0,.bptr 2 0 0,.bptr 4 0 0,.bptr 5 0 0])),(1,vp 6 0),(2,vp 7 0),(4,vo 8 0 5 l25n),(5,vi x8)],[(0,lq (rc Tryz.f61 506 ri) ri.b),(1,bx 46 (qT a1)),(2,bx 114 [.fn 62 [.bptr 3 0 0]]),(3,bx 22 [tl qC default a2]),(4,bx 47 [ci x27]),(5,bx 3 [ci x26]),(6,bx 46 (qT a5)),(7,bx 3 [ci a6]),(8,ro 0 175 5 l25n (rf e_Pattern_place l25))]⟩
noncomputable def RW (ri:RI 67) (a1:Pattern) (a2:List Product) (a5:Pattern) (a6:Int) (l7:List Pattern_place) (l7n:Nat) (x8:Int) (x9:Int) (x10:Int):St:=
 ⟨[(0,vc (.yl (rc Tryz.f61 506 ri) ri.b [3,5,6,7] [.bptr 1 0 0,.bptr 2 0 0,.bptr 4 0 0,.bptr 5 0 0])),(1,vp 6 0),(2,vp 7 0),(4,vo 8 0 5 l7n),(5,vi x8)],[(0,lq (rc Tryz.f61 506 ri) ri.b),(1,bx 46 (qT a1)),(2,bx 114 [.fn 62 [.bptr 3 0 0]]),(3,bx 22 [tl qC default a2]),(4,bx 47 [ci x9]),(5,bx 3 [ci x10]),(6,bx 46 (qT a5)),(7,bx 3 [ci a6]),(8,ro 0 175 5 l7n (rf e_Pattern_place l7))]⟩
noncomputable def HH (ri:RI 67) (a1:Pattern) (a2:List Product) (a5:Pattern) (a6:Int) (x28:Int) (x29:Int):St:=
 ⟨[],[(0,lq (rc Tryz.f61 506 ri) ri.b),(1,bx 46 (qT a1)),(2,bx 114 [.fn 62 [.bptr 3 0 0]]),(3,bx 22 [tl qC default a2]),(4,bx 47 [ci x29]),(5,bx 3 [ci x28]),(6,bx 46 (qT a5)),(7,bx 3 [ci a6])]⟩
theorem qCY (E:Env 8) (ri:RI 67) (a1:Pattern) (a2:List Product) (a3:Int) (a4:Int) (a5:Pattern) (a6:Int):∀(n:Nat) (l7:List Pattern_place) (l7n:Nat) (x8:Int) (x9:Int) (x10:Int) (res:(Nat×Int×Int)⊕(Int×Int)),l7.length=l7n->jL a1 a2 a5 a6 n l7 x8 x9 x10=some res->HL (kx E 73 8) (nd Tryz.f165 28) (wY 0 (λo=>HH ri a1 a2 a5 a6 o.1 o.2) (λv st=>RetQ Tryz.prog Tryz.f165 (BO a1 a2 a3 a4 a5 a6 ri v) (BM a1 a2 a3 a4 a5 a6 ri v) .ret st) res) n (RW ri a1 a2 a5 a6 l7 l7n x8 x9 x10):=by
 intro n
 induction n with
 |zero=>
  intro l7 l7n x8 x9 x10 res hl0 hm;cases hm
 |succ n ih=>
  intro l7 l7n x8 x9 x10 res hl0 hm;subst hl0;refine qM ?_;refine q_sq ?_;refine s_vu [] 9 [] [(17,vb (decide (((l7.length:Nat):Int)>0)))] [] [] ?_;refine q_cm hm (λb11 hm=>?_) (λb11 hm=>?_)
  ·refine q_sk ?_;refine q_jn (ι:=(List Pattern_place)×Nat×Int×Int) (λp=>MT ri a1 a2 a5 a6 x8 p.1 p.2.1 p.2.2.1 p.2.2.2) (λp=>p.1.length=p.2.1/\KB x8 (jL a1 a2 a5 a6 n) p.1 p.2.2.1 p.2.2.2=some res) ?_ ?_
   ·rintro⟨l25,l25n,x26,x27⟩ ⟨el25,hm⟩;replace el25:l25.length=l25n:=el25;subst el25;show H _ (MT ri a1 a2 a5 a6 x8 l25 l25.length x26 x27) _ _;refine q_vu [] 15 [5] [(5,vi (w64 (x8+1)))] [] [] ?_;exact q_hl (RW ri a1 a2 a5 a6 l25 l25.length (w64 (x8+1)) x27 x26) (ih l25 l25.length (w64 (x8+1)) x27 x26 _ rfl hm)
   ·refine q_bk 1 ?_;obtain⟨g12,hm⟩:=qI hm;refine s_vu [qd 4 (Dir.none) (inb_of g12),qd 5 (Dir.none) (toNat_lt (inb_of g12))] 9 [17] [(6,vp 9 0)] [] [(9,bx 175 [ci ((((l7.getD ((w64 (((l7.length:Nat):Int)-1)).toNat) default).rect).X).A),ci ((((l7.getD ((w64 (((l7.length:Nat):Int)-1)).toNat) default).rect).X).B),ci ((((l7.getD ((w64 (((l7.length:Nat):Int)-1)).toNat) default).rect).Y).A),ci ((((l7.getD ((w64 (((l7.length:Nat):Int)-1)).toNat) default).rect).Y).B),ci ((l7.getD ((w64 (((l7.length:Nat):Int)-1)).toNat) default).level)])] ?_;obtain⟨g13,hm⟩:=qI hm
    refine s_wu [qd 4 (Dir.none) (And.intro (slOk_of g13).2.1 (slOk_of g13).2.2)] [.row 8 ((w64 (((l7.length:Nat):Int)-1)).toNat) (rf e_Pattern_place (l7.take ((w64 (((l7.length:Nat):Int)-1)).toNat)))] (o1 (tkP e_Pattern_place default l7 l7.length ((w64 (((l7.length:Nat):Int)-1)).toNat) (show(w64 (((l7.length:Nat):Int)-1)).toNat<=l7.length by have:=(slOk_of g13);omega))) 10 [4] [(4,vo 8 0 5 ((w64 (((l7.length:Nat):Int)-1)).toNat))] [8] [(8,ro 0 175 5 ((w64 (((l7.length:Nat):Int)-1)).toNat) (rf e_Pattern_place (l7.take ((w64 (((l7.length:Nat):Int)-1)).toNat))))] ?_;refine q_sq ?_;refine q_sq ?_
    obtain⟨v14,h15,hm⟩:=qB hm;rcases bif_c hm with⟨b16,hm⟩|⟨b16,hm⟩
    ·refine q_vu [qd 3 (dex (cen [(0,0),(1,0),(2,0),(3,0),(4,0),(5,0)] [0,0,0,0,0,0] 4 6 (TK x8 (l7.getD ((w64 (((l7.length:Nat):Int)-1)).toNat) default) a1 a2 x9 x10 ri v14) (TL x8 (l7.getD ((w64 (((l7.length:Nat):Int)-1)).toNat) default) a1 a2 x9 x10 ri v14) [31,32,33] [0,1,2,3,4,5])) (callY (K:=(kx E 73 8)) ⟨[(31,vc (.yl (rc Tryz.f61 506 ri) ri.b [3,5,6,7] [.bptr 1 0 0,.bptr 2 0 0,.bptr 4 0 0,.bptr 5 0 0])),(32,vi x8),(33,va [ci ((((l7.getD ((w64 (((l7.length:Nat):Int)-1)).toNat) default).rect).X).A),ci ((((l7.getD ((w64 (((l7.length:Nat):Int)-1)).toNat) default).rect).X).B),ci ((((l7.getD ((w64 (((l7.length:Nat):Int)-1)).toNat) default).rect).Y).A),ci ((((l7.getD ((w64 (((l7.length:Nat):Int)-1)).toNat) default).rect).Y).B),ci ((l7.getD ((w64 (((l7.length:Nat):Int)-1)).toNat) default).level)])],[(0,lq (rc Tryz.f61 506 ri) ri.b),(1,bx 46 (qT a1)),(2,bx 114 [.fn 62 [.bptr 3 0 0]]),(3,bx 22 [tl qC default a2]),(4,bx 47 [ci x9]),(5,bx 3 [ci x10])]⟩ (opAt (rg Tryz.f165 3660) 3) [(0,0),(1,0),(2,0),(3,0),(4,0),(5,0)] [0,0,0,0,0,0] 4 0 o0 rfl (LF x8 (l7.getD ((w64 (((l7.length:Nat):Int)-1)).toNat) default) a1 a2 x9 x10 ri v14 h15) (.inl rfl) (by kernel_rfl)),qf 5 b16] 10 [] [(42,vb true)] [0,4,5] [(0,lz (rc Tryz.f61 506 ri) ri.b [.ret] v14.1),(4,bx 47 [ci v14.2.1]),(5,bx 3 [ci v14.2.2])] ?_
     refine R_cnT Tryz.f165 (.tmp 42) 7322 7323 (by kernel_rfl) (by kernel_rfl) ?_;obtain rfl:=oi hm;refine q_rt ?_;refine zH (v14.1,v14.2.1,v14.2.2) ?_;exact q_rm
    ·refine q_wu [qd 3 (dex (cen [(0,0),(1,0),(2,0),(3,0),(4,0),(5,0)] [0,0,0,0,0,0] 4 6 (TK x8 (l7.getD ((w64 (((l7.length:Nat):Int)-1)).toNat) default) a1 a2 x9 x10 ri v14) (TL x8 (l7.getD ((w64 (((l7.length:Nat):Int)-1)).toNat) default) a1 a2 x9 x10 ri v14) [31,32,33] [0,1,2,3,4,5])) (callY (K:=(kx E 73 8)) ⟨[(31,vc (.yl (rc Tryz.f61 506 ri) ri.b [3,5,6,7] [.bptr 1 0 0,.bptr 2 0 0,.bptr 4 0 0,.bptr 5 0 0])),(32,vi x8),(33,va [ci ((((l7.getD ((w64 (((l7.length:Nat):Int)-1)).toNat) default).rect).X).A),ci ((((l7.getD ((w64 (((l7.length:Nat):Int)-1)).toNat) default).rect).X).B),ci ((((l7.getD ((w64 (((l7.length:Nat):Int)-1)).toNat) default).rect).Y).A),ci ((((l7.getD ((w64 (((l7.length:Nat):Int)-1)).toNat) default).rect).Y).B),ci ((l7.getD ((w64 (((l7.length:Nat):Int)-1)).toNat) default).level)])],[(0,lq (rc Tryz.f61 506 ri) ri.b),(1,bx 46 (qT a1)),(2,bx 114 [.fn 62 [.bptr 3 0 0]]),(3,bx 22 [tl qC default a2]),(4,bx 47 [ci x9]),(5,bx 3 [ci x10])]⟩ (opAt (rg Tryz.f165 3660) 3) [(0,0),(1,0),(2,0),(3,0),(4,0),(5,0)] [0,0,0,0,0,0] 4 0 o0 rfl (LF x8 (l7.getD ((w64 (((l7.length:Nat):Int)-1)).toNat) default) a1 a2 x9 x10 ri v14 h15) (.inl rfl) (by kernel_rfl)),qf 5 b16] [.lpn 0 .ready none] (o1 (lpz_f (js:=[.ret]) b16)) 10 [] [(42,vb (decide (x8≥((a5.Nodes.length:Nat):Int))))] [4,5] [(4,bx 47 [ci v14.2.1]),(5,bx 3 [ci v14.2.2])] ?_
     refine q_cm hm (λb17 hm=>?_) (λb17 hm=>?_)
     ·obtain rfl:=oi hm;refine q_rt ?_;refine zH (0,v14.2.1,v14.2.2) ?_;exact q_rm
     ·refine q_sk ?_;obtain⟨g18,hm⟩:=qI hm;refine s_vu [qd 3 (Dir.none) (inb_of g18)] 10 [42] [(7,vp 10 0)] [] [(10,bx 65 [ci ((a5.Nodes.getD x8.toNat default).Kind),ci ((a5.Nodes.getD x8.toNat default).At)])] ?_;obtain⟨v19,h20,hm⟩:=qB hm;refine s_vu [qc 2 [49] 11 (MI ((a5.Nodes.getD x8.toNat default).Kind) v19 h20)] 11 [] [(50,vb v19)] [] [] ?_;refine q_cm hm (λb21 hm=>?_) (λb21 hm=>?_)
      ·obtain⟨v22,h23,hm⟩:=qB hm;refine s_vu [qc 4 [53,54,55] 11 (qHI ((l7.getD ((w64 (((l7.length:Nat):Int)-1)).toNat) default).rect) (a5.Nodes.getD x8.toNat default) a6 v22 h23)] 11 [7,50] [(8,vp 11 0),(10,vp 13 0)] [10] [(11,bx 33 (qE v22.1)),(13,bx 33 (qE v22.2.2))] ?_;obtain⟨g24,hm⟩:=qI hm
       refine q_vu [qd 11 (drw 14 0 (rf e_Pattern_place ([(Pattern_place.mk v22.2.2 (w64 (((l7.getD ((w64 (((l7.length:Nat):Int)-1)).toNat) default).level)+1))),(Pattern_place.mk v22.1 (w64 (((l7.getD ((w64 (((l7.length:Nat):Int)-1)).toNat) default).level)+1)))]:List Pattern_place))) (litP e_Pattern_place default 5 (λ_=>rfl) ([(Pattern_place.mk v22.2.2 (w64 (((l7.getD ((w64 (((l7.length:Nat):Int)-1)).toNat) default).level)+1))),(Pattern_place.mk v22.1 (w64 (((l7.getD ((w64 (((l7.length:Nat):Int)-1)).toNat) default).level)+1)))]:List Pattern_place) 2 rfl),qd 12 (drw 8 1 (rf e_Pattern_place ((l7.take ((w64 (((l7.length:Nat):Int)-1)).toNat))++([(Pattern_place.mk v22.2.2 (w64 (((l7.getD ((w64 (((l7.length:Nat):Int)-1)).toNat) default).level)+1))),(Pattern_place.mk v22.1 (w64 (((l7.getD ((w64 (((l7.length:Nat):Int)-1)).toNat) default).level)+1)))]:List Pattern_place)))) (apP e_Pattern_place default (l7.take ((w64 (((l7.length:Nat):Int)-1)).toNat)) ([(Pattern_place.mk v22.2.2 (w64 (((l7.getD ((w64 (((l7.length:Nat):Int)-1)).toNat) default).level)+1))),(Pattern_place.mk v22.1 (w64 (((l7.getD ((w64 (((l7.length:Nat):Int)-1)).toNat) default).level)+1)))]:List Pattern_place) ((w64 (((l7.length:Nat):Int)-1)).toNat) 2 5 40 (2<=2) (Nat.le_refl _) (len_take rfl (show(w64 (((l7.length:Nat):Int)-1)).toNat<=l7.length by have:=(slOk_of g13);omega)) rfl (λ_=>rfl) (zU g24))] 14 [4,6,8,10] [(4,vo 8 1 5 ((w64 (((l7.length:Nat):Int)-1)).toNat+2))] [8,9,11,13] [(8,ro 1 175 5 ((w64 (((l7.length:Nat):Int)-1)).toNat+2) (rf e_Pattern_place ((l7.take ((w64 (((l7.length:Nat):Int)-1)).toNat))++([(Pattern_place.mk v22.2.2 (w64 (((l7.getD ((w64 (((l7.length:Nat):Int)-1)).toNat) default).level)+1))),(Pattern_place.mk v22.1 (w64 (((l7.getD ((w64 (((l7.length:Nat):Int)-1)).toNat) default).level)+1)))]:List Pattern_place))))] ?_
       exact q_J (((l7.take ((w64 (((l7.length:Nat):Int)-1)).toNat))++([(Pattern_place.mk v22.2.2 (w64 (((l7.getD ((w64 (((l7.length:Nat):Int)-1)).toNat) default).level)+1))),(Pattern_place.mk v22.1 (w64 (((l7.getD ((w64 (((l7.length:Nat):Int)-1)).toNat) default).level)+1)))]:List Pattern_place)),((w64 (((l7.length:Nat):Int)-1)).toNat+2),v14.2.2,v14.2.1) ⟨(len_app (len_take rfl (show(w64 (((l7.length:Nat):Int)-1)).toNat<=l7.length by have:=(slOk_of g13);omega)) rfl),hm⟩
      ·refine q_sk ?_;exact q_J ((l7.take ((w64 (((l7.length:Nat):Int)-1)).toNat)),(w64 (((l7.length:Nat):Int)-1)).toNat,v14.2.2,v14.2.1) ⟨(len_take rfl (show(w64 (((l7.length:Nat):Int)-1)).toNat<=l7.length by have:=(slOk_of g13);omega)),hm⟩
  ·refine q_ex 0 ?_;obtain rfl:=oi hm;exact jI (x10,x9) (by kernel_rfl) (by kernel_rfl)
theorem qEP (a1:Pattern) (a2:List Product) (a3:Int) (a4:Int) (a5:Pattern) (a6:Int) (ri:RI 67) (r:Nat×Int×Int) (hm:XT a1 a2 a3 a4 a5 a6=some r):CtX Tryz.prog globs 165 8 8 [.one (.yl (rc Tryz.f61 506 ri) ri.b [3,5,6,7] [.bptr 1 0 0,.bptr 2 0 0,.bptr 4 0 0,.bptr 5 0 0]),.one (.bptr 6 0 0),.one (.bptr 7 0 0)] [(0,lq (rc Tryz.f61 506 ri) ri.b),(1,bx 46 (qT a1)),(2,bx 114 [.fn 62 [.bptr 3 0 0]]),(3,bx 22 [tl qC default a2]),(4,bx 47 [ci a3]),(5,bx 3 [ci a4]),(6,bx 46 (qT a5)),(7,bx 3 [ci a6])] (BO a1 a2 a3 a4 a5 a6 ri r) (BM a1 a2 a3 a4 a5 a6 ri r):=by
 unfold XT at hm;refine q_E Tryz.f165 73 λE=>?_
 refine s_vn [qd 3 (drw 8 0 (rf e_Pattern_place ([(Pattern_place.mk a5.Frame 1)]:List Pattern_place))) (litP e_Pattern_place default 5 (λ_=>rfl) ([(Pattern_place.mk a5.Frame 1)]:List Pattern_place) 1 rfl)] 8 ⟨[(0,vc (.yl (rc Tryz.f61 506 ri) ri.b [3,5,6,7] [.bptr 1 0 0,.bptr 2 0 0,.bptr 4 0 0,.bptr 5 0 0])),(1,vp 6 0),(2,vp 7 0),(4,vo 8 0 5 1)],[(0,lq (rc Tryz.f61 506 ri) ri.b),(1,bx 46 (qT a1)),(2,bx 114 [.fn 62 [.bptr 3 0 0]]),(3,bx 22 [tl qC default a2]),(4,bx 47 [ci a3]),(5,bx 3 [ci a4]),(6,bx 46 (qT a5)),(7,bx 3 [ci a6]),(8,ro 0 175 5 1 (rf e_Pattern_place ([(Pattern_place.mk a5.Frame 1)]:List Pattern_place)))]⟩ ?_
 refine s_vu [] 9 [] [(5,vi 0)] [] [] ?_;obtain⟨u32,h31,hm⟩:=qB hm;refine zP (nd Tryz.f165 28) 0 (by kernel_rfl) FUEL (λo=>HH ri a1 a2 a5 a6 o.1 o.2) (λv st=>RetQ Tryz.prog Tryz.f165 (BO a1 a2 a3 a4 a5 a6 ri v) (BM a1 a2 a3 a4 a5 a6 ri v) .ret st) u32 (q_hl (RW ri a1 a2 a5 a6 ([(Pattern_place.mk a5.Frame 1)]:List Pattern_place) 1 0 a3 a4) (qCY E ri a1 a2 a3 a4 a5 a6 FUEL ([(Pattern_place.mk a5.Frame 1)]:List Pattern_place) 1 0 a3 a4 u32 rfl h31)) ?_ ?_
 ·rintro v33 rfl st hr;obtain rfl:=oi hm;exact hr
 ·rintro o30 rfl;replace hm:_=some r:=hm;obtain rfl:=oi hm;exact q_rm
def qB4 (a1:Pattern) (a2:Int) (a3:List Product) (r:Int):V:=vi r
def qBZ (a1:Pattern) (a2:Int) (a3:List Product) (r:Int):List (Nat×(Nat×O)):=[(0,bx 22 [tl qC default a3])]
def CS (a1:Pattern) (a2:Int) (a3:List Product) (x8:Bool):St:=
 ⟨[(1,vi a2),(3,vp 1 0),(5,vp 2 0),(6,vp 3 0),(21,vb x8)],[(0,bx 22 [tl qC default a3]),(1,bx 46 (qT a1)),(2,bx 114 [.fn 62 [.bptr 0 0 0]]),(3,bx 47 [ci 0])]⟩
theorem qG5 (a1:Pattern) (a2:Int) (a3:List Product) (r:Int) (hm:LX a1 a2 a3=some r):CtX Tryz.prog globs 61 1 1 [.agg (qT a1),.one (ci a2),.one (.fn 62 [.bptr 0 0 0])] [(0,bx 22 [tl qC default a3])] (qB4 a1 a2 a3 r) (qBZ a1 a2 a3 r):=by
 unfold LX at hm;refine q_E Tryz.f61 67 λE=>?_;refine s_vn [] 1 ⟨[(1,vi a2),(3,vp 1 0),(5,vp 2 0),(6,vp 3 0)],[(0,bx 22 [tl qC default a3]),(1,bx 46 (qT a1)),(2,bx 114 [.fn 62 [.bptr 0 0 0]]),(3,bx 47 [ci 0])]⟩ ?_;refine q_sq ?_;obtain⟨v4,h5,hm⟩:=qB hm;refine s_vu [qc 2 [13] 4 (BT a1.Frame v4 h5)] 4 [] [(15,vb (!v4))] [] [] ?_;refine q_cm hm (λb6 hm=>?_) (λb6 hm=>?_)
 ·refine s_vu [] 4 [1,3,5,15] [] [1,2,3] [(3,bx 47 [ci 19])] ?_;obtain rfl:=oi hm;refine q_rt ?_;exact q_rm
 ·refine q_sk ?_;refine q_sq ?_;refine q_jn (ι:=Bool) (λp=>CS a1 a2 a3 p) (λp=>WG a1 a2 a3 p=some r) ?_ ?_
  ·rintro x8 hm;show H _ (CS a1 a2 a3 x8) _ _;refine q_cm hm (λb9 hm=>?_) (λb9 hm=>?_)
   ·refine s_vu [] 4 [1,3,5,21] [] [1,2,3] [(3,bx 47 [ci 9])] ?_;obtain rfl:=oi hm;refine q_rt ?_;exact q_rm
   ·refine q_sk ?_;refine q_sq ?_;refine s_vu [] 4 [21] [(25,vb (decide (((a1.Nodes.length:Nat):Int)>127)))] [] [] ?_;refine q_cm hm (λb10 hm=>?_) (λb10 hm=>?_)
    ·refine s_vu [] 4 [1,3,5,25] [] [1,2,3] [(3,bx 47 [ci 4])] ?_;obtain rfl:=oi hm;refine q_rt ?_;exact q_rm
    ·refine q_sk ?_;refine s_vu [] 4 [25] [(7,vp 4 0)] [] [(4,bx 3 [ci 0])] ?_;refine q_sq ?_;obtain⟨v11,h12,hm⟩:=qB hm;refine s_vu [qc 2 [26,27] 5 (qGg a1 a2 v11 h12)] 5 [1] [(28,vc (.fn 165 [.bptr 5 0 0,.bptr 6 0 0]))] [] [(5,bx 46 (qT v11.1)),(6,bx 3 [ci v11.2])] ?_;refine q_bk 0 ?_;obtain⟨v13,h14,hm⟩:=qB hm
     refine q_rf (.tmp 28) [3,5,6,7] 7 [(7,0),(1,0),(2,0),(0,0),(3,0),(4,0),(5,0),(6,0)] [0,0,0,0,0,0,0,0] 0 8 [.ret] v13.1 0 ⟨[(3,vp 1 0),(6,vp 3 0),(7,vp 4 0)],[(0,bx 22 [tl qC default a3]),(1,bx 46 (qT a1)),(3,bx 47 [ci v13.2.1]),(4,bx 3 [ci v13.2.2])]⟩ (λri=>qEP a1 a3 0 0 v11.1 v11.2 ri v13 h14) ?_;rcases bif_c hm with⟨b15,hm⟩|⟨b15,hm⟩
     ·refine JQ_n b15 ?_;refine q_sq ?_;refine s_vu [] 8 [3,7] [(66,vb (decide (v13.2.2<((a1.Nodes.length:Nat):Int))))] [1,4] [] ?_;refine q_cm hm (λb17 hm=>?_) (λb17 hm=>?_)
      ·refine s_vu [] 8 [66] [] [3] [(3,bx 47 [ci 4])] ?_;obtain rfl:=oi hm;refine q_rt ?_;exact q_rm
      ·refine q_sk ?_;refine s_vu [] 8 [66] [] [3] [(3,bx 47 [ci 0])] ?_;obtain rfl:=oi hm;refine q_rt ?_;exact q_rm
     ·rcases bif_c hm with⟨b16,hm⟩|⟨b16,hm⟩
      ·refine JQ_j 0 .ret b16 (by kernel_rfl) ?_;obtain rfl:=oi hm;refine q_rt ?_;exact q_rm
      ·cases hm
  ·rcases bif_c hm with⟨b7,hm⟩|⟨b7,hm⟩
   ·refine q_vu [qf 2 b7] 4 [15] [(21,vb true)] [] [] ?_;exact q_J (true) hm
   ·refine q_vu [qf 2 b7] 4 [15] [(21,vb (decide (a2>20)))] [] [] ?_;exact q_J (decide (a2>20)) hm
def GG (r:Int):V:=vi r
def JU (r:Int):List (Nat×(Nat×O)):=[]
theorem SJ (r:Int):jW (JU r):=by
 intro i k o h;unfold JU at h;cases h
theorem ML (a1:Pattern) (a2:List Product) (a3:Int) (r:Int) (hm:JZ a1 a2 a3=some r):CtX Tryz.prog globs 25 0 0 [.agg (qT a1),.one (tl qC default a2),.one (ci a3)] [] (GG r) (JU r):=by
 unfold JZ at hm;refine q_E Tryz.f25 11 λE=>?_;refine s_vn [] 0 ⟨[(2,vi a3),(3,vp 0 0),(4,vp 1 0)],[(0,bx 46 (qT a1)),(1,bx 22 [tl qC default a2])]⟩ ?_;obtain⟨v4,h5,hm⟩:=qB hm;refine s_vn [qd 3 (dex (cen [(1,0)] [0] 1 1 (qB4 a1 a3 a2 v4) (qBZ a1 a3 a2 v4) [7,8,9] [1])) (wF (K:=(kx E 11 0)) ⟨[(7,va (qT a1)),(8,vi a3),(9,vc (.fn 62 [.bptr 1 0 0]))],[(1,bx 22 [tl qC default a2])]⟩ (opAt (rg Tryz.f25 6) 3) [(1,0)] [0] 1 o0 rfl (qG5 a1 a3 a2 v4 h5) (.inl rfl) (by kernel_rfl))] 2 ⟨[(6,vi v4)],[]⟩ ?_;obtain rfl:=oi hm;refine q_rt ?_;exact q_rm
end Saw
end Go.SL

import Derived.Test.YtidlfgiogdjkaaaGreatDoorEBase
import Derived.Test.YtidlfgiogdjkaaaGreatDoorEFa8
import Derived.Test.YtidlfgiogdjkaaaGreatDoorEFa4
import Derived.Test.YtidlfgiogdjkaaaGreatDoorEFa7
import Derived.Test.YtidlfgiogdjkaaaGreatDoorEFa2
set_option linter.unusedVariables false
set_option linter.unusedSimpArgs false
namespace Go.SL
namespace Saw
open Go.Proofs
set_option maxHeartbeats 4000000
set_option maxRecDepth 100000
def IB (r:Bool):V:=vb r
def AJ (r:Bool):List (Nat×(Nat×O)):=[]
def qAT (a1:Rect) (a3:Saw) (v5:(List Span)×(List (List Node))×Bool) (v10:(List Int)×(List Int)) (x12:Int) (x23:Int) (x31:Bool):St:=
 ⟨[(4,vp 0 0),(6,vp 1 0),(10,vo 3 0 1 v5.2.1.length),(12,vo 4 0 1 v10.1.length),(13,vo 5 0 1 v10.2.length),(14,vi x12),(15,vp 6 0),(16,vb x31),(47,vo 2 0 2 v5.1.length),(48,vi ((v5.1.length:Nat):Int)),(49,vi x12),(82,vo 4 0 1 v10.1.length),(83,vi ((v10.1.length:Nat):Int)),(84,vi x23)],[(0,bx 33 (qH a1)),(1,bx 38 (qX a3)),(2,ro 0 31 2 v5.1.length (rf e_Span v5.1)),(3,ro 0 44 1 v5.2.1.length (rf (qD e_Node) v5.2.1)),(4,ro 0 3 1 v10.1.length (rf e_i64 v10.1)),(5,ro 0 3 1 v10.2.length (rf e_i64 v10.2)),(6,bx 31 [ci ((v5.1.getD x12.toNat default).A),ci ((v5.1.getD x12.toNat default).B)])]⟩
def FP (a1:Rect) (a3:Saw) (v5:(List Span)×(List (List Node))×Bool) (v10:(List Int)×(List Int)) (x12:Int) (x22:Bool) (x23:Int):St:=
 ⟨[(4,vp 0 0),(6,vp 1 0),(10,vo 3 0 1 v5.2.1.length),(12,vo 4 0 1 v10.1.length),(13,vo 5 0 1 v10.2.length),(14,vi x12),(15,vp 6 0),(16,vb x22),(47,vo 2 0 2 v5.1.length),(48,vi ((v5.1.length:Nat):Int)),(49,vi x12),(82,vo 4 0 1 v10.1.length),(83,vi ((v10.1.length:Nat):Int)),(84,vi x23)],[(0,bx 33 (qH a1)),(1,bx 38 (qX a3)),(2,ro 0 31 2 v5.1.length (rf e_Span v5.1)),(3,ro 0 44 1 v5.2.1.length (rf (qD e_Node) v5.2.1)),(4,ro 0 3 1 v10.1.length (rf e_i64 v10.1)),(5,ro 0 3 1 v10.2.length (rf e_i64 v10.2)),(6,bx 31 [ci ((v5.1.getD x12.toNat default).A),ci ((v5.1.getD x12.toNat default).B)])]⟩
def qAK (a1:Rect) (a3:Saw) (v5:(List Span)×(List (List Node))×Bool) (v10:(List Int)×(List Int)) (x12:Int) (x32:Bool):St:=
 ⟨[(4,vp 0 0),(6,vp 1 0),(10,vo 3 0 1 v5.2.1.length),(12,vo 4 0 1 v10.1.length),(13,vo 5 0 1 v10.2.length),(16,vb x32),(47,vo 2 0 2 v5.1.length),(48,vi ((v5.1.length:Nat):Int)),(49,vi x12)],[(0,bx 33 (qH a1)),(1,bx 38 (qX a3)),(2,ro 0 31 2 v5.1.length (rf e_Span v5.1)),(3,ro 0 44 1 v5.2.1.length (rf (qD e_Node) v5.2.1)),(4,ro 0 3 1 v10.1.length (rf e_i64 v10.1)),(5,ro 0 3 1 v10.2.length (rf e_i64 v10.2))]⟩
def qAA (a1:Rect) (a3:Saw) (v5:(List Span)×(List (List Node))×Bool) (v10:(List Int)×(List Int)) (x12:Int) (x20:Bool):St:=
 ⟨[(4,vp 0 0),(6,vp 1 0),(10,vo 3 0 1 v5.2.1.length),(12,vo 4 0 1 v10.1.length),(13,vo 5 0 1 v10.2.length),(14,vi x12),(15,vp 6 0),(47,vo 2 0 2 v5.1.length),(48,vi ((v5.1.length:Nat):Int)),(49,vi x12),(81,vb x20)],[(0,bx 33 (qH a1)),(1,bx 38 (qX a3)),(2,ro 0 31 2 v5.1.length (rf e_Span v5.1)),(3,ro 0 44 1 v5.2.1.length (rf (qD e_Node) v5.2.1)),(4,ro 0 3 1 v10.1.length (rf e_i64 v10.1)),(5,ro 0 3 1 v10.2.length (rf e_i64 v10.2)),(6,bx 31 [ci ((v5.1.getD x12.toNat default).A),ci ((v5.1.getD x12.toNat default).B)])]⟩
def FY (a1:Rect) (a3:Saw) (v5:(List Span)×(List (List Node))×Bool) (v10:(List Int)×(List Int)) (x12:Int):St:=
 ⟨[(4,vp 0 0),(6,vp 1 0),(10,vo 3 0 1 v5.2.1.length),(12,vo 4 0 1 v10.1.length),(13,vo 5 0 1 v10.2.length),(47,vo 2 0 2 v5.1.length),(48,vi ((v5.1.length:Nat):Int)),(49,vi x12)],[(0,bx 33 (qH a1)),(1,bx 38 (qX a3)),(2,ro 0 31 2 v5.1.length (rf e_Span v5.1)),(3,ro 0 44 1 v5.2.1.length (rf (qD e_Node) v5.2.1)),(4,ro 0 3 1 v10.1.length (rf e_i64 v10.1)),(5,ro 0 3 1 v10.2.length (rf e_i64 v10.2))]⟩
def qAl :St:=
 ⟨[],[]⟩
def qAx (a1:Rect) (a2:List Product) (a3:Saw) (v5:(List Span)×(List (List Node))×Bool) (x8:Bool):St:=
 ⟨[(1,vc (tl qC default a2)),(4,vp 0 0),(6,vp 1 0),(9,vo 2 0 2 v5.1.length),(10,vo 3 0 1 v5.2.1.length),(34,vb x8)],[(0,bx 33 (qH a1)),(1,bx 38 (qX a3)),(2,ro 0 31 2 v5.1.length (rf e_Span v5.1)),(3,ro 0 44 1 v5.2.1.length (rf (qD e_Node) v5.2.1))]⟩
theorem qFE (E:Env 0) (a1:Rect) (a3:Saw) (v5:(List Span)×(List (List Node))×Bool) (v10:(List Int)×(List Int)) (x12:Int):∀(n:Nat) (x22:Bool) (x23:Int) (res:Bool),JJ v5 v10 x12 n x22 x23=some res->HL (kx E 117 0) (nd Tryz.f54 1025652) (zI 2 (λo=>qAK a1 a3 v5 v10 x12 o) res) n (FP a1 a3 v5 v10 x12 x22 x23):=by
 intro n
 induction n with
 |zero=>
  intro x22 x23 res hm;cases hm
 |succ n ih=>
  intro x22 x23 res hm;refine qM ?_;refine s_vu [] 7 [] [(85,vb (decide (x23<((v10.1.length:Nat):Int))))] [] [] ?_;refine q_sq ?_;refine q_cm hm (λb24 hm=>?_) (λb24 hm=>?_)
  ·refine q_sk ?_;refine q_jn (ι:=Bool) (λp=>qAT a1 a3 v5 v10 x12 x23 p) (λp=>GA x23 (JJ v5 v10 x12 n) p=some res) ?_ ?_
   ·rintro x31 hm;show H _ (qAT a1 a3 v5 v10 x12 x23 x31) _ _;refine q_vu [] 7 [84] [(84,vi (w64 (x23+1)))] [] [] ?_;exact q_hl (FP a1 a3 v5 v10 x12 x31 (w64 (x23+1))) (ih x31 (w64 (x23+1)) _ hm)
   ·refine q_bk 3 ?_;obtain⟨g25,hm⟩:=qG hm;refine s_vu [qd 1 (Dir.none) (inb_of g25),qd 2 (Dir.none) (toNat_lt (inb_of g25))] 7 [85] [(17,vi x23),(18,vi (v10.1.getD x23.toNat default))] [] [] ?_;rcases bif_c hm with⟨b26,hm⟩|⟨b26,hm⟩
    ·refine q_du [qf 1 b26] [0,1,3,3,11,3,35,123,255,511,1023,1023,4095,8191,1023,1023,50175,115711,246783,508927,1033215,2097151,4194303,8388607,16777215] 7 [16,17,18] [(16,vb true)] [] [] ?_;exact q_J (true) hm
    ·rcases bif_c hm with⟨b27,hm⟩|⟨b27,hm⟩
     ·obtain⟨g28,hm⟩:=qG hm;obtain⟨g29,hm⟩:=qG hm;obtain⟨g30,hm⟩:=qG hm;refine q_du [qf 1 b26,qf 9 b27,qd 12 (Dir.none) (inb_of g28),qd 13 (Dir.none) (toNat_lt (inb_of g28)),qd 16 (Dir.none) (inb_of g29),qd 17 (Dir.none) (toNat_lt (inb_of g29)),qd 18 (Dir.none) (inb_of g30)] [0,1,3,3,11,3,35,123,255,511,1023,1023,4095,8191,1023,1023,50175,115711,246783,508927,1033215,2097151,4194303,8388607,16777215] 7 [16,17,18] [(16,vb ((v10.2.getD x23.toNat default)==(((v5.2.1.getD x12.toNat default).getD (0:Int).toNat default).At)))] [] [] ?_
      exact q_J ((v10.2.getD x23.toNat default)==(((v5.2.1.getD x12.toNat default).getD (0:Int).toNat default).At)) hm
     ·refine q_du [qf 1 b26,qf 9 b27] [0,1,3,3,11,3,35,123,255,511,1023,1023,4095,8191,1023,1023,50175,115711,246783,508927,1033215,2097151,4194303,8388607,16777215] 7 [16,17,18] [(16,vb false)] [] [] ?_;exact q_J (false) hm
  ·refine q_ex 2 ?_;obtain rfl:=oi hm;exact wD (by kernel_rfl) (by kernel_rfl)
theorem qGk (E:Env 0) (a1:Rect) (a3:Saw) (v5:(List Span)×(List (List Node))×Bool) (v10:(List Int)×(List Int)):∀(n:Nat) (x12:Int) (res:Bool⊕Unit),JO a1 a3 v5 v10 n x12=some res->HL (kx E 117 0) (nd Tryz.f54 500) (zV 0 (λo=>qAl) (λv st=>RetQ Tryz.prog Tryz.f54 (IB v) (AJ v) .ret st) res) n (FY a1 a3 v5 v10 x12):=by
 intro n
 induction n with
 |zero=>
  intro x12 res hm;cases hm
 |succ n ih=>
  intro x12 res hm;refine qM ?_;refine s_vu [] 6 [] [(50,vb (decide (x12<((v5.1.length:Nat):Int))))] [] [] ?_;refine q_sq ?_;refine q_cm hm (λb13 hm=>?_) (λb13 hm=>?_)
  ·refine q_sk ?_;refine q_sq ?_;refine q_bk 1 ?_;obtain⟨g14,hm⟩:=qG hm;refine s_vu [qd 1 (Dir.none) (inb_of g14),qd 2 (Dir.none) (toNat_lt (inb_of g14))] 6 [50] [(14,vi x12),(15,vp 6 0)] [] [(6,bx 31 [ci ((v5.1.getD x12.toNat default).A),ci ((v5.1.getD x12.toNat default).B)])] ?_;refine q_sq ?_;refine q_jn (ι:=Bool) (λp=>qAA a1 a3 v5 v10 x12 p) (λp=>GQ v5 v10 x12 (JO a1 a3 v5 v10 n) p=some res) ?_ ?_
   ·rintro x20 hm;show H _ (qAA a1 a3 v5 v10 x12 x20) _ _;refine q_cm hm (λb21 hm=>?_) (λb21 hm=>?_)
    ·refine s_vn [] 7 ⟨[(8,vb false)],[]⟩ ?_;obtain rfl:=oi hm;refine q_rt ?_;refine qT false ?_;exact q_rm
    ·refine q_sk ?_;refine s_vu [] 7 [81] [(16,vb false)] [] [] ?_;refine q_sq ?_;refine s_vu [] 7 [] [(82,vo 4 0 1 v10.1.length),(83,vi ((v10.1.length:Nat):Int)),(84,vi 0)] [] [] ?_;obtain⟨o33,h34,hm⟩:=qA hm;refine zD (nd Tryz.f54 1025652) 2 (by kernel_rfl) FUEL (λo=>qAK a1 a3 v5 v10 x12 o) o33 (q_hl (FP a1 a3 v5 v10 x12 false 0) (qFE E a1 a3 v5 v10 x12 FUEL false 0 o33 h34)) ?_;refine s_vu [] 7 [16] [(115,vb (!o33))] [] [] ?_;refine q_cm hm (λb35 hm=>?_) (λb35 hm=>?_)
     ·refine s_vn [] 7 ⟨[(8,vb false)],[]⟩ ?_;obtain rfl:=oi hm;refine q_rt ?_;refine qT false ?_;exact q_rm
     ·refine q_sk ?_;refine q_vu [] 7 [49,115] [(49,vi (w64 (x12+1)))] [] [] ?_;exact q_hl (FY a1 a3 v5 v10 (w64 (x12+1))) (ih (w64 (x12+1)) _ hm)
   ·obtain⟨g15,hm⟩:=qG hm;rcases bif_c hm with⟨b16,hm⟩|⟨b16,hm⟩
    ·refine q_vu [qd 8 (Dir.none) (qC3 g15),qf 10 b16] 7 [] [(81,vb true)] [] [] ?_;exact q_J (true) hm
    ·obtain⟨g17,hm⟩:=qG hm;rcases bif_c hm with⟨b18,hm⟩|⟨b18,hm⟩
     ·refine q_vu [qd 8 (Dir.none) (qC3 g15),qf 10 b16,qd 13 (Dir.none) (inb_of g17),qd 14 (Dir.none) (toNat_lt (inb_of g17)),qf 18 b18] 7 [] [(81,vb true)] [] [] ?_;exact q_J (true) hm
     ·obtain⟨g19,hm⟩:=qG hm;refine q_vu [qd 8 (Dir.none) (qC3 g15),qf 10 b16,qd 13 (Dir.none) (inb_of g17),qd 14 (Dir.none) (toNat_lt (inb_of g17)),qf 18 b18,qd 21 (Dir.none) (inb_of g17),qd 22 (Dir.none) (toNat_lt (inb_of g17)),qd 23 (Dir.none) (inb_of g19)] 7 [] [(81,vb ((((v5.2.1.getD x12.toNat default).getD (0:Int).toNat default).Kind) !=1))] [] [] ?_;exact q_J ((((v5.2.1.getD x12.toNat default).getD (0:Int).toNat default).Kind) !=1) hm
  ·refine q_ex 0 ?_;obtain rfl:=oi hm;exact wB () (by kernel_rfl) (by kernel_rfl)
theorem qIX (a1:Rect) (a2:List Product) (a3:Saw) (a4:List Node) (r:Bool) (hm:qBn a1 a2 a3 a4=some r):CtX Tryz.prog globs 54 0 0 [.agg (qH a1),.one (tl qC default a2),.agg (qX a3),.one (tl e_Node default a4)] [] (IB r) (AJ r):=by
 unfold qBn at hm;refine q_E Tryz.f54 117 λE=>?_;refine s_vn [] 0 ⟨[(1,vc (tl qC default a2)),(3,vc (tl e_Node default a4)),(4,vp 0 0),(6,vp 1 0)],[(0,bx 33 (qH a1)),(1,bx 38 (qX a3))]⟩ ?_;obtain⟨v5,h6,hm⟩:=qA hm;refine s_vu [qk 4 [20,22,23] 2 ⟨[(20,va (qH a1)),(22,vi a3.Kerf),(23,vc (tl e_Node default a4))],[]⟩ (qHc a1 2 a3.Kerf a4 v5 h6)] 2 [3] [(9,vo 2 0 2 v5.1.length),(10,vo 3 0 1 v5.2.1.length),(11,vb v5.2.2)] [] [(2,ro 0 31 2 v5.1.length (rf e_Span v5.1)),(3,ro 0 44 1 v5.2.1.length (rf (qD e_Node) v5.2.1))] ?_;refine q_sq ?_
 refine q_jn (ι:=Bool) (λp=>qAx a1 a2 a3 v5 p) (λp=>EA a1 a2 a3 v5 p=some r) ?_ ?_
 ·rintro x8 hm;show H _ (qAx a1 a2 a3 v5 x8) _ _;refine q_cm hm (λb9 hm=>?_) (λb9 hm=>?_)
  ·refine s_vn [] 4 ⟨[(8,vb false)],[]⟩ ?_;obtain rfl:=oi hm;refine q_rt ?_;exact q_rm
  ·refine q_sk ?_;obtain⟨v10,h11,hm⟩:=qA hm;refine s_vu [qc 8 [36,43] 4 (CO a2 (w64 (a1.Y.B-a1.Y.A)) v10 h11)] 4 [1,34] [(12,vo 4 0 1 v10.1.length),(13,vo 5 0 1 v10.2.length)] [] [(4,ro 0 3 1 v10.1.length (rf e_i64 v10.1)),(5,ro 0 3 1 v10.2.length (rf e_i64 v10.2))] ?_;refine q_sq ?_;refine s_vu [] 6 [9] [(47,vo 2 0 2 v5.1.length),(48,vi ((v5.1.length:Nat):Int)),(49,vi 0)] [] [] ?_;obtain⟨u38,h37,hm⟩:=qA hm
   refine zA (nd Tryz.f54 500) 0 (by kernel_rfl) FUEL (λo=>qAl) (λv st=>RetQ Tryz.prog Tryz.f54 (IB v) (AJ v) .ret st) u38 (q_hl (FY a1 a3 v5 v10 0) (qGk E a1 a3 v5 v10 FUEL 0 u38 h37)) ?_ ?_
   ·rintro v39 rfl st hr;obtain rfl:=oi hm;exact hr
   ·rintro o36 rfl;replace hm:_=some r:=hm;refine s_vn [] 6 ⟨[(8,vb true)],[]⟩ ?_;obtain rfl:=oi hm;refine q_rt ?_;exact q_rm
 ·rcases bif_c hm with⟨b7,hm⟩|⟨b7,hm⟩
  ·refine q_vu [qf 2 b7] 4 [11] [(34,vb true)] [] [] ?_;exact q_J (true) hm
  ·refine q_vu [qf 2 b7] 4 [11] [(34,vb (((v5.1.length:Nat):Int)==0))] [] [] ?_;exact q_J (((v5.1.length:Nat):Int)==0) hm
def VO (r:Int):V:=vi r
def VM (r:Int):List (Nat×(Nat×O)):=[]
def PB (a1:List Int) (a2:Int) (x3:Int):St:=
 ⟨[(0,vc (tl e_i64 default a1)),(1,vi a2),(7,vi ((a1.length:Nat):Int)),(8,vi x3)],[]⟩
def LL :St:=
 ⟨[],[]⟩
theorem qCb (E:Env 0) (a1:List Int) (a2:Int):∀(n:Nat) (x3:Int) (res:Int⊕Unit),TV a1 a2 n x3=some res->HL (kx E 19 0) (nd Tryz.f108 52) (zV 0 (λo=>LL) (λv st=>RetQ Tryz.prog Tryz.f108 (VO v) (VM v) .ret st) res) n (PB a1 a2 x3):=by
 intro n
 induction n with
 |zero=>
  intro x3 res hm;cases hm
 |succ n ih=>
  intro x3 res hm;refine qM ?_;refine s_vu [] 0 [] [(9,vb (decide (x3<((a1.length:Nat):Int))))] [] [] ?_;refine q_sq ?_;refine q_cm hm (λb4 hm=>?_) (λb4 hm=>?_)
  ·refine q_sk ?_;refine q_sq ?_;refine q_bk 1 ?_;refine s_vu [] 0 [9] [(5,vi x3)] [] [] ?_;obtain⟨g5,hm⟩:=qG hm;refine s_vu [qd 3 (Dir.none) (inb_of g5)] 0 [] [(16,vb (a2==(a1.getD x3.toNat default)))] [] [] ?_;refine q_cm hm (λb6 hm=>?_) (λb6 hm=>?_)
   ·refine s_vn [] 0 ⟨[(4,vi x3)],[]⟩ ?_;obtain rfl:=oi hm;refine q_rt ?_;refine qT x3 ?_;exact q_rm
   ·refine q_sk ?_;refine q_vu [] 0 [5,8,16] [(8,vi (w64 (x3+1)))] [] [] ?_;exact q_hl (PB a1 a2 (w64 (x3+1))) (ih (w64 (x3+1)) _ hm)
  ·refine q_ex 0 ?_;obtain rfl:=oi hm;exact wB () (by kernel_rfl) (by kernel_rfl)
theorem qEK (a1:List Int) (a2:Int) (r:Int) (hm:FL a1 a2=some r):CtX Tryz.prog globs 108 0 0 [.one (tl e_i64 default a1),.one (ci a2)] [] (VO r) (VM r):=by
 unfold FL at hm;refine q_E Tryz.f108 19 λE=>?_;refine s_vn [] 0 ⟨[(0,vc (tl e_i64 default a1)),(1,vi a2)],[]⟩ ?_;refine q_sq ?_;refine s_vu [] 0 [] [(7,vi ((a1.length:Nat):Int)),(8,vi 0)] [] [] ?_;obtain⟨u9,h8,hm⟩:=qA hm;refine zA (nd Tryz.f108 52) 0 (by kernel_rfl) FUEL (λo=>LL) (λv st=>RetQ Tryz.prog Tryz.f108 (VO v) (VM v) .ret st) u9 (q_hl (PB a1 a2 0) (qCb E a1 a2 FUEL 0 u9 h8)) ?_ ?_
 ·rintro v10 rfl st hr;obtain rfl:=oi hm;exact hr
 ·rintro o7 rfl;replace hm:_=some r:=hm;refine s_vn [] 0 ⟨[(4,vi (-1))],[]⟩ ?_;obtain rfl:=oi hm;refine q_rt ?_;exact q_rm
def LJ (r:Bool):V:=vb r
def WF (r:Bool):List (Nat×(Nat×O)):=[]
theorem qDb (r:Bool):jU (WF r):=by
 intro i k o h;unfold WF at h;cases h
theorem qCc (a1:List Int) (a2:Int) (r:Bool) (hm:UB a1 a2=some r):CtX Tryz.prog globs 53 0 0 [.one (tl e_i64 default a1),.one (ci a2)] [] (LJ r) (WF r):=by
 unfold UB at hm;refine q_E Tryz.f53 9 λE=>?_;refine s_vn [] 0 ⟨[(0,vc (tl e_i64 default a1)),(1,vi a2)],[]⟩ ?_;obtain⟨v3,h4,hm⟩:=qA hm;refine s_vn [qc 2 [5,6] 0 (qEK a1 a2 v3 h4)] 0 ⟨[(4,vb (decide (v3≥0)))],[]⟩ ?_;obtain rfl:=oi hm;refine q_rt ?_;exact q_rm
def MA (r:Bool):V:=vb r
def XT (r:Bool):List (Nat×(Nat×O)):=[]
theorem qMf (r:Bool):jU (XT r):=by
 intro i k o h;unfold XT at h;cases h
def qBQ (a1:Pattern) (a2:List Product) (a3:Saw) (v14:(List Span)×(List (List Node))×Bool) (v17:(List Int)) (x19:Int) (x26:Bool):St:=
 ⟨[(1,vc (tl qC default a2)),(3,vp 0 0),(5,vp 1 0),(8,vo 3 0 1 v14.2.1.length),(10,vo 4 0 1 v17.length),(11,vi x19),(12,vp 5 0),(43,vo 2 0 2 v14.1.length),(44,vi ((v14.1.length:Nat):Int)),(45,vi x19),(70,vb x26)],[(0,bx 46 (CC a1)),(1,bx 38 (qX a3)),(2,ro 0 31 2 v14.1.length (rf e_Span v14.1)),(3,ro 0 44 1 v14.2.1.length (rf (qD e_Node) v14.2.1)),(4,ro 0 3 1 v17.length (rf e_i64 v17)),(5,bx 31 [ci ((v14.1.getD x19.toNat default).A),ci ((v14.1.getD x19.toNat default).B)])]⟩
def MD (a1:Pattern) (a2:List Product) (a3:Saw) (v14:(List Span)×(List (List Node))×Bool) (v17:(List Int)) (x19:Int):St:=
 ⟨[(1,vc (tl qC default a2)),(3,vp 0 0),(5,vp 1 0),(8,vo 3 0 1 v14.2.1.length),(10,vo 4 0 1 v17.length),(43,vo 2 0 2 v14.1.length),(44,vi ((v14.1.length:Nat):Int)),(45,vi x19)],[(0,bx 46 (CC a1)),(1,bx 38 (qX a3)),(2,ro 0 31 2 v14.1.length (rf e_Span v14.1)),(3,ro 0 44 1 v14.2.1.length (rf (qD e_Node) v14.2.1)),(4,ro 0 3 1 v17.length (rf e_i64 v17))]⟩
def qBg :St:=
 ⟨[],[]⟩
def qB2 (a1:Pattern) (a2:List Product) (a3:Saw) (x12:Bool):St:=
 ⟨[(1,vc (tl qC default a2)),(3,vp 0 0),(5,vp 1 0),(27,vb x12)],[(0,bx 46 (CC a1)),(1,bx 38 (qX a3))]⟩
theorem qG4 (E:Env 0) (a1:Pattern) (a2:List Product) (a3:Saw) (v14:(List Span)×(List (List Node))×Bool) (v17:(List Int)):∀(n:Nat) (x19:Int) (res:Bool⊕Unit),RS a1 a2 a3 v14 v17 n x19=some res->HL (kx E 85 0) (nd Tryz.f22 1012) (zV 0 (λo=>qBg) (λv st=>RetQ Tryz.prog Tryz.f22 (MA v) (XT v) .ret st) res) n (MD a1 a2 a3 v14 v17 x19):=by
 intro n
 induction n with
 |zero=>
  intro x19 res hm;cases hm
 |succ n ih=>
  intro x19 res hm;refine qM ?_;refine s_vu [] 5 [] [(46,vb (decide (x19<((v14.1.length:Nat):Int))))] [] [] ?_;refine q_sq ?_;refine q_cm hm (λb20 hm=>?_) (λb20 hm=>?_)
  ·refine q_sk ?_;refine q_sq ?_;refine q_bk 1 ?_;obtain⟨g21,hm⟩:=qG hm;refine s_vu [qd 1 (Dir.none) (inb_of g21),qd 2 (Dir.none) (toNat_lt (inb_of g21))] 5 [46] [(11,vi x19),(12,vp 5 0)] [] [(5,bx 31 [ci ((v14.1.getD x19.toNat default).A),ci ((v14.1.getD x19.toNat default).B)])] ?_;refine q_sq ?_;refine q_jn (ι:=Bool) (λp=>qBQ a1 a2 a3 v14 v17 x19 p) (λp=>AV a1 a2 a3 v14 x19 (RS a1 a2 a3 v14 v17 n) p=some res) ?_ ?_
   ·rintro x26 hm;show H _ (qBQ a1 a2 a3 v14 v17 x19 x26) _ _;refine q_cm hm (λb27 hm=>?_) (λb27 hm=>?_)
    ·refine s_vn [] 6 ⟨[(6,vb false)],[]⟩ ?_;obtain rfl:=oi hm;refine q_rt ?_;refine qT false ?_;exact q_rm
    ·refine q_sk ?_;obtain⟨g28,hm⟩:=qG hm;obtain⟨v29,h30,hm⟩:=qA hm;refine s_du [qd 9 (Dir.none) (inb_of g28),qd 10 (Dir.none) (toNat_lt (inb_of g28)),qc 11 [75,76,77,81] 6 (qIX (Rect.mk a1.Frame.X (v14.1.getD x19.toNat default)) a2 a3 (v14.2.1.getD x19.toNat default) v29 h30)] [0,1,3,0,15,0,0,0,0,384,896,2047,4095] 6 [11,12,70] [(83,vb (!v29))] [5] [] ?_;refine q_cm hm (λb31 hm=>?_) (λb31 hm=>?_)
     ·refine s_vn [] 6 ⟨[(6,vb false)],[]⟩ ?_;obtain rfl:=oi hm;refine q_rt ?_;refine qT false ?_;exact q_rm
     ·refine q_sk ?_;refine q_vu [] 6 [45,83] [(45,vi (w64 (x19+1)))] [] [] ?_;exact q_hl (MD a1 a2 a3 v14 v17 (w64 (x19+1))) (ih (w64 (x19+1)) _ hm)
   ·obtain⟨g22,hm⟩:=qG hm;rcases bif_c hm with⟨b23,hm⟩|⟨b23,hm⟩
    ·refine q_vu [qd 9 (Dir.none) (qC3 g22),qf 11 b23] 6 [] [(70,vb true)] [] [] ?_;exact q_J (true) hm
    ·obtain⟨v24,h25,hm⟩:=qA hm;refine q_vu [qd 9 (Dir.none) (qC3 g22),qf 11 b23,qd 18 (dex (cen [] [] 6 0 (LJ v24) (WF v24) [61,62,67] [4])) (wJ (K:=(kx E 85 0)) (b:=false) ⟨[(61,vb false),(62,vo 4 0 1 v17.length),(67,vi (w64 (((v14.1.getD x19.toNat default).B)-((v14.1.getD x19.toNat default).A))))],[(4,ro 0 3 1 v17.length (rf e_i64 v17))]⟩ (opAt (rg Tryz.f22 129636) 18) [] [] 6 (o1 (Nat.le_refl v17.length)) rfl (qCc v17 (w64 (((v14.1.getD x19.toNat default).B)-((v14.1.getD x19.toNat default).A))) v24 h25) (.inr ⟨(by kernel_rfl),qDb v24⟩) (by kernel_rfl))] 6 [] [(70,vb (!v24))] [] [] ?_
     exact q_J (!v24) hm
  ·refine q_ex 0 ?_;obtain rfl:=oi hm;exact wB () (by kernel_rfl) (by kernel_rfl)
theorem plan_Member_ok (a1:Pattern) (a2:List Product) (a3:Saw) (r:Bool) (hm:LD a1 a2 a3=some r):CtX Tryz.prog globs 22 0 0 [.agg (CC a1),.one (tl qC default a2),.agg (qX a3)] [] (MA r) (XT r):=by
 unfold LD at hm;refine q_E Tryz.f22 85 λE=>?_;refine s_vn [] 0 ⟨[(1,vc (tl qC default a2)),(3,vp 0 0),(5,vp 1 0)],[(0,bx 46 (CC a1)),(1,bx 38 (qX a3))]⟩ ?_;refine q_sq ?_;refine q_jn (ι:=Bool) (λp=>qB2 a1 a2 a3 p) (λp=>NO a1 a2 a3 p=some r) ?_ ?_
 ·rintro x12 hm;show H _ (qB2 a1 a2 a3 x12) _ _;refine q_cm hm (λb13 hm=>?_) (λb13 hm=>?_)
  ·refine s_vn [] 2 ⟨[(6,vb false)],[]⟩ ?_;obtain rfl:=oi hm;refine q_rt ?_;exact q_rm
  ·refine q_sk ?_;obtain⟨v14,h15,hm⟩:=qA hm;refine s_vu [qk 6 [30,32,34] 2 ⟨[(30,va (qH a1.Frame)),(32,vi a3.Kerf),(34,vc (tl e_Node default a1.Nodes))],[]⟩ (qHc a1.Frame 3 a3.Kerf a1.Nodes v14 h15)] 2 [27] [(7,vo 2 0 2 v14.1.length),(8,vo 3 0 1 v14.2.1.length),(9,vb v14.2.2)] [] [(2,ro 0 31 2 v14.1.length (rf e_Span v14.1)),(3,ro 0 44 1 v14.2.1.length (rf (qD e_Node) v14.2.1))] ?_;refine q_sq ?_;refine s_vu [] 4 [9] [(40,vb (!v14.2.2))] [] [] ?_;refine q_cm hm (λb16 hm=>?_) (λb16 hm=>?_)
   ·refine s_vn [] 4 ⟨[(6,vb false)],[]⟩ ?_;obtain rfl:=oi hm;refine q_rt ?_;exact q_rm
   ·refine q_sk ?_;obtain⟨v17,h18,hm⟩:=qA hm;refine s_vu [qc 1 [41] 4 (JB a2 v17 h18)] 4 [40] [(10,vo 4 0 1 v17.length)] [] [(4,ro 0 3 1 v17.length (rf e_i64 v17))] ?_;refine q_sq ?_;refine s_vu [] 5 [7] [(43,vo 2 0 2 v14.1.length),(44,vi ((v14.1.length:Nat):Int)),(45,vi 0)] [] [] ?_;obtain⟨u34,h33,hm⟩:=qA hm;refine zA (nd Tryz.f22 1012) 0 (by kernel_rfl) FUEL (λo=>qBg) (λv st=>RetQ Tryz.prog Tryz.f22 (MA v) (XT v) .ret st) u34 (q_hl (MD a1 a2 a3 v14 v17 0) (qG4 E a1 a2 a3 v14 v17 FUEL 0 u34 h33)) ?_ ?_
    ·rintro v35 rfl st hr;obtain rfl:=oi hm;exact hr
    ·rintro o32 rfl;replace hm:_=some r:=hm;refine s_vn [] 5 ⟨[(6,vb true)],[]⟩ ?_;obtain rfl:=oi hm;refine q_rt ?_;exact q_rm
 ·obtain⟨v4,h5,hm⟩:=qA hm;rcases bif_c hm with⟨b6,hm⟩|⟨b6,hm⟩
  ·refine q_vu [qc 1 [13] 2 (wV a2 v4 h5),qf 3 b6] 2 [] [(27,vb true)] [] [] ?_;exact q_J (true) hm
  ·obtain⟨v7,h8,hm⟩:=qA hm;rcases bif_c hm with⟨b9,hm⟩|⟨b9,hm⟩
   ·refine q_vu [qc 1 [13] 2 (wV a2 v4 h5),qf 3 b6,qk 6 [16,17,18] 2 ⟨[(16,vb false),(17,va (qX a3)),(18,va [ci 0,ci 0,ci 0])],[]⟩ (NN a3 (Rates.mk 0 0 0) v7 h8),qf 9 b9] 2 [] [(27,vb true)] [] [] ?_;exact q_J (true) hm
   ·obtain⟨v10,h11,hm⟩:=qA hm;refine q_vu [qc 1 [13] 2 (wV a2 v4 h5),qf 3 b6,qk 6 [16,17,18] 2 ⟨[(16,vb false),(17,va (qX a3)),(18,va [ci 0,ci 0,ci 0])],[]⟩ (NN a3 (Rates.mk 0 0 0) v7 h8),qf 9 b9,qk 12 [22,24] 2 ⟨[(22,vb false),(24,va (qH a1.Frame))],[]⟩ (IU a1.Frame v10 h11)] 2 [] [(27,vb (v10 !=0))] [] [] ?_;exact q_J (v10 !=0) hm
def qLI (r:Bool):V:=vb r
def qL4 (r:Bool):List (Nat×(Nat×O)):=[]
def qBS (x5:Bool):St:=
 ⟨[(2,vb x5)],[]⟩
theorem AG (a1:Product) (r:Bool) (hm:IR a1=some r):CtX Tryz.prog globs 81 0 0 [.agg (qC a1)] [] (qLI r) (qL4 r):=by
 unfold IR at hm;refine q_E Tryz.f81 21 λE=>?_;refine s_vn [] 0 ⟨[(1,vp 0 0)],[(0,bx 54 (qC a1))]⟩ ?_;refine q_jn (ι:=Bool) (λp=>qBS p) (λp=>YS p=some r) ?_ ?_
 ·rintro x5 hm;show H _ (qBS x5) _ _;obtain rfl:=oi hm;refine q_rt ?_;exact q_rm
 ·rcases bif_c hm with⟨b2,hm⟩|⟨b2,hm⟩
  ·rcases bif_c hm with⟨b3,hm⟩|⟨b3,hm⟩
   ·rcases bif_c hm with⟨b4,hm⟩|⟨b4,hm⟩
    ·refine q_vn [qf 3 b2,qf 8 b3,qf 13 b4] 1 ⟨[(2,vb (decide (a1.Width<=600)))],[]⟩ ?_;exact q_J (decide (a1.Width<=600)) hm
    ·refine q_vn [qf 3 b2,qf 8 b3,qf 13 b4] 1 ⟨[(2,vb false)],[]⟩ ?_;exact q_J (false) hm
   ·refine q_vn [qf 3 b2,qf 8 b3] 1 ⟨[(2,vb false)],[]⟩ ?_;exact q_J (false) hm
  ·refine q_vn [qf 3 b2] 1 ⟨[(2,vb false)],[]⟩ ?_;exact q_J (false) hm
def qL6 (r:Int×Int):V:= .tup [.one (ci r.1),.one (ci r.2)]
def qLT (r:Int×Int):List (Nat×(Nat×O)):=[]
def qBp (a1:Product) (x6:Bool):St:=
 ⟨[(1,vp 0 0),(16,vb x6)],[(0,bx 54 (qC a1))]⟩
theorem qDv (a1:Product) (r:Int×Int) (hm:PE a1=some r):CtX Tryz.prog globs 35 0 0 [.agg (qC a1)] [] (qL6 r) (qLT r):=by
 unfold PE at hm;refine q_E Tryz.f35 33 λE=>?_;refine s_vn [] 0 ⟨[(1,vp 0 0)],[(0,bx 54 (qC a1))]⟩ ?_;refine q_sq ?_;refine q_jn (ι:=Bool) (λp=>qBp a1 p) (λp=>RF a1 p=some r) ?_ ?_
 ·rintro x6 hm;show H _ (qBp a1 x6) _ _;refine q_cm hm (λb7 hm=>?_) (λb7 hm=>?_)
  ·refine s_vn [] 1 ⟨[(2,vi 0),(3,vi 0)],[]⟩ ?_;obtain rfl:=oi hm;refine q_rt ?_;exact q_rm
  ·refine q_sk ?_;refine s_dn [qd 7 (Dir.none) (show(1000:Int)≠0 by decide),qd 15 (Dir.none) (show(1000:Int)≠0 by decide)] [0,1,0,4,12,31,63,127,0,256,0,1024,3072,7936,16128,32512,255,131071] 1 ⟨[(2,vi (w64 (Int.tdiv (w64 ((w64 (a1.Thick*(w64 (1000+a1.Allow))))+999)) 1000))),(3,vi (w64 (Int.tdiv (w64 ((w64 (a1.Width*(w64 (1000+a1.Allow))))+999)) 1000)))],[]⟩ ?_;obtain rfl:=oi hm;refine q_rt ?_;exact q_rm
 ·obtain⟨v2,h3,hm⟩:=qA hm;rcases bif_c hm with⟨b4,hm⟩|⟨b4,hm⟩
  ·refine q_vu [qc 1 [4] 1 (AG a1 v2 h3),qf 3 b4] 1 [] [(16,vb true)] [] [] ?_;exact q_J (true) hm
  ·rcases bif_c hm with⟨b5,hm⟩|⟨b5,hm⟩
   ·refine q_vu [qc 1 [4] 1 (AG a1 v2 h3),qf 3 b4,qf 8 b5] 1 [] [(16,vb true)] [] [] ?_;exact q_J (true) hm
   ·refine q_vu [qc 1 [4] 1 (AG a1 v2 h3),qf 3 b4,qf 8 b5] 1 [] [(16,vb (decide (a1.Allow>200)))] [] [] ?_;exact q_J (decide (a1.Allow>200)) hm
def qDh (r:(List Int)):V:=vo 0 0 1 r.length
def LN (r:(List Int)):List (Nat×(Nat×O)):=[(0,ro 0 3 1 r.length (rf e_i64 r))]
theorem qHf (r:(List Int)):jU (LN r):=by
 intro i k o h;unfold LN at h;rw[look_cons] at h;split at h
 ·cases h;exact λ_ _=>rfl
 ·cases h
def qDD (a1:List Int) (a2:Int) (x5:Int) (l15:List Int) (l15n:Nat) (x16:Bool):St:=
 ⟨[(0,vc (tl e_i64 default a1)),(1,vi a2),(5,vo 0 0 1 l15n),(6,vb x16),(7,vi x5)],[(0,ro 0 3 1 l15n (rf e_i64 l15))]⟩
def qEg (a1:List Int) (a2:Int) (x5:Int) (l14:List Int) (l14n:Nat):St:=
 ⟨[(0,vc (tl e_i64 default a1)),(1,vi a2),(5,vo 0 0 1 l14n),(7,vi x5)],[(0,ro 0 3 1 l14n (rf e_i64 l14))]⟩
def qD0 (a1:List Int) (a2:Int) (l3:List Int) (x4:Bool) (x5:Int) (x9:Bool):St:=
 ⟨[(0,vc (tl e_i64 default a1)),(1,vi a2),(5,vo 0 0 1 l3.length),(6,vb x4),(7,vi x5),(23,vb x9)],[(0,ro 0 3 1 l3.length (rf e_i64 l3))]⟩
def EZ (a1:List Int) (a2:Int) (l3:List Int) (l3n:Nat) (x4:Bool) (x5:Int):St:=
 ⟨[(0,vc (tl e_i64 default a1)),(1,vi a2),(5,vo 0 0 1 l3n),(6,vb x4),(7,vi x5)],[(0,ro 0 3 1 l3n (rf e_i64 l3))]⟩
def qDN (a2:Int) (l19:List Int) (x20:Bool):St:=
 ⟨[(1,vi a2),(5,vo 0 0 1 l19.length),(6,vb x20)],[(0,ro 0 3 1 l19.length (rf e_i64 l19))]⟩
def qDL (l25:List Int) (l25n:Nat):St:=
 ⟨[(5,vo 0 0 1 l25n)],[(0,ro 0 3 1 l25n (rf e_i64 l25))]⟩
theorem qJz (E:Env 0) (a1:List Int) (a2:Int):∀(n:Nat) (l3:List Int) (l3n:Nat) (x4:Bool) (x5:Int) (res:(List Int)×Bool),l3.length=l3n->yM a1 a2 n l3 x4 x5=some res->HL (kx E 48 0) (nd Tryz.f36 244) (zI 0 (λo=>qDN a2 o.1 o.2) res) n (EZ a1 a2 l3 l3n x4 x5):=by
 intro n
 induction n with
 |zero=>
  intro l3 l3n x4 x5 res hl0 hm;cases hm
 |succ n ih=>
  intro l3 l3n x4 x5 res hl0 hm;subst hl0;refine qM ?_;refine q_sq ?_;refine s_vu [] 1 [] [(11,vb (decide (x5<((a1.length:Nat):Int))))] [] [] ?_;refine q_cm hm (λb6 hm=>?_) (λb6 hm=>?_)
  ·refine q_sk ?_;refine q_sq ?_;refine q_bk 1 ?_;refine q_jn (ι:=(List Int)×Nat×Bool) (λp=>qDD a1 a2 x5 p.1 p.2.1 p.2.2) (λp=>p.1.length=p.2.1/\DK a1 x5 (yM a1 a2 n) p.1 p.2.2=some res) ?_ ?_
   ·rintro⟨l15,l15n,x16⟩ ⟨el15,hm⟩;replace el15:l15.length=l15n:=el15;subst el15;show H _ (qDD a1 a2 x5 l15 l15.length x16) _ _;obtain⟨g17,hm⟩:=qG hm;obtain⟨g18,hm⟩:=qG hm
    refine q_vu [qd 3 (Dir.none) (inb_of g17),qd 5 (drw 2 0 (rf e_i64 ([(a1.getD x5.toNat default)]:List Int))) (litP e_i64 default 1 (λ_=>rfl) ([(a1.getD x5.toNat default)]:List Int) 1 rfl),qd 6 (drw 0 1 (rf e_i64 (l15++([(a1.getD x5.toNat default)]:List Int)))) (apP e_i64 default l15 ([(a1.getD x5.toNat default)]:List Int) l15.length 1 1 8 (1<=1) (Nat.le_refl _) rfl rfl (λ_=>rfl) (zL g18))] 2 [5] [(5,vo 0 1 1 (l15.length+1))] [0] [(0,ro 1 3 1 (l15.length+1) (rf e_i64 (l15++([(a1.getD x5.toNat default)]:List Int))))] ?_;refine q_vu [] 3 [7] [(7,vi (w64 (x5+1)))] [] [] ?_
    exact q_hl (EZ a1 a2 (l15++([(a1.getD x5.toNat default)]:List Int)) (l15.length+1) x16 (w64 (x5+1))) (ih (l15++([(a1.getD x5.toNat default)]:List Int)) (l15.length+1) x16 (w64 (x5+1)) _ (len_app rfl rfl) hm)
   ·refine q_jn (ι:=Bool) (λp=>qD0 a1 a2 l3 x4 x5 p) (λp=>DJ a1 a2 l3 x4 x5 (yM a1 a2 n) p=some res) ?_ ?_
    ·rintro x9 hm;show H _ (qD0 a1 a2 l3 x4 x5 x9) _ _;refine q_cm hm (λb10 hm=>?_) (λb10 hm=>?_)
     ·refine q_jn (ι:=(List Int)×Nat) (λp=>qEg a1 a2 x5 p.1 p.2) (λp=>p.1.length=p.2/\HU a1 x5 (yM a1 a2 n) p.1=some res) ?_ ?_
      ·rintro⟨l14,l14n⟩ ⟨el14,hm⟩;replace el14:l14.length=l14n:=el14;subst el14;show H _ (qEg a1 a2 x5 l14 l14.length) _ _;refine q_vu [] 2 [] [(6,vb true)] [] [] ?_;exact q_J (l14,l14.length,true) ⟨rfl,hm⟩
      ·obtain⟨g11,hm⟩:=qG hm;refine s_vu [qd 2 (Dir.none) (inb_of g11)] 1 [6,23] [(29,vb (decide ((a1.getD x5.toNat default)>a2)))] [] [] ?_;refine q_cm hm (λb12 hm=>?_) (λb12 hm=>?_)
       ·obtain⟨g13,hm⟩:=qG hm;refine q_vu [qd 2 (drw 1 0 (rf e_i64 ([a2]:List Int))) (litP e_i64 default 1 (λ_=>rfl) ([a2]:List Int) 1 rfl),qd 3 (drw 0 1 (rf e_i64 (l3++([a2]:List Int)))) (apP e_i64 default l3 ([a2]:List Int) l3.length 1 1 8 (1<=1) (Nat.le_refl _) rfl rfl (λ_=>rfl) (zL g13))] 1 [5,29] [(5,vo 0 1 1 (l3.length+1))] [0] [(0,ro 1 3 1 (l3.length+1) (rf e_i64 (l3++([a2]:List Int))))] ?_;exact q_J ((l3++([a2]:List Int)),(l3.length+1)) ⟨(len_app rfl rfl),hm⟩
       ·refine q_sk ?_;exact q_J (l3,l3.length) ⟨rfl,hm⟩
     ·refine q_sk ?_;exact q_J (l3,l3.length,x4) ⟨rfl,hm⟩
    ·rcases bif_c hm with⟨b7,hm⟩|⟨b7,hm⟩
     ·obtain⟨g8,hm⟩:=qG hm;refine q_vu [qf 2 b7,qd 5 (Dir.none) (inb_of g8)] 1 [11] [(23,vb (decide ((a1.getD x5.toNat default)≥a2)))] [] [] ?_;exact q_J (decide ((a1.getD x5.toNat default)≥a2)) hm
     ·refine q_vu [qf 2 b7] 1 [11] [(23,vb false)] [] [] ?_;exact q_J (false) hm
  ·refine q_ex 0 ?_;obtain rfl:=oi hm;exact wD (by kernel_rfl) (by kernel_rfl)
theorem qFp (a1:List Int) (a2:Int) (r:(List Int)) (hm:HP a1 a2=some r):CtX Tryz.prog globs 36 0 0 [.one (tl e_i64 default a1),.one (ci a2)] [] (qDh r) (LN r):=by
 unfold HP at hm;refine q_E Tryz.f36 48 λE=>?_;refine s_vn [] 0 ⟨[(0,vc (tl e_i64 default a1)),(1,vi a2)],[]⟩ ?_;refine s_vu [] 0 [] [(5,vc (.emp))] [] [] ?_;refine s_vu [] 0 [] [(6,vb false)] [] [] ?_;refine q_sq ?_;refine s_vu [] 0 [] [(7,vi 0)] [] [] ?_;refine q_fn [.own 5 0 3 1 (rf e_i64 ([]:List Int))] ⟨[(0,vc (tl e_i64 default a1)),(1,vi a2),(5,vo 0 0 1 0),(6,vb false),(7,vi 0)],[(0,ro 0 3 1 0 (rf e_i64 ([]:List Int)))]⟩ o0 ?_;obtain⟨o21,h22,hm⟩:=qA hm
 refine zD (nd Tryz.f36 244) 0 (by kernel_rfl) FUEL (λo=>qDN a2 o.1 o.2) o21 (q_hl (EZ a1 a2 ([]:List Int) 0 false 0) (qJz E a1 a2 FUEL ([]:List Int) 0 false 0 o21 rfl h22)) ?_;refine q_jn (ι:=(List Int)×Nat) (λp=>qDL p.1 p.2) (λp=>p.1.length=p.2/\EJ p.1=some r) ?_ ?_
 ·rintro⟨l25,l25n⟩ ⟨el25,hm⟩;replace el25:l25.length=l25n:=el25;subst el25;show H _ (qDL l25 l25.length) _ _;refine s_vu [] 2 [5] [(4,vo 0 0 1 l25.length)] [] [] ?_;obtain rfl:=oi hm;refine q_rt ?_;exact q_rm
 ·refine s_vu [] 1 [6] [(42,vb (!o21.2))] [] [] ?_;refine q_cm hm (λb23 hm=>?_) (λb23 hm=>?_)
  ·obtain⟨g24,hm⟩:=qG hm;refine q_vn [qd 2 (drw 1 0 (rf e_i64 ([a2]:List Int))) (litP e_i64 default 1 (λ_=>rfl) ([a2]:List Int) 1 rfl),qd 3 (drw 0 1 (rf e_i64 (o21.1++([a2]:List Int)))) (apP e_i64 default o21.1 ([a2]:List Int) o21.1.length 1 1 8 (1<=1) (Nat.le_refl _) rfl rfl (λ_=>rfl) (zL g24))] 1 ⟨[(5,vo 0 1 1 (o21.1.length+1))],[(0,ro 1 3 1 (o21.1.length+1) (rf e_i64 (o21.1++([a2]:List Int))))]⟩ ?_;exact q_J ((o21.1++([a2]:List Int)),(o21.1.length+1)) ⟨(len_app rfl rfl),hm⟩
  ·refine q_sk ?_;exact q_J (o21.1,o21.1.length) ⟨rfl,hm⟩
def qLG (r:Bool):V:=vb r
def qL5 (r:Bool):List (Nat×(Nat×O)):=[]
def qBX (x3:Bool):St:=
 ⟨[(2,vb x3)],[]⟩
theorem qKt (a1:Int) (r:Bool) (hm:LF a1=some r):CtX Tryz.prog globs 142 0 0 [.one (.val (.int .u8 a1))] [] (qLG r) (qL5 r):=by
 unfold LF at hm;refine q_E Tryz.f142 9 λE=>?_;refine s_vn [] 0 ⟨[(0,vc (.val (.int .u8 a1)))],[]⟩ ?_;refine q_jn (ι:=Bool) (λp=>qBX p) (λp=>NM p=some r) ?_ ?_
 ·rintro x3 hm;show H _ (qBX x3) _ _;obtain rfl:=oi hm;refine q_rt ?_;exact q_rm
 ·rcases bif_c hm with⟨b2,hm⟩|⟨b2,hm⟩
  ·refine q_vn [qf 2 b2] 0 ⟨[(2,vb (decide (a1<=57)))],[]⟩ ?_;exact q_J (decide (a1<=57)) hm
  ·refine q_vn [qf 2 b2] 0 ⟨[(2,vb false)],[]⟩ ?_;exact q_J (false) hm
def AI (r:Bool):V:=vb r
def AY (r:Bool):List (Nat×(Nat×O)):=[]
def qAp (a1:ByteArray) (x5:Int) (x16:Bool):St:=
 ⟨[(0,vc (cs a1)),(3,vi x5),(47,vb x16)],[]⟩
def qAf (a1:ByteArray) (x5:Int) (x9:Bool):St:=
 ⟨[(0,vc (cs a1)),(3,vi x5),(4,vb x9)],[]⟩
def FK (a1:ByteArray) (x5:Int):St:=
 ⟨[(0,vc (cs a1)),(3,vi x5)],[]⟩
def qAh :St:=
 ⟨[],[]⟩
def qAQ (a1:ByteArray) (x3:Bool):St:=
 ⟨[(0,vc (cs a1)),(12,vb x3)],[]⟩
theorem qFm (E:Env 0) (a1:ByteArray):∀(n:Nat) (x5:Int) (res:Bool⊕Unit),wQ a1 n x5=some res->HL (kx E 48 0) (nd Tryz.f79 116) (zV 0 (λo=>qAh) (λv st=>RetQ Tryz.prog Tryz.f79 (AI v) (AY v) .ret st) res) n (FK a1 x5):=by
 intro n
 induction n with
 |zero=>
  intro x5 res hm;cases hm
 |succ n ih=>
  intro x5 res hm;refine qM ?_;refine q_sq ?_;refine s_vu [] 0 [] [(16,vb (decide (x5<((a1.size:Nat):Int))))] [] [] ?_;refine q_cm hm (λb6 hm=>?_) (λb6 hm=>?_)
  ·refine q_sk ?_;refine q_sq ?_;refine q_bk 1 ?_;refine q_jn (ι:=Bool) (λp=>qAf a1 x5 p) (λp=>GF a1 x5 (wQ a1 n) p=some res) ?_ ?_
   ·rintro x9 hm;show H _ (qAf a1 x5 x9) _ _;refine q_jn (ι:=Bool) (λp=>qAp a1 x5 p) (λp=>JC x5 (wQ a1 n) p=some res) ?_ ?_
    ·rintro x16 hm;show H _ (qAp a1 x5 x16) _ _;refine q_cm hm (λb17 hm=>?_) (λb17 hm=>?_)
     ·refine s_vn [] 0 ⟨[(2,vb false)],[]⟩ ?_;obtain rfl:=oi hm;refine q_rt ?_;refine qT false ?_;exact q_rm
     ·refine q_sk ?_;refine q_vu [] 0 [3,47] [(3,vi (w64 (x5+1)))] [] [] ?_;exact q_hl (FK a1 (w64 (x5+1))) (ih (w64 (x5+1)) _ hm)
    ·rcases bif_c hm with⟨b10,hm⟩|⟨b10,hm⟩
     ·rcases bif_c hm with⟨b11,hm⟩|⟨b11,hm⟩
      ·refine q_vu [qf 2 b10,qf 5 b11] 0 [4] [(47,vb true)] [] [] ?_;exact q_J (true) hm
      ·obtain⟨g12,hm⟩:=qG hm;rcases bif_c hm with⟨b13,hm⟩|⟨b13,hm⟩
       ·obtain⟨v14,h15,hm⟩:=qA hm;refine q_vu [qf 2 b10,qf 5 b11,qd 8 (Dir.none) (inb_of g12),qf 10 b13,qd 13 (Dir.none) (inb_of g12),qk 14 [39,42] 0 ⟨[(39,vb true),(42,vc (.val (.int .u8 (strAt a1 x5.toNat))))],[]⟩ (qKt (strAt a1 x5.toNat) v14 h15)] 0 [4] [(47,vb (!v14))] [] [] ?_;exact q_J (!v14) hm
       ·refine q_vu [qf 2 b10,qf 5 b11,qd 8 (Dir.none) (inb_of g12),qf 10 b13] 0 [4] [(47,vb false)] [] [] ?_;exact q_J (false) hm
     ·refine q_vu [qf 2 b10] 0 [4] [(47,vb false)] [] [] ?_;exact q_J (false) hm
   ·obtain⟨g7,hm⟩:=qG hm;rcases bif_c hm with⟨b8,hm⟩|⟨b8,hm⟩
    ·refine q_vu [qd 2 (Dir.none) (inb_of g7),qf 4 b8,qd 7 (Dir.none) (inb_of g7)] 0 [16] [(4,vb (decide ((strAt a1 x5.toNat)<=122)))] [] [] ?_;exact q_J (decide ((strAt a1 x5.toNat)<=122)) hm
    ·refine q_vu [qd 2 (Dir.none) (inb_of g7),qf 4 b8] 0 [16] [(4,vb false)] [] [] ?_;exact q_J (false) hm
  ·refine q_ex 0 ?_;obtain rfl:=oi hm;exact wB () (by kernel_rfl) (by kernel_rfl)
theorem qIm (a1:ByteArray) (r:Bool) (hm:DO a1=some r):CtX Tryz.prog globs 79 0 0 [.one (cs a1)] [] (AI r) (AY r):=by
 unfold DO at hm;refine q_E Tryz.f79 48 λE=>?_;refine s_vn [] 0 ⟨[(0,vc (cs a1))],[]⟩ ?_;refine q_sq ?_;refine q_jn (ι:=Bool) (λp=>qAQ a1 p) (λp=>GN a1 p=some r) ?_ ?_
 ·rintro x3 hm;show H _ (qAQ a1 x3) _ _;refine q_cm hm (λb4 hm=>?_) (λb4 hm=>?_)
  ·refine s_vn [] 0 ⟨[(2,vb false)],[]⟩ ?_;obtain rfl:=oi hm;refine q_rt ?_;exact q_rm
  ·refine q_sk ?_;refine q_sq ?_;refine s_vu [] 0 [12] [(3,vi 0)] [] [] ?_;obtain⟨u20,h19,hm⟩:=qA hm;refine zA (nd Tryz.f79 116) 0 (by kernel_rfl) FUEL (λo=>qAh) (λv st=>RetQ Tryz.prog Tryz.f79 (AI v) (AY v) .ret st) u20 (q_hl (FK a1 0) (qFm E a1 FUEL 0 u20 h19)) ?_ ?_
   ·rintro v21 rfl st hr;obtain rfl:=oi hm;exact hr
   ·rintro o18 rfl;replace hm:_=some r:=hm;refine s_vn [] 0 ⟨[(2,vb true)],[]⟩ ?_;obtain rfl:=oi hm;refine q_rt ?_;exact q_rm
 ·rcases bif_c hm with⟨b2,hm⟩|⟨b2,hm⟩
  ·refine q_vu [qf 3 b2] 0 [] [(12,vb true)] [] [] ?_;exact q_J (true) hm
  ·refine q_vu [qf 3 b2] 0 [] [(12,vb (decide (((a1.size:Nat):Int)>16)))] [] [] ?_;exact q_J (decide (((a1.size:Nat):Int)>16)) hm
def QO (r:Int):V:=vi r
def QV (r:Int):List (Nat×(Nat×O)):=[]
def FC (a1:Product) (x5:Int) (x14:Bool):St:=
 ⟨[(1,vp 0 0),(3,vi x5),(56,vb x14)],[(0,bx 54 (qC a1))]⟩
def FB (a1:Product) (x5:Int) (x9:Bool):St:=
 ⟨[(1,vp 0 0),(3,vi x5),(40,vb x9)],[(0,bx 54 (qC a1))]⟩
def XO (a1:Product) (x5:Int):St:=
 ⟨[(1,vp 0 0),(3,vi x5)],[(0,bx 54 (qC a1))]⟩
def NY (a1:Product):St:=
 ⟨[(1,vp 0 0)],[(0,bx 54 (qC a1))]⟩
def NX (a1:Product) (x20:Int) (x24:Bool):St:=
 ⟨[(1,vp 0 0),(4,vi x20),(77,vb x24)],[(0,bx 54 (qC a1))]⟩
def XN (a1:Product) (x20:Int):St:=
 ⟨[(1,vp 0 0),(4,vi x20)],[(0,bx 54 (qC a1))]⟩
def FA :St:=
 ⟨[],[]⟩
theorem qBa (E:Env 0) (a1:Product):∀(n:Nat) (x5:Int) (res:Int⊕Unit),zJ a1 n x5=some res->HL (kx E 78 0) (nd Tryz.f80 500) (zV 0 (λo=>NY a1) (λv st=>RetQ Tryz.prog Tryz.f80 (QO v) (QV v) .ret st) res) n (XO a1 x5):=by
 intro n
 induction n with
 |zero=>
  intro x5 res hm;cases hm
 |succ n ih=>
  intro x5 res hm;refine qM ?_;refine q_sq ?_;refine s_vu [] 1 [] [(24,vb (decide (x5<((a1.Lengths.length:Nat):Int))))] [] [] ?_;refine q_cm hm (λb6 hm=>?_) (λb6 hm=>?_)
  ·refine q_sk ?_;refine q_sq ?_;refine q_bk 1 ?_;refine q_sq ?_;refine q_jn (ι:=Bool) (λp=>FB a1 x5 p) (λp=>JN a1 x5 (zJ a1 n) p=some res) ?_ ?_
   ·rintro x9 hm;show H _ (FB a1 x5 x9) _ _;refine q_cm hm (λb10 hm=>?_) (λb10 hm=>?_)
    ·refine s_vn [] 1 ⟨[(2,vi 9)],[]⟩ ?_;obtain rfl:=oi hm;refine q_rt ?_;refine qT 9 ?_;exact q_rm
    ·refine q_sk ?_;refine q_jn (ι:=Bool) (λp=>FC a1 x5 p) (λp=>JG x5 (zJ a1 n) p=some res) ?_ ?_
     ·rintro x14 hm;show H _ (FC a1 x5 x14) _ _;refine q_cm hm (λb15 hm=>?_) (λb15 hm=>?_)
      ·refine s_vn [] 1 ⟨[(2,vi 11)],[]⟩ ?_;obtain rfl:=oi hm;refine q_rt ?_;refine qT 11 ?_;exact q_rm
      ·refine q_sk ?_;refine q_vu [] 1 [3,56] [(3,vi (w64 (x5+1)))] [] [] ?_;exact q_hl (XO a1 (w64 (x5+1))) (ih (w64 (x5+1)) _ hm)
     ·rcases bif_c hm with⟨b11,hm⟩|⟨b11,hm⟩
      ·obtain⟨g12,hm⟩:=qG hm;obtain⟨g13,hm⟩:=qG hm;refine q_du [qf 2 b11,qd 6 (Dir.none) (inb_of g12),qd 12 (Dir.none) (inb_of g13)] [0,1,3,7,15,7,63,127,7,263,7,1031,3847,7943,16383,32767] 1 [40] [(56,vb (decide ((a1.Lengths.getD x5.toNat default)<=(a1.Lengths.getD (w64 (x5-1)).toNat default))))] [] [] ?_;exact q_J (decide ((a1.Lengths.getD x5.toNat default)<=(a1.Lengths.getD (w64 (x5-1)).toNat default))) hm
      ·refine q_du [qf 2 b11] [0,1,3,7,15,7,63,127,7,263,7,1031,3847,7943,16383,32767] 1 [40] [(56,vb false)] [] [] ?_;exact q_J (false) hm
   ·obtain⟨g7,hm⟩:=qG hm;rcases bif_c hm with⟨b8,hm⟩|⟨b8,hm⟩
    ·refine q_vu [qd 3 (Dir.none) (inb_of g7),qf 6 b8] 1 [24] [(40,vb true)] [] [] ?_;exact q_J (true) hm
    ·refine q_vu [qd 3 (Dir.none) (inb_of g7),qf 6 b8,qd 10 (Dir.none) (inb_of g7)] 1 [24] [(40,vb (decide ((a1.Lengths.getD x5.toNat default)>20000)))] [] [] ?_;exact q_J (decide ((a1.Lengths.getD x5.toNat default)>20000)) hm
  ·refine q_ex 0 ?_;obtain rfl:=oi hm;exact wB () (by kernel_rfl) (by kernel_rfl)
theorem qBJ (E:Env 0) (a1:Product):∀(n:Nat) (x20:Int) (res:Int⊕Unit),zR a1 n x20=some res->HL (kx E 78 0) (nd Tryz.f80 1012) (zV 2 (λo=>FA) (λv st=>RetQ Tryz.prog Tryz.f80 (QO v) (QV v) .ret st) res) n (XN a1 x20):=by
 intro n
 induction n with
 |zero=>
  intro x20 res hm;cases hm
 |succ n ih=>
  intro x20 res hm;refine qM ?_;refine q_sq ?_;refine s_vu [] 1 [] [(61,vb (decide (x20<((a1.Prices.length:Nat):Int))))] [] [] ?_;refine q_cm hm (λb21 hm=>?_) (λb21 hm=>?_)
  ·refine q_sk ?_;refine q_sq ?_;refine q_bk 3 ?_;refine q_jn (ι:=Bool) (λp=>NX a1 x20 p) (λp=>JF x20 (zR a1 n) p=some res) ?_ ?_
   ·rintro x24 hm;show H _ (NX a1 x20 x24) _ _;refine q_cm hm (λb25 hm=>?_) (λb25 hm=>?_)
    ·refine s_vn [] 1 ⟨[(2,vi 9)],[]⟩ ?_;obtain rfl:=oi hm;refine q_rt ?_;refine qT 9 ?_;exact q_rm
    ·refine q_sk ?_;refine q_vu [] 1 [4,77] [(4,vi (w64 (x20+1)))] [] [] ?_;exact q_hl (XN a1 (w64 (x20+1))) (ih (w64 (x20+1)) _ hm)
   ·obtain⟨g22,hm⟩:=qG hm;rcases bif_c hm with⟨b23,hm⟩|⟨b23,hm⟩
    ·refine q_vu [qd 3 (Dir.none) (inb_of g22),qf 6 b23] 1 [61] [(77,vb true)] [] [] ?_;exact q_J (true) hm
    ·refine q_vu [qd 3 (Dir.none) (inb_of g22),qf 6 b23,qd 10 (Dir.none) (inb_of g22)] 1 [61] [(77,vb (decide ((a1.Prices.getD x20.toNat default)>1000000)))] [] [] ?_;exact q_J (decide ((a1.Prices.getD x20.toNat default)>1000000)) hm
  ·refine q_ex 2 ?_;obtain rfl:=oi hm;exact wB () (by kernel_rfl) (by kernel_rfl)
theorem qDw (a1:Product) (r:Int) (hm:WN a1=some r):CtX Tryz.prog globs 80 0 0 [.agg (qC a1)] [] (QO r) (QV r):=by
 unfold WN at hm;refine q_E Tryz.f80 78 λE=>?_;refine s_vn [] 0 ⟨[(1,vp 0 0)],[(0,bx 54 (qC a1))]⟩ ?_;refine q_sq ?_;refine s_vu [] 1 [] [(8,vb (((a1.Lengths.length:Nat):Int)==0))] [] [] ?_;refine q_cm hm (λb2 hm=>?_) (λb2 hm=>?_)
 ·refine s_vn [] 1 ⟨[(2,vi 3)],[]⟩ ?_;obtain rfl:=oi hm;refine q_rt ?_;exact q_rm
 ·refine q_sk ?_;refine q_sq ?_;refine s_vu [] 1 [8] [(12,vb (decide (((a1.Lengths.length:Nat):Int)>8)))] [] [] ?_;refine q_cm hm (λb3 hm=>?_) (λb3 hm=>?_)
  ·refine s_vn [] 1 ⟨[(2,vi 4)],[]⟩ ?_;obtain rfl:=oi hm;refine q_rt ?_;exact q_rm
  ·refine q_sk ?_;refine q_sq ?_;refine s_vu [] 1 [12] [(19,vb (((a1.Prices.length:Nat):Int) !=((a1.Lengths.length:Nat):Int)))] [] [] ?_;refine q_cm hm (λb4 hm=>?_) (λb4 hm=>?_)
   ·refine s_vn [] 1 ⟨[(2,vi 19)],[]⟩ ?_;obtain rfl:=oi hm;refine q_rt ?_;exact q_rm
   ·refine q_sk ?_;refine q_sq ?_;refine s_vu [] 1 [19] [(3,vi 0)] [] [] ?_;obtain⟨u18,h17,hm⟩:=qA hm;refine zA (nd Tryz.f80 500) 0 (by kernel_rfl) FUEL (λo=>NY a1) (λv st=>RetQ Tryz.prog Tryz.f80 (QO v) (QV v) .ret st) u18 (q_hl (XO a1 0) (qBa E a1 FUEL 0 u18 h17)) ?_ ?_
    ·rintro v19 rfl st hr;obtain rfl:=oi hm;exact hr
    ·rintro o16 rfl;replace hm:_=some r:=hm;refine q_sq ?_;refine s_vu [] 1 [] [(4,vi 0)] [] [] ?_;obtain⟨u28,h27,hm⟩:=qA hm;refine zA (nd Tryz.f80 1012) 2 (by kernel_rfl) FUEL (λo=>FA) (λv st=>RetQ Tryz.prog Tryz.f80 (QO v) (QV v) .ret st) u28 (q_hl (XN a1 0) (qBJ E a1 FUEL 0 u28 h27)) ?_ ?_
     ·rintro v29 rfl st hr;obtain rfl:=oi hm;exact hr
     ·rintro o26 rfl;replace hm:_=some r:=hm;refine s_vn [] 1 ⟨[(2,vi 0)],[]⟩ ?_;obtain rfl:=oi hm;refine q_rt ?_;exact q_rm
end Saw
end Go.SL

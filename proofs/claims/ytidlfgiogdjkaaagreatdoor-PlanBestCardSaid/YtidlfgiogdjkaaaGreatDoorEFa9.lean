import Derived.Test.YtidlfgiogdjkaaaGreatDoorEBase
import Derived.Test.YtidlfgiogdjkaaaGreatDoorEFa8
import Derived.Test.YtidlfgiogdjkaaaGreatDoorEFa7
import Derived.Test.YtidlfgiogdjkaaaGreatDoorEFa2
import Derived.Test.YtidlfgiogdjkaaaGreatDoorEFa5
import Derived.Test.YtidlfgiogdjkaaaGreatDoorEFa1
set_option linter.unusedVariables false
set_option linter.unusedSimpArgs false
namespace Go.SL
namespace Saw
open Go.Proofs
set_option maxHeartbeats 4000000
set_option maxRecDepth 100000
def HY (r:Bool):V:=vb r
def PN (r:Bool):List (Nat×(Nat×O)):=[]
theorem qNi (r:Bool):yT (PN r):=by
 intro i k o h;unfold PN at h;cases h
def qAa (a1:Pattern) (a2:List Product) (a3:Saw) (v14:(List Span)×(List (List Node))×Bool) (v17:(List Int)) (x19:Int):St:=
 ⟨[(1,vc (tl qC default a2)),(3,vp 0 0),(5,vp 1 0),(8,vo 3 0 1 v14.2.1.length),(10,vo 4 0 1 v17.length),(43,vo 2 0 2 v14.1.length),(44,vi ((v14.1.length:Nat):Int)),(45,vi x19)],[(0,bx 46 (qD a1)),(1,bx 38 (zB a3)),(2,ro 0 31 2 v14.1.length (rf e_Span v14.1)),(3,ro 0 44 1 v14.2.1.length (rf (qH e_Node) v14.2.1)),(4,ro 0 3 1 v17.length (rf e_i64 v17))]⟩
def qJh (a1:Pattern) (a2:List Product) (a3:Saw) (v14:(List Span)×(List (List Node))×Bool) (v17:(List Int)) (x19:Int) (x26:Bool):St:=
 (qAa a1 a2 a3 v14 v17 x19).up [] [(11,vi x19),(12,vp 5 0),(70,vb x26)] [] [(5,bx 31 [ci ((v14.1.getD x19.toNat default).A),ci ((v14.1.getD x19.toNat default).B)])]
def SM (a1:Pattern) (a2:List Product) (a3:Saw) (v14:(List Span)×(List (List Node))×Bool) (v17:(List Int)) (x19:Int):St:=
 (qAa a1 a2 a3 v14 v17 x19).up [] [] [] []
def qBz :St:=
 ⟨[],[]⟩
def qH7 (a1:Pattern) (a2:List Product) (a3:Saw) (x12:Bool):St:=
 ⟨[(1,vc (tl qC default a2)),(3,vp 0 0),(5,vp 1 0),(27,vb x12)],[(0,bx 46 (qD a1)),(1,bx 38 (zB a3))]⟩
theorem qHm (E:Env 0) (a1:Pattern) (a2:List Product) (a3:Saw) (v14:(List Span)×(List (List Node))×Bool) (v17:(List Int)):∀(n:Nat) (x19:Int) (res:Bool⊕Unit),QV a1 a2 a3 v14 v17 n x19=some res->HL (kx E 85 0) (nd Tryz.f22 1012) (wI 0 (λo=>qBz) (λv st=>RetQ Tryz.prog Tryz.f22 (HY v) (PN v) .ret st) res) n (SM a1 a2 a3 v14 v17 x19):=by
 intro n
 induction n with
 |zero=>
  intro x19 res hm;cases hm
 |succ n ih=>
  intro x19 res hm;refine qM ?_;refine s_va 5 [(46,vb (decide (x19<((v14.1.length:Nat):Int))))] ?_;refine q_sq ?_;refine q_cm hm (λb20 hm=>?_) (λb20 hm=>?_)
  ·refine q_sk ?_;refine q_sq ?_;refine q_bk 1 ?_;obtain⟨g21,hm⟩:=qG hm;refine s_vu [qi 1 g21,qd 2 dN (toNat_lt (inb_of g21))] 5 [46] [(11,vi x19),(12,vp 5 0)] [] [(5,bx 31 [ci ((v14.1.getD x19.toNat default).A),ci ((v14.1.getD x19.toNat default).B)])] ?_;refine q_sq ?_;refine q_jn (qJh a1 a2 a3 v14 v17 x19) (λp=>LD a1 a2 a3 v14 x19 (QV a1 a2 a3 v14 v17 n) p=some res) ?_ ?_
   ·rintro x26 hm;refine q_cm hm (λb27 hm=>?_) (λb27 hm=>?_)
    ·refine s_vn [] 6 ⟨[(6,vb false)],[]⟩ ?_;obtain rfl:=oi hm;refine q_rt ?_;refine qY false ?_;exact q_rm
    ·refine q_sk ?_;obtain⟨g28,hm⟩:=qG hm;obtain⟨v29,h30,hm⟩:=qA hm;refine s_du [qi 9 g28,qd 10 dN (toNat_lt (inb_of g28)),qc 11 [75,76,77,81] 6 (qKv (Rect.mk a1.Frame.X (v14.1.getD x19.toNat default)) a2 a3 (v14.2.1.getD x19.toNat default) v29 h30)] [0,1,3,0,15,0,0,0,0,384,896,2047,4095] 6 [11,12,70] [(83,vb (!v29))] [5] [] ?_;refine q_cm hm (λb31 hm=>?_) (λb31 hm=>?_)
     ·refine s_vn [] 6 ⟨[(6,vb false)],[]⟩ ?_;obtain rfl:=oi hm;refine q_rt ?_;refine qY false ?_;exact q_rm
     ·refine q_sk ?_;refine q_vv [] 6 [45,83] [(45,vi (w64 (x19+1)))] ?_;exact q_hl (SM a1 a2 a3 v14 v17 (w64 (x19+1))) (ih (w64 (x19+1)) _ hm)
   ·obtain⟨g22,hm⟩:=qG hm;rcases bif_c hm with⟨b23,hm⟩|⟨b23,hm⟩
    ·refine q_vv [qd 9 dN (CN g22),qf 11 b23] 6 [] [(70,vb true)] ?_;exact q_J (true) hm
    ·obtain⟨v24,h25,hm⟩:=qA hm;refine q_vv [qd 9 dN (CN g22),qf 11 b23,qd 18 (dex (cen [] [] 6 0 (HN v24) (JM v24) [61,62,67] [4])) (wV (K:=(kx E 85 0)) (b:=false) ⟨[(61,vb false),(62,vo 4 0 1 v17.length),(67,vi (w64 (((v14.1.getD x19.toNat default).B)-((v14.1.getD x19.toNat default).A))))],[(4,ro 0 3 1 v17.length (rf e_i64 v17))]⟩ (opAt (rg Tryz.f22 129636) 18) [] [] 6 (o1 (Nat.le_refl v17.length)) rfl (qCb v17 (w64 (((v14.1.getD x19.toNat default).B)-((v14.1.getD x19.toNat default).A))) v24 h25) (.inr ⟨(by kernel_rfl),qDg v24⟩) (by kernel_rfl))] 6 [] [(70,vb (!v24))] ?_;exact q_J (!v24) hm
  ·refine q_ex 0 ?_;obtain rfl:=oi hm;exact wR () (by kernel_rfl) (by kernel_rfl)
theorem plan_Member_ok (a1:Pattern) (a2:List Product) (a3:Saw) (r:Bool) (hm:JL a1 a2 a3=some r):CtX Tryz.prog globs 22 0 0 [.agg (qD a1),.one (tl qC default a2),.agg (zB a3)] [] (HY r) (PN r):=by
 unfold JL at hm;refine q_E Tryz.f22 85 λE=>?_;refine s_vn [] 0 ⟨[(1,vc (tl qC default a2)),(3,vp 0 0),(5,vp 1 0)],[(0,bx 46 (qD a1)),(1,bx 38 (zB a3))]⟩ ?_;refine q_sq ?_;refine q_jn (qH7 a1 a2 a3) (λp=>VC a1 a2 a3 p=some r) ?_ ?_
 ·rintro x12 hm;refine q_cm hm (λb13 hm=>?_) (λb13 hm=>?_)
  ·refine s_vn [] 2 ⟨[(6,vb false)],[]⟩ ?_;obtain rfl:=oi hm;refine q_rt ?_;exact q_rm
  ·refine q_sk ?_;obtain⟨v14,h15,hm⟩:=qA hm;refine s_vu [qk 6 [30,32,34] 2 ⟨[(30,va (qE a1.Frame)),(32,vi a3.Kerf),(34,vc (tl e_Node default a1.Nodes))],[]⟩ (qH0 a1.Frame 3 a3.Kerf a1.Nodes v14 h15)] 2 [27] [(7,vo 2 0 2 v14.1.length),(8,vo 3 0 1 v14.2.1.length),(9,vb v14.2.2)] [] [(2,ro 0 31 2 v14.1.length (rf e_Span v14.1)),(3,ro 0 44 1 v14.2.1.length (rf (qH e_Node) v14.2.1))] ?_;refine q_sq ?_;refine s_vv [] 4 [9] [(40,vb (!v14.2.2))] ?_;refine q_cm hm (λb16 hm=>?_) (λb16 hm=>?_)
   ·refine s_vn [] 4 ⟨[(6,vb false)],[]⟩ ?_;obtain rfl:=oi hm;refine q_rt ?_;exact q_rm
   ·refine q_sk ?_;obtain⟨v17,h18,hm⟩:=qA hm;refine s_vu [qc 1 [41] 4 (AI a2 v17 h18)] 4 [40] [(10,vo 4 0 1 v17.length)] [] [(4,ro 0 3 1 v17.length (rf e_i64 v17))] ?_;refine q_sq ?_;refine s_vv [] 5 [7] [(43,vo 2 0 2 v14.1.length),(44,vi ((v14.1.length:Nat):Int)),(45,vi 0)] ?_;obtain⟨u34,h33,hm⟩:=qA hm;refine zQ (nd Tryz.f22 1012) 0 (by kernel_rfl) FUEL (λo=>qBz) (λv st=>RetQ Tryz.prog Tryz.f22 (HY v) (PN v) .ret st) u34 (q_hl (SM a1 a2 a3 v14 v17 0) (qHm E a1 a2 a3 v14 v17 FUEL 0 u34 h33)) ?_ ?_
    ·rintro v35 rfl st hr;obtain rfl:=oi hm;exact hr
    ·rintro o32 rfl;replace hm:_=some r:=hm;refine s_vn [] 5 ⟨[(6,vb true)],[]⟩ ?_;obtain rfl:=oi hm;refine q_rt ?_;exact q_rm
 ·obtain⟨v4,h5,hm⟩:=qA hm;rcases bif_c hm with⟨b6,hm⟩|⟨b6,hm⟩
  ·refine q_vv [qc 1 [13] 2 (wN a2 v4 h5),qf 3 b6] 2 [] [(27,vb true)] ?_;exact q_J (true) hm
  ·obtain⟨v7,h8,hm⟩:=qA hm;rcases bif_c hm with⟨b9,hm⟩|⟨b9,hm⟩
   ·refine q_vv [qc 1 [13] 2 (wN a2 v4 h5),qf 3 b6,qk 6 [16,17,18] 2 ⟨[(16,vb false),(17,va (zB a3)),(18,va [ci 0,ci 0,ci 0])],[]⟩ (VN a3 (Rates.mk 0 0 0) v7 h8),qf 9 b9] 2 [] [(27,vb true)] ?_;exact q_J (true) hm
   ·obtain⟨v10,h11,hm⟩:=qA hm;refine q_vv [qc 1 [13] 2 (wN a2 v4 h5),qf 3 b6,qk 6 [16,17,18] 2 ⟨[(16,vb false),(17,va (zB a3)),(18,va [ci 0,ci 0,ci 0])],[]⟩ (VN a3 (Rates.mk 0 0 0) v7 h8),qf 9 b9,qk 12 [22,24] 2 ⟨[(22,vb false),(24,va (qE a1.Frame))],[]⟩ (qAz a1.Frame v10 h11)] 2 [] [(27,vb (v10 !=0))] ?_;exact q_J (v10 !=0) hm
def qQj (r:Box):V:=va (ZV r)
def qQe (r:Box):List (Nat×(Nat×O)):=[]
theorem AK (a1:Rect) (a2:Span) (r:Box) (hm:RV a1 a2=some r):CtX Tryz.prog globs 69 0 0 [.agg (qE a1),.agg (e_Span a2)] [] (qQj r) (qQe r):=by
 unfold RV at hm;refine q_E Tryz.f69 11 λE=>?_;refine s_vn [] 0 ⟨[(2,vp 0 0),(3,vp 1 0),(4,vp 2 0)],[(0,bx 33 (qE a1)),(1,bx 31 (e_Span a2)),(2,bx 128 [ci 0,ci 0,ci 0,ci 0,ci 0,ci 0])]⟩ ?_;refine s_vn [] 3 ⟨[(4,vp 2 0)],[(2,bx 128 [ci a1.X.A,ci a1.X.B,ci a1.Y.A,ci a1.Y.B,ci a2.A,ci a2.B])]⟩ ?_;obtain rfl:=oi hm;refine q_rt ?_;exact q_rm
def qJa (r:Pattern×Int):V:=vc (.fn 165 [.bptr 0 0 0,.bptr 1 0 0])
def qIh (r:Pattern×Int):List (Nat×(Nat×O)):=[(0,bx 46 (qD r.1)),(1,bx 3 [ci r.2])]
theorem TV (a1:Pattern) (a2:Int) (r:Pattern×Int) (hm:jP a1 a2=some r):CtX Tryz.prog globs 116 0 0 [.agg (qD a1),.one (ci a2)] [] (qJa r) (qIh r):=by
 unfold jP at hm;refine q_E Tryz.f116 6 λE=>?_;refine s_vn [] 0 ⟨[(2,vp 0 0),(3,vp 1 0)],[(0,bx 46 (qD a1)),(1,bx 3 [ci a2])]⟩ ?_;refine s_vv [] 2 [2,3] [(4,vc (.fn 165 [.bptr 0 0 0,.bptr 1 0 0]))] ?_;obtain rfl:=oi hm;refine q_rt ?_;exact q_rm
def qE8 (r:Int):V:=vi r
def qFe (r:Int):List (Nat×(Nat×O)):=[]
def HH :St:=
 ⟨[],[]⟩
def qDn (x15:Bool):St:=
 ⟨[(46,vb x15)],[]⟩
def qDa (a1:Node) (a2:Pattern_place) (x6:Bool):St:=
 ⟨[(2,vp 0 0),(3,vp 1 0),(23,vb x6)],[(0,bx 65 (e_Node a1)),(1,bx 175 (e_Pattern_place a2))]⟩
theorem EK (a1:Node) (a2:Pattern_place) (r:Int) (hm:WA a1 a2=some r):CtX Tryz.prog globs 117 0 0 [.agg (e_Node a1),.agg (e_Pattern_place a2)] [] (qE8 r) (qFe r):=by
 unfold WA at hm;refine q_E Tryz.f117 47 λE=>?_;refine s_vn [] 0 ⟨[(2,vp 0 0),(3,vp 1 0)],[(0,bx 65 (e_Node a1)),(1,bx 175 (e_Pattern_place a2))]⟩ ?_;refine q_sq ?_;refine q_jn (qDa a1 a2) (λp=>jG a1 a2 p=some r) ?_ ?_
 ·rintro x6 hm;refine q_cm hm (λb7 hm=>?_) (λb7 hm=>?_)
  ·refine s_vn [] 2 ⟨[(4,vi 10)],[]⟩ ?_;obtain rfl:=oi hm;refine q_rt ?_;exact q_rm
  ·refine q_sk ?_;refine q_sq ?_;refine s_vv [] 2 [23] [(26,vb (decide (a2.level>64)))] ?_;refine q_cm hm (λb8 hm=>?_) (λb8 hm=>?_)
   ·refine s_vn [] 2 ⟨[(4,vi 28)],[]⟩ ?_;obtain rfl:=oi hm;refine q_rt ?_;exact q_rm
   ·refine q_sk ?_;refine q_jn (ι:=Unit) (λp=>HH) (λp=>ZT=some r) ?_ ?_
    ·rintro _ hm;show H _ (HH) _ _;refine s_vn [] 3 ⟨[(4,vi 0)],[]⟩ ?_;obtain rfl:=oi hm;refine q_rt ?_;exact q_rm
    ·obtain⟨v9,h10,hm⟩:=qA hm;refine s_vv [qc 2 [28] 2 (QS a1.Kind v9 h10)] 2 [26] [(29,vb v9)] ?_;refine q_cm hm (λb11 hm=>?_) (λb11 hm=>?_)
     ·obtain⟨v12,h13,hm⟩:=qA hm;refine s_vu [qc 4 [31,33] 2 (SO a2.rect a1.Kind v12 h13)] 2 [3,29] [(5,vp 2 0)] [1] [(2,bx 31 (e_Span v12))] ?_;refine q_jn (qDn) (λp=>XI p=some r) ?_ ?_
      ·rintro x15 hm;refine q_cm hm (λb16 hm=>?_) (λb16 hm=>?_)
       ·refine s_vn [] 3 ⟨[(4,vi 20)],[]⟩ ?_;obtain rfl:=oi hm;refine q_rt ?_;exact q_rm
       ·refine q_sk ?_;exact q_J () hm
      ·rcases bif_c hm with⟨b14,hm⟩|⟨b14,hm⟩
       ·refine q_vn [qf 5 b14] 3 ⟨[(46,vb true)],[]⟩ ?_;exact q_J (true) hm
       ·refine q_vn [qf 5 b14] 3 ⟨[(46,vb (decide (a1.At≥v12.B)))],[]⟩ ?_;exact q_J (decide (a1.At≥v12.B)) hm
     ·refine q_sk ?_;exact q_J () hm
 ·rcases bif_c hm with⟨b3,hm⟩|⟨b3,hm⟩
  ·refine q_vv [qf 3 b3] 2 [] [(23,vb true)] ?_;exact q_J (true) hm
  ·rcases bif_c hm with⟨b4,hm⟩|⟨b4,hm⟩
   ·refine q_vv [qf 3 b3,qf 8 b4] 2 [] [(23,vb true)] ?_;exact q_J (true) hm
   ·rcases bif_c hm with⟨b5,hm⟩|⟨b5,hm⟩
    ·refine q_vv [qf 3 b3,qf 8 b4,qf 12 b5] 2 [] [(23,vb (a1.At !=0))] ?_;exact q_J (a1.At !=0) hm
    ·refine q_vv [qf 3 b3,qf 8 b4,qf 12 b5] 2 [] [(23,vb false)] ?_;exact q_J (false) hm
def qBd (a1:Rect) (a2:Int) (a3:List Product) (r:Int):V:=vi r
def pattern_Check_1_o (a1:Rect) (a2:Int) (a3:List Product) (r:Int):List (Nat×(Nat×O)):=[(0,bx 22 [tl qC default a3])]
def qEt (a3:List Product) (x18:Bool):St:=
 ⟨[(49,vb x18)],[(0,bx 22 [tl qC default a3])]⟩
def qEx (a1:Rect) (a2:Int) (a3:List Product) (x5:Bool):St:=
 ⟨[(1,vi a2),(2,vp 0 0),(3,vp 1 0),(17,vb x5)],[(0,bx 22 [tl qC default a3]),(1,bx 33 (qE a1))]⟩
theorem qF4 (a1:Rect) (a2:Int) (a3:List Product) (r:Int) (hm:RC a1 a2 a3=some r):CtX Tryz.prog globs 62 1 1 [.agg (qE a1),.one (ci a2),.one (.bptr 0 0 0)] [(0,bx 22 [tl qC default a3])] (qBd a1 a2 a3 r) (pattern_Check_1_o a1 a2 a3 r):=by
 unfold RC at hm;refine q_E Tryz.f62 50 λE=>?_;refine s_vn [] 1 ⟨[(1,vi a2),(2,vp 0 0),(3,vp 1 0)],[(0,bx 22 [tl qC default a3]),(1,bx 33 (qE a1))]⟩ ?_;refine q_sq ?_;refine q_jn (qEx a1 a2 a3) (λp=>QY a1 a2 a3 p=some r) ?_ ?_
 ·rintro x5 hm;refine q_cm hm (λb6 hm=>?_) (λb6 hm=>?_)
  ·refine s_vu [] 2 [1,2,3,17] [(5,vi 8)] [1] [] ?_;obtain rfl:=oi hm;refine q_rt ?_;exact q_rm
  ·refine q_sk ?_;obtain⟨g7,hm⟩:=qG hm;obtain⟨v8,h9,hm⟩:=qA hm;refine s_vv [qi 2 g7,qc 4 [22] 2 (KJ (a3.getD a2.toNat default) v8 h9)] 2 [1,2,17] [(6,vi v8.1),(7,vi v8.2)] ?_;obtain⟨v10,h11,hm⟩:=qA hm;obtain⟨v12,h13,hm⟩:=qA hm;refine s_du [qc 2 [27] 2 (BA a1.X v10 h11),qc 5 [30] 2 (BA a1.Y v12 h13)] [0,1,3,0,8,31,63,127] 2 [3] [(8,vi v10),(9,vi v12)] [1] [] ?_;refine q_sq ?_;refine q_jn (qEt a3) (λp=>yF p=some r) ?_ ?_
   ·rintro x18 hm;refine q_cm hm (λb19 hm=>?_) (λb19 hm=>?_)
    ·refine s_vv [] 2 [49] [(5,vi 20)] ?_;obtain rfl:=oi hm;refine q_rt ?_;exact q_rm
    ·refine q_sk ?_;refine s_vv [] 2 [49] [(5,vi 0)] ?_;obtain rfl:=oi hm;refine q_rt ?_;exact q_rm
   ·rcases bif_c hm with⟨b14,hm⟩|⟨b14,hm⟩
    ·rcases bif_c hm with⟨b15,hm⟩|⟨b15,hm⟩
     ·refine q_vv [qf 3 b14,qf 12 b15] 2 [6,7,8,9] [(49,vb true)] ?_;exact q_J (true) hm
     ·refine q_vv [qf 3 b14,qf 12 b15] 2 [6,7,8,9] [(49,vb (v12 !=v8.1))] ?_;exact q_J (v12 !=v8.1) hm
    ·rcases bif_c hm with⟨b16,hm⟩|⟨b16,hm⟩
     ·rcases bif_c hm with⟨b17,hm⟩|⟨b17,hm⟩
      ·refine q_vv [qf 3 b14,qf 8 b16,qf 12 b17] 2 [6,7,8,9] [(49,vb true)] ?_;exact q_J (true) hm
      ·refine q_vv [qf 3 b14,qf 8 b16,qf 12 b17] 2 [6,7,8,9] [(49,vb (v12 !=v8.1))] ?_;exact q_J (v12 !=v8.1) hm
     ·refine q_vv [qf 3 b14,qf 8 b16] 2 [6,7,8,9] [(49,vb false)] ?_;exact q_J (false) hm
 ·rcases bif_c hm with⟨b4,hm⟩|⟨b4,hm⟩
  ·refine q_vv [qf 2 b4] 2 [] [(17,vb true)] ?_;exact q_J (true) hm
  ·refine q_vv [qf 2 b4] 2 [] [(17,vb (decide (a2≥((a3.length:Nat):Int))))] ?_;exact q_J (decide (a2≥((a3.length:Nat):Int))) hm
noncomputable def VH (a1:Int) (a2:Pattern_place) (a3:Pattern) (a4:List Product) (a5:Int) (a6:Int) (ri:RI 67) (r:Nat×Int×Int):V:=vb (Nat.beq r.1 0)
noncomputable def UC (a1:Int) (a2:Pattern_place) (a3:Pattern) (a4:List Product) (a5:Int) (a6:Int) (ri:RI 67) (r:Nat×Int×Int):List (Nat×(Nat×O)):=[(0,lz (rc Tryz.f61 506 ri) ri.b [.ret] r.1),(1,bx 46 (qD a3)),(2,bx 114 [.fn 62 [.bptr 3 0 0]]),(3,bx 22 [tl qC default a4]),(4,bx 47 [ci r.2.1]),(5,bx 3 [ci r.2.2])]
noncomputable def qBy (ri:RI 67) (a1:Int) (a3:Pattern) (a4:List Product) (a5:Int) (a6:Int) (x16:Int):St:=
 ⟨[(6,vp 4 0),(7,vp 5 0),(8,vi a1),(11,vi x16)],[(0,ly (rc Tryz.f61 506 ri) ri.b),(1,bx 46 (qD a3)),(2,bx 114 [.fn 62 [.bptr 3 0 0]]),(3,bx 22 [tl qC default a4]),(4,bx 47 [ci a5]),(5,bx 3 [ci a6])]⟩
noncomputable def qBA (ri:RI 67) (a1:Int) (a2:Pattern_place) (a3:Pattern) (a4:List Product) (a5:Int) (a6:Int) (v9:Int) (x12:Bool):St:=
 ⟨[(5,vp 2 0),(6,vp 4 0),(7,vp 5 0),(8,vi a1),(9,vp 6 0),(10,vp 7 0),(11,vi v9),(50,vb x12)],[(0,ly (rc Tryz.f61 506 ri) ri.b),(1,bx 46 (qD a3)),(2,bx 114 [.fn 62 [.bptr 3 0 0]]),(3,bx 22 [tl qC default a4]),(4,bx 47 [ci a5]),(5,bx 3 [ci a6]),(6,bx 175 (e_Pattern_place a2)),(7,bx 65 [ci ((a3.Nodes.getD a1.toNat default).Kind),ci ((a3.Nodes.getD a1.toNat default).At)])]⟩
theorem HG (a1:Int) (a2:Pattern_place) (a3:Pattern) (a4:List Product) (a5:Int) (a6:Int) (ri:RI 67) (r:Nat×Int×Int) (hm:jU a1 a2 a3 a4 a5 a6=some r):CtR Tryz.prog globs (rc Tryz.f61 506 ri) ri.b [3,5,6,7] 6 6 [.one (ci a1),.agg (e_Pattern_place a2),.one (.bptr 1 0 0),.one (.bptr 2 0 0),.one (.bptr 4 0 0),.one (.bptr 5 0 0)] [(0,lq (rc Tryz.f61 506 ri) ri.b),(1,bx 46 (qD a3)),(2,bx 114 [.fn 62 [.bptr 3 0 0]]),(3,bx 22 [tl qC default a4]),(4,bx 47 [ci a5]),(5,bx 3 [ci a6])] (VH a1 a2 a3 a4 a5 a6 ri r) (UC a1 a2 a3 a4 a5 a6 ri r):=by
 unfold jU at hm;refine q_R Tryz.f61 506 67 ri λE=>?_;refine q_sq ?_;refine q_vn [] 6 ⟨[(3,vp 1 0),(5,vp 2 0),(6,vp 4 0),(7,vp 5 0),(8,vi a1),(30,va (e_Pattern_place a2))],[(0,lq (rc Tryz.f61 506 ri) ri.b),(1,bx 46 (qD a3)),(2,bx 114 [.fn 62 [.bptr 3 0 0]]),(3,bx 22 [tl qC default a4]),(4,bx 47 [ci a5]),(5,bx 3 [ci a6])]⟩ ?_;refine q_vu [] 6 [30] [(9,vp 6 0)] [] [(6,bx 175 (e_Pattern_place a2))] ?_
 refine q_rd ⟨[(3,vp 1 0),(5,vp 2 0),(6,vp 4 0),(7,vp 5 0),(8,vi a1),(9,vp 6 0)],[(0,ly (rc Tryz.f61 506 ri) ri.b),(1,bx 46 (qD a3)),(2,bx 114 [.fn 62 [.bptr 3 0 0]]),(3,bx 22 [tl qC default a4]),(4,bx 47 [ci a5]),(5,bx 3 [ci a6]),(6,bx 175 (e_Pattern_place a2))]⟩ ?_;refine q_bk 1 ?_;refine q_sq ?_;refine q_sq ?_;refine q_va 7 [(35,vb (decide (a1≥((a3.Nodes.length:Nat):Int))))] ?_;refine q_cm hm (λb7 hm=>?_) (λb7 hm=>?_)
 ·refine q_sq ?_;refine q_vu [] 7 [3,5,6,7,8,9,35] [] [4,6] [(4,bx 47 [ci 3])] ?_;obtain rfl:=oi hm;refine q_rt ?_;exact q_rq
 ·refine q_sk ?_;refine q_sq ?_;obtain⟨g8,hm⟩:=qG hm;refine q_vu [qi 3 g8] 7 [3,35] [(10,vp 7 0)] [] [(7,bx 65 [ci ((a3.Nodes.getD a1.toNat default).Kind),ci ((a3.Nodes.getD a1.toNat default).At)])] ?_;refine q_sq ?_;obtain⟨v9,h10,hm⟩:=qA hm;refine q_vv [qc 2 [41,42] 8 (EK (a3.Nodes.getD a1.toNat default) a2 v9 h10)] 8 [] [(11,vi v9)] ?_;refine q_jn (qBy ri a1 a3 a4 a5 a6) (λp=>JY a1 a5 a6 p=some r) ?_ ?_
  ·rintro x16 hm;refine q_sq ?_;refine q_sq ?_;refine q_va 8 [(58,vb (x16 !=0))] ?_;refine q_cm hm (λb17 hm=>?_) (λb17 hm=>?_)
   ·refine q_sq ?_;refine q_vu [] 8 [6,7,8,11,58] [] [4] [(4,bx 47 [ci x16])] ?_;obtain rfl:=oi hm;refine q_rt ?_;exact q_rq
   ·refine q_sk ?_;refine q_vu [] 8 [6,7,8,11,58] [] [5] [(5,bx 3 [ci (w64 (a1+1))])] ?_;obtain rfl:=oi hm;exact q_rq
  ·refine q_jn (qBA ri a1 a2 a3 a4 a5 a6 v9) (λp=>JN a1 a2 a3 a4 a5 a6 v9 p=some r) ?_ ?_
   ·rintro x12 hm;refine q_cm hm (λb13 hm=>?_) (λb13 hm=>?_)
    ·obtain⟨v14,h15,hm⟩:=qA hm;refine q_vu [qd 5 (dex (cen [(3,0)] [0] 7 1 (qBd a2.rect ((a3.Nodes.getD a1.toNat default).At) a4 v14) (pattern_Check_1_o a2.rect ((a3.Nodes.getD a1.toNat default).At) a4 v14) [51,53,55] [3])) (wV (K:=(kr E 67 6 ri.b)) ⟨[(51,vc (.fn 62 [.bptr 3 0 0])),(53,va (qE a2.rect)),(55,vi ((a3.Nodes.getD a1.toNat default).At))],[(3,bx 22 [tl qC default a4])]⟩ (opAt (rg Tryz.f61 129722) 5) [(3,0)] [0] 7 o0 rfl (qF4 a2.rect ((a3.Nodes.getD a1.toNat default).At) a4 v14 h15) (.inl rfl) (by kernel_rfl))] 8 [5,9,10,11,50] [(11,vi v14)] [6,7] [] ?_;exact q_J (v14) hm
    ·refine q_sk ?_;exact q_J (v9) hm
   ·rcases bif_c hm with⟨b11,hm⟩|⟨b11,hm⟩
    ·refine q_vv [qf 2 b11] 8 [] [(50,vb (((a3.Nodes.getD a1.toNat default).Kind)==1))] ?_;exact q_J (((a3.Nodes.getD a1.toNat default).Kind)==1) hm
    ·refine q_vv [qf 2 b11] 8 [] [(50,vb false)] ?_;exact q_J (false) hm
def qLL (r:Rect):V:=va (qE r)
def qLP (r:Rect):List (Nat×(Nat×O)):=[]
def qHN (x5:Rect):St:=
 ⟨[(3,vp 0 0),(6,vp 2 0)],[(0,bx 33 (qE x5)),(2,bx 33 [ci 0,ci 0,ci 0,ci 0])]⟩
theorem AS (a1:Rect) (a2:Int) (a3:Span) (r:Rect) (hm:KS a1 a2 a3=some r):CtX Tryz.prog globs 202 0 0 [.agg (qE a1),.one (ci a2),.agg (e_Span a3)] [] (qLL r) (qLP r):=by
 unfold KS at hm;refine q_E Tryz.f202 14 λE=>?_;refine s_vn [] 0 ⟨[(1,vi a2),(3,vp 0 0),(5,vp 1 0),(6,vp 2 0)],[(0,bx 33 (qE a1)),(1,bx 31 (e_Span a3)),(2,bx 33 [ci 0,ci 0,ci 0,ci 0])]⟩ ?_;refine q_jn (qHN) (λp=>BJ p=some r) ?_ ?_
 ·rintro x5 hm;refine s_vu [] 3 [3] [] [0,2] [(2,bx 33 (qE x5))] ?_;obtain rfl:=oi hm;refine q_rt ?_;exact q_rm
 ·refine s_vv [] 3 [1] [(8,vb (a2==2))] ?_;refine q_cm hm (λb4 hm=>?_) (λb4 hm=>?_)
  ·refine q_vu [] 3 [5,8] [] [0,1] [(0,bx 33 [ci a3.A,ci a3.B,ci a1.Y.A,ci a1.Y.B])] ?_;exact q_J ((Rect.mk a3 a1.Y)) hm
  ·refine q_vu [] 3 [5,8] [] [0,1] [(0,bx 33 [ci a1.X.A,ci a1.X.B,ci a3.A,ci a3.B])] ?_;exact q_J ((Rect.mk a1.X a3)) hm
def qJK (r:Rect×Rect×Rect):V:= .tup [.agg (qE r.1),.agg (qE r.2.1),.agg (qE r.2.2)]
def qK2 (r:Rect×Rect×Rect):List (Nat×(Nat×O)):=[]
theorem KZ (a1:Rect) (a2:Node) (a3:Int) (r:Rect×Rect×Rect) (hm:yI a1 a2 a3=some r):CtX Tryz.prog globs 166 0 0 [.agg (qE a1),.agg (e_Node a2),.one (ci a3)] [] (qJK r) (qK2 r):=by
 unfold yI at hm;refine q_E Tryz.f166 50 λE=>?_;refine s_vn [] 0 ⟨[(2,vi a3),(3,vp 0 0),(4,vp 1 0),(6,vp 2 0),(7,vp 3 0),(8,vp 4 0)],[(0,bx 33 (qE a1)),(1,bx 65 (e_Node a2)),(2,bx 33 [ci 0,ci 0,ci 0,ci 0]),(3,bx 33 [ci 0,ci 0,ci 0,ci 0]),(4,bx 33 [ci 0,ci 0,ci 0,ci 0])]⟩ ?_;obtain⟨v4,h5,hm⟩:=qA hm;refine s_vu [qc 3 [11,13] 5 (SO a1 a2.Kind v4 h5)] 5 [] [(9,vp 5 0)] [] [(5,bx 31 (e_Span v4))] ?_;refine s_vv [] 6 [2] [(10,vi (imin (w64 (a2.At+a3)) v4.B))] ?_;obtain⟨v6,h7,hm⟩:=qA hm;refine s_vu [qc 8 [22,24,29] 6 (AS a1 a2.Kind (Span.mk v4.A a2.At) v6 h7)] 6 [] [] [2] [(2,bx 33 (qE v6))] ?_
 obtain⟨v8,h9,hm⟩:=qA hm;refine s_vu [qc 7 [31,33,37] 6 (AS a1 a2.Kind (Span.mk a2.At (imin (w64 (a2.At+a3)) v4.B)) v8 h9)] 6 [] [] [3] [(3,bx 33 (qE v8))] ?_;obtain⟨v10,h11,hm⟩:=qA hm;refine s_vu [qc 7 [39,41,45] 6 (AS a1 a2.Kind (Span.mk (imin (w64 (a2.At+a3)) v4.B) v4.B) v10 h11)] 6 [3,4,9,10] [] [0,1,4,5] [(4,bx 33 (qE v10))] ?_;refine s_du [] [0,0,0,1,11,31] 6 [] [] [] [] ?_;obtain rfl:=oi hm;refine q_rt ?_;exact q_rm
noncomputable def NM (a1:Pattern) (a2:List Product) (a3:Int) (a4:Int) (a5:Pattern) (a6:Int) (ri:RI 67) (r:Nat×Int×Int):V:= .undef
noncomputable def NR (a1:Pattern) (a2:List Product) (a3:Int) (a4:Int) (a5:Pattern) (a6:Int) (ri:RI 67) (r:Nat×Int×Int):List (Nat×(Nat×O)):=[(0,lz (rc Tryz.f61 506 ri) ri.b [.ret] r.1),(1,bx 46 (qD a1)),(2,bx 114 [.fn 62 [.bptr 3 0 0]]),(3,bx 22 [tl qC default a2]),(4,bx 47 [ci r.2.1]),(5,bx 3 [ci r.2.2]),(6,bx 46 (qD a5)),(7,bx 3 [ci a6])]
noncomputable def ST (ri:RI 67) (a1:Pattern) (a2:List Product) (a5:Pattern) (a6:Int) (x8:Int) (l25:List Pattern_place) (l25n:Nat) (x26:Int) (x27:Int):St:=
 ⟨[(0,vc (.yl (rc Tryz.f61 506 ri) ri.b [3,5,6,7] [.bptr 1 0 0,.bptr 2 0 0,.bptr 4 0 0,.bptr 5 0 0])),(1,vp 6 0),(2,vp 7 0),(4,vo 8 0 5 l25n),(5,vi x8)],[(0,lq (rc Tryz.f61 506 ri) ri.b),(1,bx 46 (qD a1)),(2,bx 114 [.fn 62 [.bptr 3 0 0]]),(3,bx 22 [tl qC default a2]),(4,bx 47 [ci x27]),(5,bx 3 [ci x26]),(6,bx 46 (qD a5)),(7,bx 3 [ci a6]),(8,ro 0 175 5 l25n (rf e_Pattern_place l25))]⟩
noncomputable def UA (ri:RI 67) (a1:Pattern) (a2:List Product) (a5:Pattern) (a6:Int) (l7:List Pattern_place) (l7n:Nat) (x8:Int) (x9:Int) (x10:Int):St:=
 ⟨[(0,vc (.yl (rc Tryz.f61 506 ri) ri.b [3,5,6,7] [.bptr 1 0 0,.bptr 2 0 0,.bptr 4 0 0,.bptr 5 0 0])),(1,vp 6 0),(2,vp 7 0),(4,vo 8 0 5 l7n),(5,vi x8)],[(0,lq (rc Tryz.f61 506 ri) ri.b),(1,bx 46 (qD a1)),(2,bx 114 [.fn 62 [.bptr 3 0 0]]),(3,bx 22 [tl qC default a2]),(4,bx 47 [ci x9]),(5,bx 3 [ci x10]),(6,bx 46 (qD a5)),(7,bx 3 [ci a6]),(8,ro 0 175 5 l7n (rf e_Pattern_place l7))]⟩
noncomputable def EJ (ri:RI 67) (a1:Pattern) (a2:List Product) (a5:Pattern) (a6:Int) (x28:Int) (x29:Int):St:=
 ⟨[],[(0,lq (rc Tryz.f61 506 ri) ri.b),(1,bx 46 (qD a1)),(2,bx 114 [.fn 62 [.bptr 3 0 0]]),(3,bx 22 [tl qC default a2]),(4,bx 47 [ci x29]),(5,bx 3 [ci x28]),(6,bx 46 (qD a5)),(7,bx 3 [ci a6])]⟩
theorem qC4 (E:Env 8) (ri:RI 67) (a1:Pattern) (a2:List Product) (a3:Int) (a4:Int) (a5:Pattern) (a6:Int):∀(n:Nat) (l7:List Pattern_place) (l7n:Nat) (x8:Int) (x9:Int) (x10:Int) (res:(Nat×Int×Int)⊕(Int×Int)),l7.length=l7n->jT a1 a2 a5 a6 n l7 x8 x9 x10=some res->HL (kx E 73 8) (nd Tryz.f165 28) (wI 0 (λo=>EJ ri a1 a2 a5 a6 o.1 o.2) (λv st=>RetQ Tryz.prog Tryz.f165 (NM a1 a2 a3 a4 a5 a6 ri v) (NR a1 a2 a3 a4 a5 a6 ri v) .ret st) res) n (UA ri a1 a2 a5 a6 l7 l7n x8 x9 x10):=by
 intro n
 induction n with
 |zero=>
  intro l7 l7n x8 x9 x10 res hl0 hm;cases hm
 |succ n ih=>
  intro l7 l7n x8 x9 x10 res hl0 hm;subst hl0;refine qM ?_;refine q_sq ?_;refine s_va 9 [(17,vb (decide (((l7.length:Nat):Int)>0)))] ?_;refine q_cm hm (λb11 hm=>?_) (λb11 hm=>?_)
  ·refine q_sk ?_;refine q_jn (ι:=(List Pattern_place)×Nat×Int×Int) (λp=>ST ri a1 a2 a5 a6 x8 p.1 p.2.1 p.2.2.1 p.2.2.2) (λp=>p.1.length=p.2.1/\PH x8 (jT a1 a2 a5 a6 n) p.1 p.2.2.1 p.2.2.2=some res) ?_ ?_
   ·rintro⟨l25,l25n,x26,x27⟩ ⟨el25,hm⟩;replace el25:l25.length=l25n:=el25;subst el25;show H _ (ST ri a1 a2 a5 a6 x8 l25 l25.length x26 x27) _ _;refine q_vv [] 15 [5] [(5,vi (w64 (x8+1)))] ?_;exact q_hl (UA ri a1 a2 a5 a6 l25 l25.length (w64 (x8+1)) x27 x26) (ih l25 l25.length (w64 (x8+1)) x27 x26 _ rfl hm)
   ·refine q_bk 1 ?_;obtain⟨g12,hm⟩:=qG hm;refine s_vu [qi 4 g12,qd 5 dN (toNat_lt (inb_of g12))] 9 [17] [(6,vp 9 0)] [] [(9,bx 175 [ci ((((l7.getD ((w64 (((l7.length:Nat):Int)-1)).toNat) default).rect).X).A),ci ((((l7.getD ((w64 (((l7.length:Nat):Int)-1)).toNat) default).rect).X).B),ci ((((l7.getD ((w64 (((l7.length:Nat):Int)-1)).toNat) default).rect).Y).A),ci ((((l7.getD ((w64 (((l7.length:Nat):Int)-1)).toNat) default).rect).Y).B),ci ((l7.getD ((w64 (((l7.length:Nat):Int)-1)).toNat) default).level)])] ?_;obtain⟨g13,hm⟩:=qG hm
    refine s_wu [qd 4 dN (And.intro (slOk_of g13).2.1 (slOk_of g13).2.2)] [.row 8 ((w64 (((l7.length:Nat):Int)-1)).toNat) (rf e_Pattern_place (l7.take ((w64 (((l7.length:Nat):Int)-1)).toNat)))] (o1 (tkP e_Pattern_place default l7 l7.length ((w64 (((l7.length:Nat):Int)-1)).toNat) (show(w64 (((l7.length:Nat):Int)-1)).toNat<=l7.length by have:=(slOk_of g13);omega))) 10 [4] [(4,vo 8 0 5 ((w64 (((l7.length:Nat):Int)-1)).toNat))] [8] [(8,ro 0 175 5 ((w64 (((l7.length:Nat):Int)-1)).toNat) (rf e_Pattern_place (l7.take ((w64 (((l7.length:Nat):Int)-1)).toNat))))] ?_;refine q_sq ?_;refine q_sq ?_
    obtain⟨v14,h15,hm⟩:=qA hm;rcases bif_c hm with⟨b16,hm⟩|⟨b16,hm⟩
    ·refine q_vu [qd 3 (dex (cen [(0,0),(1,0),(2,0),(3,0),(4,0),(5,0)] [0,0,0,0,0,0] 4 6 (VH x8 (l7.getD ((w64 (((l7.length:Nat):Int)-1)).toNat) default) a1 a2 x9 x10 ri v14) (UC x8 (l7.getD ((w64 (((l7.length:Nat):Int)-1)).toNat) default) a1 a2 x9 x10 ri v14) [31,32,33] [0,1,2,3,4,5])) (qBv (K:=(kx E 73 8)) ⟨[(31,vc (.yl (rc Tryz.f61 506 ri) ri.b [3,5,6,7] [.bptr 1 0 0,.bptr 2 0 0,.bptr 4 0 0,.bptr 5 0 0])),(32,vi x8),(33,va [ci ((((l7.getD ((w64 (((l7.length:Nat):Int)-1)).toNat) default).rect).X).A),ci ((((l7.getD ((w64 (((l7.length:Nat):Int)-1)).toNat) default).rect).X).B),ci ((((l7.getD ((w64 (((l7.length:Nat):Int)-1)).toNat) default).rect).Y).A),ci ((((l7.getD ((w64 (((l7.length:Nat):Int)-1)).toNat) default).rect).Y).B),ci ((l7.getD ((w64 (((l7.length:Nat):Int)-1)).toNat) default).level)])],[(0,lq (rc Tryz.f61 506 ri) ri.b),(1,bx 46 (qD a1)),(2,bx 114 [.fn 62 [.bptr 3 0 0]]),(3,bx 22 [tl qC default a2]),(4,bx 47 [ci x9]),(5,bx 3 [ci x10])]⟩ (opAt (rg Tryz.f165 3660) 3) [(0,0),(1,0),(2,0),(3,0),(4,0),(5,0)] [0,0,0,0,0,0] 4 0 o0 rfl (HG x8 (l7.getD ((w64 (((l7.length:Nat):Int)-1)).toNat) default) a1 a2 x9 x10 ri v14 h15) (.inl rfl) (by kernel_rfl)),qf 5 b16] 10 [] [(42,vb true)] [0,4,5] [(0,lz (rc Tryz.f61 506 ri) ri.b [.ret] v14.1),(4,bx 47 [ci v14.2.1]),(5,bx 3 [ci v14.2.2])] ?_
     refine qN0 Tryz.f165 (.tmp 42) 7322 7323 (by kernel_rfl) (by kernel_rfl) ?_;obtain rfl:=oi hm;refine q_rt ?_;refine qY (v14.1,v14.2.1,v14.2.2) ?_;exact q_rm
    ·refine q_wu [qd 3 (dex (cen [(0,0),(1,0),(2,0),(3,0),(4,0),(5,0)] [0,0,0,0,0,0] 4 6 (VH x8 (l7.getD ((w64 (((l7.length:Nat):Int)-1)).toNat) default) a1 a2 x9 x10 ri v14) (UC x8 (l7.getD ((w64 (((l7.length:Nat):Int)-1)).toNat) default) a1 a2 x9 x10 ri v14) [31,32,33] [0,1,2,3,4,5])) (qBv (K:=(kx E 73 8)) ⟨[(31,vc (.yl (rc Tryz.f61 506 ri) ri.b [3,5,6,7] [.bptr 1 0 0,.bptr 2 0 0,.bptr 4 0 0,.bptr 5 0 0])),(32,vi x8),(33,va [ci ((((l7.getD ((w64 (((l7.length:Nat):Int)-1)).toNat) default).rect).X).A),ci ((((l7.getD ((w64 (((l7.length:Nat):Int)-1)).toNat) default).rect).X).B),ci ((((l7.getD ((w64 (((l7.length:Nat):Int)-1)).toNat) default).rect).Y).A),ci ((((l7.getD ((w64 (((l7.length:Nat):Int)-1)).toNat) default).rect).Y).B),ci ((l7.getD ((w64 (((l7.length:Nat):Int)-1)).toNat) default).level)])],[(0,lq (rc Tryz.f61 506 ri) ri.b),(1,bx 46 (qD a1)),(2,bx 114 [.fn 62 [.bptr 3 0 0]]),(3,bx 22 [tl qC default a2]),(4,bx 47 [ci x9]),(5,bx 3 [ci x10])]⟩ (opAt (rg Tryz.f165 3660) 3) [(0,0),(1,0),(2,0),(3,0),(4,0),(5,0)] [0,0,0,0,0,0] 4 0 o0 rfl (HG x8 (l7.getD ((w64 (((l7.length:Nat):Int)-1)).toNat) default) a1 a2 x9 x10 ri v14 h15) (.inl rfl) (by kernel_rfl)),qf 5 b16] [.lpn 0 .ready none] (o1 (qJy (js:=[.ret]) b16)) 10 [] [(42,vb (decide (x8≥((a5.Nodes.length:Nat):Int))))] [4,5] [(4,bx 47 [ci v14.2.1]),(5,bx 3 [ci v14.2.2])] ?_
     refine q_cm hm (λb17 hm=>?_) (λb17 hm=>?_)
     ·obtain rfl:=oi hm;refine q_rt ?_;refine qY (0,v14.2.1,v14.2.2) ?_;exact q_rm
     ·refine q_sk ?_;obtain⟨g18,hm⟩:=qG hm;refine s_vu [qi 3 g18] 10 [42] [(7,vp 10 0)] [] [(10,bx 65 [ci ((a5.Nodes.getD x8.toNat default).Kind),ci ((a5.Nodes.getD x8.toNat default).At)])] ?_;obtain⟨v19,h20,hm⟩:=qA hm;refine s_vv [qc 2 [49] 11 (QS ((a5.Nodes.getD x8.toNat default).Kind) v19 h20)] 11 [] [(50,vb v19)] ?_;refine q_cm hm (λb21 hm=>?_) (λb21 hm=>?_)
      ·obtain⟨v22,h23,hm⟩:=qA hm;refine s_vu [qc 4 [53,54,55] 11 (KZ ((l7.getD ((w64 (((l7.length:Nat):Int)-1)).toNat) default).rect) (a5.Nodes.getD x8.toNat default) a6 v22 h23)] 11 [7,50] [(8,vp 11 0),(10,vp 13 0)] [10] [(11,bx 33 (qE v22.1)),(13,bx 33 (qE v22.2.2))] ?_;obtain⟨g24,hm⟩:=qG hm
       refine q_vu [qd 11 (drw 14 0 (rf e_Pattern_place ([(Pattern_place.mk v22.2.2 (w64 (((l7.getD ((w64 (((l7.length:Nat):Int)-1)).toNat) default).level)+1))),(Pattern_place.mk v22.1 (w64 (((l7.getD ((w64 (((l7.length:Nat):Int)-1)).toNat) default).level)+1)))]:List Pattern_place))) (litP e_Pattern_place default 5 (λ_=>rfl) ([(Pattern_place.mk v22.2.2 (w64 (((l7.getD ((w64 (((l7.length:Nat):Int)-1)).toNat) default).level)+1))),(Pattern_place.mk v22.1 (w64 (((l7.getD ((w64 (((l7.length:Nat):Int)-1)).toNat) default).level)+1)))]:List Pattern_place) 2 rfl),qd 12 (drw 8 1 (rf e_Pattern_place ((l7.take ((w64 (((l7.length:Nat):Int)-1)).toNat))++([(Pattern_place.mk v22.2.2 (w64 (((l7.getD ((w64 (((l7.length:Nat):Int)-1)).toNat) default).level)+1))),(Pattern_place.mk v22.1 (w64 (((l7.getD ((w64 (((l7.length:Nat):Int)-1)).toNat) default).level)+1)))]:List Pattern_place)))) (apP e_Pattern_place default (l7.take ((w64 (((l7.length:Nat):Int)-1)).toNat)) ([(Pattern_place.mk v22.2.2 (w64 (((l7.getD ((w64 (((l7.length:Nat):Int)-1)).toNat) default).level)+1))),(Pattern_place.mk v22.1 (w64 (((l7.getD ((w64 (((l7.length:Nat):Int)-1)).toNat) default).level)+1)))]:List Pattern_place) ((w64 (((l7.length:Nat):Int)-1)).toNat) 2 5 40 (2<=2) (Nat.le_refl _) (len_take rfl (show(w64 (((l7.length:Nat):Int)-1)).toNat<=l7.length by have:=(slOk_of g13);omega)) rfl (λ_=>rfl) (zI g24))] 14 [4,6,8,10] [(4,vo 8 1 5 ((w64 (((l7.length:Nat):Int)-1)).toNat+2))] [8,9,11,13] [(8,ro 1 175 5 ((w64 (((l7.length:Nat):Int)-1)).toNat+2) (rf e_Pattern_place ((l7.take ((w64 (((l7.length:Nat):Int)-1)).toNat))++([(Pattern_place.mk v22.2.2 (w64 (((l7.getD ((w64 (((l7.length:Nat):Int)-1)).toNat) default).level)+1))),(Pattern_place.mk v22.1 (w64 (((l7.getD ((w64 (((l7.length:Nat):Int)-1)).toNat) default).level)+1)))]:List Pattern_place))))] ?_
       exact q_J (((l7.take ((w64 (((l7.length:Nat):Int)-1)).toNat))++([(Pattern_place.mk v22.2.2 (w64 (((l7.getD ((w64 (((l7.length:Nat):Int)-1)).toNat) default).level)+1))),(Pattern_place.mk v22.1 (w64 (((l7.getD ((w64 (((l7.length:Nat):Int)-1)).toNat) default).level)+1)))]:List Pattern_place)),((w64 (((l7.length:Nat):Int)-1)).toNat+2),v14.2.2,v14.2.1) ⟨(len_app (len_take rfl (show(w64 (((l7.length:Nat):Int)-1)).toNat<=l7.length by have:=(slOk_of g13);omega)) rfl),hm⟩
      ·refine q_sk ?_;exact q_J ((l7.take ((w64 (((l7.length:Nat):Int)-1)).toNat)),(w64 (((l7.length:Nat):Int)-1)).toNat,v14.2.2,v14.2.1) ⟨(len_take rfl (show(w64 (((l7.length:Nat):Int)-1)).toNat<=l7.length by have:=(slOk_of g13);omega)),hm⟩
  ·refine q_ex 0 ?_;obtain rfl:=oi hm;exact wR (x10,x9) (by kernel_rfl) (by kernel_rfl)
theorem qFs (a1:Pattern) (a2:List Product) (a3:Int) (a4:Int) (a5:Pattern) (a6:Int) (ri:RI 67) (r:Nat×Int×Int) (hm:KF a1 a2 a3 a4 a5 a6=some r):CtX Tryz.prog globs 165 8 8 [.one (.yl (rc Tryz.f61 506 ri) ri.b [3,5,6,7] [.bptr 1 0 0,.bptr 2 0 0,.bptr 4 0 0,.bptr 5 0 0]),.one (.bptr 6 0 0),.one (.bptr 7 0 0)] [(0,lq (rc Tryz.f61 506 ri) ri.b),(1,bx 46 (qD a1)),(2,bx 114 [.fn 62 [.bptr 3 0 0]]),(3,bx 22 [tl qC default a2]),(4,bx 47 [ci a3]),(5,bx 3 [ci a4]),(6,bx 46 (qD a5)),(7,bx 3 [ci a6])] (NM a1 a2 a3 a4 a5 a6 ri r) (NR a1 a2 a3 a4 a5 a6 ri r):=by
 unfold KF at hm;refine q_E Tryz.f165 73 λE=>?_
 refine s_vn [qd 3 (drw 8 0 (rf e_Pattern_place ([(Pattern_place.mk a5.Frame 1)]:List Pattern_place))) (litP e_Pattern_place default 5 (λ_=>rfl) ([(Pattern_place.mk a5.Frame 1)]:List Pattern_place) 1 rfl)] 8 ⟨[(0,vc (.yl (rc Tryz.f61 506 ri) ri.b [3,5,6,7] [.bptr 1 0 0,.bptr 2 0 0,.bptr 4 0 0,.bptr 5 0 0])),(1,vp 6 0),(2,vp 7 0),(4,vo 8 0 5 1)],[(0,lq (rc Tryz.f61 506 ri) ri.b),(1,bx 46 (qD a1)),(2,bx 114 [.fn 62 [.bptr 3 0 0]]),(3,bx 22 [tl qC default a2]),(4,bx 47 [ci a3]),(5,bx 3 [ci a4]),(6,bx 46 (qD a5)),(7,bx 3 [ci a6]),(8,ro 0 175 5 1 (rf e_Pattern_place ([(Pattern_place.mk a5.Frame 1)]:List Pattern_place)))]⟩ ?_
 refine s_va 9 [(5,vi 0)] ?_;obtain⟨u32,h31,hm⟩:=qA hm;refine zQ (nd Tryz.f165 28) 0 (by kernel_rfl) FUEL (λo=>EJ ri a1 a2 a5 a6 o.1 o.2) (λv st=>RetQ Tryz.prog Tryz.f165 (NM a1 a2 a3 a4 a5 a6 ri v) (NR a1 a2 a3 a4 a5 a6 ri v) .ret st) u32 (q_hl (UA ri a1 a2 a5 a6 ([(Pattern_place.mk a5.Frame 1)]:List Pattern_place) 1 0 a3 a4) (qC4 E ri a1 a2 a3 a4 a5 a6 FUEL ([(Pattern_place.mk a5.Frame 1)]:List Pattern_place) 1 0 a3 a4 u32 rfl h31)) ?_ ?_
 ·rintro v33 rfl st hr;obtain rfl:=oi hm;exact hr
 ·rintro o30 rfl;replace hm:_=some r:=hm;obtain rfl:=oi hm;exact q_rm
def qCe (a1:Pattern) (a2:Int) (a3:List Product) (r:Int):V:=vi r
def qCA (a1:Pattern) (a2:Int) (a3:List Product) (r:Int):List (Nat×(Nat×O)):=[(0,bx 22 [tl qC default a3])]
def qF7 (a1:Pattern) (a2:Int) (a3:List Product) (x8:Bool):St:=
 ⟨[(1,vi a2),(3,vp 1 0),(5,vp 2 0),(6,vp 3 0),(21,vb x8)],[(0,bx 22 [tl qC default a3]),(1,bx 46 (qD a1)),(2,bx 114 [.fn 62 [.bptr 0 0 0]]),(3,bx 47 [ci 0])]⟩
theorem qIN (a1:Pattern) (a2:Int) (a3:List Product) (r:Int) (hm:HR a1 a2 a3=some r):CtX Tryz.prog globs 61 1 1 [.agg (qD a1),.one (ci a2),.one (.fn 62 [.bptr 0 0 0])] [(0,bx 22 [tl qC default a3])] (qCe a1 a2 a3 r) (qCA a1 a2 a3 r):=by
 unfold HR at hm;refine q_E Tryz.f61 67 λE=>?_;refine s_vn [] 1 ⟨[(1,vi a2),(3,vp 1 0),(5,vp 2 0),(6,vp 3 0)],[(0,bx 22 [tl qC default a3]),(1,bx 46 (qD a1)),(2,bx 114 [.fn 62 [.bptr 0 0 0]]),(3,bx 47 [ci 0])]⟩ ?_;refine q_sq ?_;obtain⟨v4,h5,hm⟩:=qA hm;refine s_vv [qc 2 [13] 4 (RZ a1.Frame v4 h5)] 4 [] [(15,vb (!v4))] ?_;refine q_cm hm (λb6 hm=>?_) (λb6 hm=>?_)
 ·refine s_vu [] 4 [1,3,5,15] [] [1,2,3] [(3,bx 47 [ci 19])] ?_;obtain rfl:=oi hm;refine q_rt ?_;exact q_rm
 ·refine q_sk ?_;refine q_sq ?_;refine q_jn (qF7 a1 a2 a3) (λp=>JF a1 a2 a3 p=some r) ?_ ?_
  ·rintro x8 hm;refine q_cm hm (λb9 hm=>?_) (λb9 hm=>?_)
   ·refine s_vu [] 4 [1,3,5,21] [] [1,2,3] [(3,bx 47 [ci 9])] ?_;obtain rfl:=oi hm;refine q_rt ?_;exact q_rm
   ·refine q_sk ?_;refine q_sq ?_;refine s_vv [] 4 [21] [(25,vb (decide (((a1.Nodes.length:Nat):Int)>127)))] ?_;refine q_cm hm (λb10 hm=>?_) (λb10 hm=>?_)
    ·refine s_vu [] 4 [1,3,5,25] [] [1,2,3] [(3,bx 47 [ci 4])] ?_;obtain rfl:=oi hm;refine q_rt ?_;exact q_rm
    ·refine q_sk ?_;refine s_vu [] 4 [25] [(7,vp 4 0)] [] [(4,bx 3 [ci 0])] ?_;refine q_sq ?_;obtain⟨v11,h12,hm⟩:=qA hm;refine s_vu [qc 2 [26,27] 5 (TV a1 a2 v11 h12)] 5 [1] [(28,vc (.fn 165 [.bptr 5 0 0,.bptr 6 0 0]))] [] [(5,bx 46 (qD v11.1)),(6,bx 3 [ci v11.2])] ?_;refine q_bk 0 ?_;obtain⟨v13,h14,hm⟩:=qA hm
     refine q_rf (.tmp 28) [3,5,6,7] 7 [(7,0),(1,0),(2,0),(0,0),(3,0),(4,0),(5,0),(6,0)] [0,0,0,0,0,0,0,0] 0 8 [.ret] v13.1 0 ⟨[(3,vp 1 0),(6,vp 3 0),(7,vp 4 0)],[(0,bx 22 [tl qC default a3]),(1,bx 46 (qD a1)),(3,bx 47 [ci v13.2.1]),(4,bx 3 [ci v13.2.2])]⟩ (λri=>qFs a1 a3 0 0 v11.1 v11.2 ri v13 h14) ?_;rcases bif_c hm with⟨b15,hm⟩|⟨b15,hm⟩
     ·refine JQ_n b15 ?_;refine q_sq ?_;refine s_vu [] 8 [3,7] [(66,vb (decide (v13.2.2<((a1.Nodes.length:Nat):Int))))] [1,4] [] ?_;refine q_cm hm (λb17 hm=>?_) (λb17 hm=>?_)
      ·refine s_vu [] 8 [66] [] [3] [(3,bx 47 [ci 4])] ?_;obtain rfl:=oi hm;refine q_rt ?_;exact q_rm
      ·refine q_sk ?_;refine s_vu [] 8 [66] [] [3] [(3,bx 47 [ci 0])] ?_;obtain rfl:=oi hm;refine q_rt ?_;exact q_rm
     ·rcases bif_c hm with⟨b16,hm⟩|⟨b16,hm⟩
      ·refine JQ_j 0 .ret b16 (by kernel_rfl) ?_;obtain rfl:=oi hm;refine q_rt ?_;exact q_rm
      ·cases hm
  ·rcases bif_c hm with⟨b7,hm⟩|⟨b7,hm⟩
   ·refine q_vv [qf 2 b7] 4 [15] [(21,vb true)] ?_;exact q_J (true) hm
   ·refine q_vv [qf 2 b7] 4 [15] [(21,vb (decide (a2>20)))] ?_;exact q_J (decide (a2>20)) hm
def qJx (r:Int):V:=vi r
def qJ4 (r:Int):List (Nat×(Nat×O)):=[]
theorem qIB (a1:Pattern) (a2:List Product) (a3:Int) (r:Int) (hm:DJ a1 a2 a3=some r):CtX Tryz.prog globs 25 0 0 [.agg (qD a1),.one (tl qC default a2),.one (ci a3)] [] (qJx r) (qJ4 r):=by
 unfold DJ at hm;refine q_E Tryz.f25 11 λE=>?_;refine s_vn [] 0 ⟨[(2,vi a3),(3,vp 0 0),(4,vp 1 0)],[(0,bx 46 (qD a1)),(1,bx 22 [tl qC default a2])]⟩ ?_;obtain⟨v4,h5,hm⟩:=qA hm;refine s_vn [qd 3 (dex (cen [(1,0)] [0] 1 1 (qCe a1 a3 a2 v4) (qCA a1 a3 a2 v4) [7,8,9] [1])) (wV (K:=(kx E 11 0)) ⟨[(7,va (qD a1)),(8,vi a3),(9,vc (.fn 62 [.bptr 1 0 0]))],[(1,bx 22 [tl qC default a2])]⟩ (opAt (rg Tryz.f25 6) 3) [(1,0)] [0] 1 o0 rfl (qIN a1 a3 a2 v4 h5) (.inl rfl) (by kernel_rfl))] 2 ⟨[(6,vi v4)],[]⟩ ?_;obtain rfl:=oi hm;refine q_rt ?_;exact q_rm
def qNd (r:Int):V:=vi r
def qNo (r:Int):List (Nat×(Nat×O)):=[]
theorem qDH (a1:List qB) (a2:List Defect) (a3:List Product) (a4:Pattern) (a5:Saw) (a6:Rates) (r:Int) (hm:DY a1 a2 a3 a4 a5 a6=some r):CtX Tryz.prog globs 65 0 0 [.one (tl qI default a1),.one (tl qJ default a2),.one (tl qC default a3),.agg (qD a4),.agg (zB a5),.agg (zS a6)] [] (qNd r) (qNo r):=by
 unfold DY at hm;refine q_E Tryz.f65 43 λE=>?_;refine s_vn [] 0 ⟨[(0,vc (tl qI default a1)),(1,vc (tl qJ default a2)),(2,vc (tl qC default a3)),(9,vp 0 0),(10,vp 1 0),(11,vp 2 0)],[(0,bx 46 (qD a4)),(1,bx 38 (zB a5)),(2,bx 40 (zS a6))]⟩ ?_;refine q_sq ?_;obtain⟨v7,h8,hm⟩:=qA hm;refine s_vv [qc 1 [17] 3 (QU a1 v7 h8)] 3 [0] [(13,vi v7)] ?_;refine s_va 3 [(20,vb (v7 !=0))] ?_;refine q_cm hm (λb9 hm=>?_) (λb9 hm=>?_)
 ·refine s_vn [] 3 ⟨[(12,vi v7)],[]⟩ ?_;obtain rfl:=oi hm;refine q_rt ?_;exact q_rm
 ·refine q_sk ?_;refine q_sq ?_;obtain⟨v10,h11,hm⟩:=qA hm;refine s_vv [qc 1 [22] 3 (YT a2 v10 h11)] 3 [1,13,20] [(14,vi v10)] ?_;refine s_va 3 [(25,vb (v10 !=0))] ?_;refine q_cm hm (λb12 hm=>?_) (λb12 hm=>?_)
  ·refine s_vn [] 3 ⟨[(12,vi v10)],[]⟩ ?_;obtain rfl:=oi hm;refine q_rt ?_;exact q_rm
  ·refine q_sk ?_;refine q_sq ?_;obtain⟨v13,h14,hm⟩:=qA hm;refine s_vv [qc 1 [27] 3 (wN a3 v13 h14)] 3 [14,25] [(15,vi v13)] ?_;refine s_va 3 [(30,vb (v13 !=0))] ?_;refine q_cm hm (λb15 hm=>?_) (λb15 hm=>?_)
   ·refine s_vn [] 3 ⟨[(12,vi v13)],[]⟩ ?_;obtain rfl:=oi hm;refine q_rt ?_;exact q_rm
   ·refine q_sk ?_;refine q_sq ?_;obtain⟨v16,h17,hm⟩:=qA hm;refine s_vu [qc 2 [32,33] 3 (VN a5 a6 v16 h17)] 3 [11,15,30] [(16,vi v16)] [2] [] ?_;refine s_va 3 [(36,vb (v16 !=0))] ?_;refine q_cm hm (λb18 hm=>?_) (λb18 hm=>?_)
    ·refine s_vn [] 3 ⟨[(12,vi v16)],[]⟩ ?_;obtain rfl:=oi hm;refine q_rt ?_;exact q_rm
    ·refine q_sk ?_;obtain⟨v19,h20,hm⟩:=qA hm;refine s_vn [qc 4 [38,39,41] 3 (qIB a4 a3 a5.Kerf v19 h20)] 3 ⟨[(12,vi v19)],[]⟩ ?_;obtain rfl:=oi hm;refine q_rt ?_;exact q_rm
def qGB (r:Int):V:=vi r
def qFQ (r:Int):List (Nat×(Nat×O)):=[]
def qDD (x4:Bool):St:=
 ⟨[(10,vb x4)],[]⟩
theorem qFr (a1:Rect) (a2:Int) (r:Int) (hm:PB a1 a2=some r):CtX Tryz.prog globs 124 0 0 [.agg (qE a1),.one (ci a2)] [] (qGB r) (qFQ r):=by
 unfold PB at hm;refine q_E Tryz.f124 11 λE=>?_;refine s_vn [] 0 ⟨[(1,vi a2)],[]⟩ ?_;refine q_sq ?_;refine q_jn (qDD) (λp=>PD p=some r) ?_ ?_
 ·rintro x4 hm;refine q_cm hm (λb5 hm=>?_) (λb5 hm=>?_)
  ·refine s_vn [] 1 ⟨[(4,vi 8)],[]⟩ ?_;obtain rfl:=oi hm;refine q_rt ?_;exact q_rm
  ·refine q_sk ?_;refine s_vn [] 1 ⟨[(4,vi 0)],[]⟩ ?_;obtain rfl:=oi hm;refine q_rt ?_;exact q_rm
 ·rcases bif_c hm with⟨b3,hm⟩|⟨b3,hm⟩
  ·refine q_vn [qf 2 b3] 1 ⟨[(10,vb true)],[]⟩ ?_;exact q_J (true) hm
  ·refine q_vn [qf 2 b3] 1 ⟨[(10,vb (decide (a2≥16)))],[]⟩ ?_;exact q_J (decide (a2≥16)) hm
noncomputable def KN (a1:Int) (a2:Pattern_place) (a3:Pattern) (a4:Int) (a5:Int) (ri:RI 67) (r:Nat×Int×Int):V:=vb (Nat.beq r.1 0)
noncomputable def KV (a1:Int) (a2:Pattern_place) (a3:Pattern) (a4:Int) (a5:Int) (ri:RI 67) (r:Nat×Int×Int):List (Nat×(Nat×O)):=[(0,lz (rc Tryz.f61 506 ri) ri.b [.ret] r.1),(1,bx 46 (qD a3)),(2,bx 114 [.fn 124 []]),(3,bx 47 [ci r.2.1]),(4,bx 3 [ci r.2.2])]
noncomputable def qAw (ri:RI 67) (a1:Int) (a3:Pattern) (a4:Int) (a5:Int) (x15:Int):St:=
 ⟨[(6,vp 3 0),(7,vp 4 0),(8,vi a1),(11,vi x15)],[(0,ly (rc Tryz.f61 506 ri) ri.b),(1,bx 46 (qD a3)),(2,bx 114 [.fn 124 []]),(3,bx 47 [ci a4]),(4,bx 3 [ci a5])]⟩
noncomputable def CW (ri:RI 67) (a1:Int) (a2:Pattern_place) (a3:Pattern) (a4:Int) (a5:Int) (v8:Int) (x11:Bool):St:=
 ⟨[(5,vp 2 0),(6,vp 3 0),(7,vp 4 0),(8,vi a1),(9,vp 5 0),(10,vp 6 0),(11,vi v8),(50,vb x11)],[(0,ly (rc Tryz.f61 506 ri) ri.b),(1,bx 46 (qD a3)),(2,bx 114 [.fn 124 []]),(3,bx 47 [ci a4]),(4,bx 3 [ci a5]),(5,bx 175 (e_Pattern_place a2)),(6,bx 65 [ci ((a3.Nodes.getD a1.toNat default).Kind),ci ((a3.Nodes.getD a1.toNat default).At)])]⟩
theorem BO (a1:Int) (a2:Pattern_place) (a3:Pattern) (a4:Int) (a5:Int) (ri:RI 67) (r:Nat×Int×Int) (hm:wM a1 a2 a3 a4 a5=some r):CtR Tryz.prog globs (rc Tryz.f61 506 ri) ri.b [3,5,6,7] 5 5 [.one (ci a1),.agg (e_Pattern_place a2),.one (.bptr 1 0 0),.one (.bptr 2 0 0),.one (.bptr 3 0 0),.one (.bptr 4 0 0)] [(0,lq (rc Tryz.f61 506 ri) ri.b),(1,bx 46 (qD a3)),(2,bx 114 [.fn 124 []]),(3,bx 47 [ci a4]),(4,bx 3 [ci a5])] (KN a1 a2 a3 a4 a5 ri r) (KV a1 a2 a3 a4 a5 ri r):=by
 unfold wM at hm;refine q_R Tryz.f61 506 67 ri λE=>?_;refine q_sq ?_;refine q_vn [] 5 ⟨[(3,vp 1 0),(5,vp 2 0),(6,vp 3 0),(7,vp 4 0),(8,vi a1),(30,va (e_Pattern_place a2))],[(0,lq (rc Tryz.f61 506 ri) ri.b),(1,bx 46 (qD a3)),(2,bx 114 [.fn 124 []]),(3,bx 47 [ci a4]),(4,bx 3 [ci a5])]⟩ ?_;refine q_vu [] 5 [30] [(9,vp 5 0)] [] [(5,bx 175 (e_Pattern_place a2))] ?_;refine q_rd ⟨[(3,vp 1 0),(5,vp 2 0),(6,vp 3 0),(7,vp 4 0),(8,vi a1),(9,vp 5 0)],[(0,ly (rc Tryz.f61 506 ri) ri.b),(1,bx 46 (qD a3)),(2,bx 114 [.fn 124 []]),(3,bx 47 [ci a4]),(4,bx 3 [ci a5]),(5,bx 175 (e_Pattern_place a2))]⟩ ?_
 refine q_bk 1 ?_;refine q_sq ?_;refine q_sq ?_;refine q_va 6 [(35,vb (decide (a1≥((a3.Nodes.length:Nat):Int))))] ?_;refine q_cm hm (λb6 hm=>?_) (λb6 hm=>?_)
 ·refine q_sq ?_;refine q_vu [] 6 [3,5,6,7,8,9,35] [] [3,5] [(3,bx 47 [ci 3])] ?_;obtain rfl:=oi hm;refine q_rt ?_;exact q_rq
 ·refine q_sk ?_;refine q_sq ?_;obtain⟨g7,hm⟩:=qG hm;refine q_vu [qi 3 g7] 6 [3,35] [(10,vp 6 0)] [] [(6,bx 65 [ci ((a3.Nodes.getD a1.toNat default).Kind),ci ((a3.Nodes.getD a1.toNat default).At)])] ?_;refine q_sq ?_;obtain⟨v8,h9,hm⟩:=qA hm;refine q_vv [qc 2 [41,42] 7 (EK (a3.Nodes.getD a1.toNat default) a2 v8 h9)] 7 [] [(11,vi v8)] ?_;refine q_jn (qAw ri a1 a3 a4 a5) (λp=>ZE a1 a4 a5 p=some r) ?_ ?_
  ·rintro x15 hm;refine q_sq ?_;refine q_sq ?_;refine q_va 7 [(58,vb (x15 !=0))] ?_;refine q_cm hm (λb16 hm=>?_) (λb16 hm=>?_)
   ·refine q_sq ?_;refine q_vu [] 7 [6,7,8,11,58] [] [3] [(3,bx 47 [ci x15])] ?_;obtain rfl:=oi hm;refine q_rt ?_;exact q_rq
   ·refine q_sk ?_;refine q_vu [] 7 [6,7,8,11,58] [] [4] [(4,bx 3 [ci (w64 (a1+1))])] ?_;obtain rfl:=oi hm;exact q_rq
  ·refine q_jn (CW ri a1 a2 a3 a4 a5 v8) (λp=>ZC a1 a2 a3 a4 a5 v8 p=some r) ?_ ?_
   ·rintro x11 hm;refine q_cm hm (λb12 hm=>?_) (λb12 hm=>?_)
    ·obtain⟨v13,h14,hm⟩:=qA hm;refine q_vu [qk 5 [51,53,55] 7 ⟨[(51,vc (.fn 124 [])),(53,va (qE a2.rect)),(55,vi ((a3.Nodes.getD a1.toNat default).At))],[]⟩ (qFr a2.rect ((a3.Nodes.getD a1.toNat default).At) v13 h14)] 7 [5,9,10,11,50] [(11,vi v13)] [5,6] [] ?_;exact q_J (v13) hm
    ·refine q_sk ?_;exact q_J (v8) hm
   ·rcases bif_c hm with⟨b10,hm⟩|⟨b10,hm⟩
    ·refine q_vv [qf 2 b10] 7 [] [(50,vb (((a3.Nodes.getD a1.toNat default).Kind)==1))] ?_;exact q_J (((a3.Nodes.getD a1.toNat default).Kind)==1) hm
    ·refine q_vv [qf 2 b10] 7 [] [(50,vb false)] ?_;exact q_J (false) hm
end Saw
end Go.SL

import Derived.Test.YtidlfgiogdjkaaaGreatDoorEBase
import Derived.Test.YtidlfgiogdjkaaaGreatDoorELlaw24awake
import Derived.Test.YtidlfgiogdjkaaaGreatDoorELs
import Derived.Test.YtidlfgiogdjkaaaGreatDoorEFa11
import Derived.Test.YtidlfgiogdjkaaaGreatDoorEFa9
set_option linter.unusedVariables false
set_option linter.unusedSimpArgs false
namespace Go.SL
namespace Saw
open Go.Proofs
set_option maxHeartbeats 4000000
set_option maxRecDepth 100000
def qIs (r:Bool):V:=vb r
def qJj (r:Bool):List (Nat×(Nat×O)):=[]
def YI (v14:Pattern×Int×Int) (v23:Yield×Int) (v25:(List Yield_Cut)×Int):St:=
 ⟨[(6,vi v14.2.1),(9,vp 4 0),(11,vo 5 0 9 v25.1.length)],[(4,bx 58 (IR v23.1)),(5,ro 0 131 9 v25.1.length (rf qS v25.1))]⟩
def qFo (a2:List Node) (v14:Pattern×Int×Int) (v23:Yield×Int) (v25:(List Yield_Cut)×Int) (x31:Int) (x35:Int):St:=
 (YI v14 v23 v25).up [] [(1,vc (tl e_Node default a2)),(13,vi x35),(14,vi x31)] [] []
def BF (a2:List Node) (v14:Pattern×Int×Int) (v23:Yield×Int) (v25:(List Yield_Cut)×Int) (x30:Int) (x31:Int):St:=
 (YI v14 v23 v25).up [] [(1,vc (tl e_Node default a2)),(13,vi x30),(14,vi x31)] [] []
def IL (v14:Pattern×Int×Int) (v23:Yield×Int) (v25:(List Yield_Cut)×Int) (x36:Int):St:=
 (YI v14 v23 v25).up [] [(13,vi x36)] [] []
def qFi (x45:Bool):St:=
 ⟨[(4,vb x45)],[]⟩
def qFn (a2:List Node) (v14:Pattern×Int×Int) (v23:Yield×Int) (v25:(List Yield_Cut)×Int) (x28:Bool):St:=
 (YI v14 v23 v25).up [] [(1,vc (tl e_Node default a2)),(87,vb x28)] [] []
def qFq (a1:Law24_Given) (a2:List Node) (v14:Pattern×Int×Int) (x19:Bool):St:=
 ⟨[(1,vc (tl e_Node default a2)),(2,vp 0 0),(6,vi v14.2.1),(8,vp 3 0),(58,vb x19)],[(0,bx 42 (zH a1)),(3,bx 46 [ci a1.Frame.X.A,ci a1.Frame.X.B,ci a1.Frame.Y.A,ci a1.Frame.Y.B,tl e_Node default a2])]⟩
def qFu (a1:Law24_Given) (a2:List Node) (x10:Bool):St:=
 ⟨[(1,vc (tl e_Node default a2)),(2,vp 0 0),(36,vb x10)],[(0,bx 42 (zH a1))]⟩
theorem qEv (E:Env 0) (a2:List Node) (v14:Pattern×Int×Int) (v23:Yield×Int) (v25:(List Yield_Cut)×Int):∀(n:Nat) (x30:Int) (x31:Int) (res:Int),wG a2 n x30 x31=some res->HL (kx E 115 0) (nd Tryz.f9 16372) (zU 0 (λo=>IL v14 v23 v25 o) res) n (BF a2 v14 v23 v25 x30 x31):=by
 intro n
 induction n with
 |zero=>
  intro x30 x31 res hm;cases hm
 |succ n ih=>
  intro x30 x31 res hm;refine qM ?_;refine q_sq ?_;refine s_va 6 [(91,vb (decide (x31<((a2.length:Nat):Int))))] ?_;refine q_cm hm (λb32 hm=>?_) (λb32 hm=>?_)
  ·refine q_sk ?_;refine q_jn (qFo a2 v14 v23 v25 x31) (λp=>TW x31 (wG a2 n) p=some res) ?_ ?_
   ·rintro x35 hm;refine q_vv [] 6 [14] [(14,vi (w64 (x31+1)))] ?_;exact q_hl (BF a2 v14 v23 v25 x35 (w64 (x31+1))) (ih x35 (w64 (x31+1)) _ hm)
   ·refine q_bk 1 ?_;obtain⟨g33,hm⟩:=qG hm;refine s_vv [qi 2 g33] 6 [91] [(99,vb (((a2.getD x31.toNat default).Kind)==1))] ?_;refine q_cm hm (λb34 hm=>?_) (λb34 hm=>?_)
    ·refine q_vv [] 6 [13,99] [(13,vi (w64 (x30+1)))] ?_;exact q_J (w64 (x30+1)) hm
    ·refine q_sk ?_;exact q_J (x30) hm
  ·refine q_ex 0 ?_;obtain rfl:=oi hm;exact wH (by kernel_rfl) (by kernel_rfl)
theorem qHr (a1:Law24_Given) (a2:List Node) (r:Bool) (hm:LK a1 a2=some r):CtX Tryz.prog globs 9 0 0 [.agg (zH a1),.one (tl e_Node default a2)] [] (qIs r) (qJj r):=by
 unfold LK at hm;refine q_E Tryz.f9 115 λE=>?_;refine s_vn [] 0 ⟨[(1,vc (tl e_Node default a2)),(2,vp 0 0)],[(0,bx 42 (zH a1))]⟩ ?_;refine q_sq ?_;refine q_jn (qFu a1 a2) (λp=>XC a1 a2 p=some r) ?_ ?_
 ·rintro x10 hm;refine q_cm hm (λb11 hm=>?_) (λb11 hm=>?_)
  ·obtain⟨v12,h13,hm⟩:=qA hm;refine s_vn [qc 0 [] 1 (LE v12 h13)] 1 ⟨[(4,vb v12)],[]⟩ ?_;obtain rfl:=oi hm;refine q_rt ?_;exact q_rm
  ·refine q_sk ?_;obtain⟨v14,h15,hm⟩:=qA hm;refine s_vv [qc 1 [39] 1 (law24_best_ok a1 v14 h15)] 1 [36] [(6,vi v14.2.1),(7,vi v14.2.2)] ?_;refine s_vu [] 3 [] [(8,vp 3 0)] [] [(3,bx 46 [ci a1.Frame.X.A,ci a1.Frame.X.B,ci a1.Frame.Y.A,ci a1.Frame.Y.B,tl e_Node default a2])] ?_;refine q_sq ?_;refine q_jn (qFq a1 a2 v14) (λp=>MN a1 a2 v14 p=some r) ?_ ?_
   ·rintro x19 hm;refine q_cm hm (λb20 hm=>?_) (λb20 hm=>?_)
    ·obtain⟨v21,h22,hm⟩:=qA hm;refine s_vn [qc 0 [] 4 (LE v21 h22)] 4 ⟨[(4,vb v21)],[]⟩ ?_;obtain rfl:=oi hm;refine q_rt ?_;exact q_rm
    ·refine q_sk ?_;obtain⟨v23,h24,hm⟩:=qA hm;refine s_vu [qc 2 [61,62] 4 (qQc a1 (Pattern.mk a1.Frame a2) v23 h24)] 4 [58] [(9,vp 4 0),(10,vi v23.2)] [] [(4,bx 58 (IR v23.1))] ?_;obtain⟨v25,h26,hm⟩:=qA hm;refine s_vu [qc 12 [68,70,72,73,75,78] 5 (qCS a1.Solid a1.Defects a1.Products (Pattern.mk a1.Frame a2) a1.Saw a1.Rates.Fine v25 h26)] 5 [2,8] [(11,vo 5 0 9 v25.1.length),(12,vi v25.2)] [0,3] [(5,ro 0 131 9 v25.1.length (rf qS v25.1))] ?_;refine q_sq ?_;refine q_jn (qFn a2 v14 v23 v25) (λp=>MH a2 v14 v23 v25 p=some r) ?_ ?_
     ·rintro x28 hm;refine q_cm hm (λb29 hm=>?_) (λb29 hm=>?_)
      ·refine s_vn [] 6 ⟨[(4,vb false)],[]⟩ ?_;obtain rfl:=oi hm;refine q_rt ?_;exact q_rm
      ·refine q_sk ?_;refine s_vv [] 6 [87] [(13,vi 0)] ?_;refine q_sq ?_;refine s_va 6 [(14,vi 0)] ?_;obtain⟨o37,h38,hm⟩:=qA hm;refine zN (nd Tryz.f9 16372) 0 (by kernel_rfl) FUEL (λo=>IL v14 v23 v25 o) o37 (q_hl (BF a2 v14 v23 v25 0 0) (qEv E a2 v14 v23 v25 FUEL 0 0 o37 h38)) ?_;refine q_jn (qFi) (λp=>jR p=some r) ?_ ?_
       ·rintro x45 hm;obtain rfl:=oi hm;refine q_rt ?_;exact q_rm
       ·rcases bif_c hm with⟨b39,hm⟩|⟨b39,hm⟩
        ·obtain⟨v40,h41,hm⟩:=qA hm;refine q_vn [qf 4 b39,qk 11 [112] 6 ⟨[(112,vb true)],[]⟩ (LE v40 h41)] 6 ⟨[(4,vb v40)],[]⟩ ?_;exact q_J (v40) hm
        ·rcases bif_c hm with⟨b42,hm⟩|⟨b42,hm⟩
         ·obtain⟨v43,h44,hm⟩:=qA hm;refine q_vn [qf 4 b39,qf 10 b42,qk 11 [112] 6 ⟨[(112,vb true)],[]⟩ (LE v43 h44)] 6 ⟨[(4,vb v43)],[]⟩ ?_;exact q_J (v43) hm
         ·refine q_vn [qf 4 b39,qf 10 b42] 6 ⟨[(4,vb false)],[]⟩ ?_;exact q_J (false) hm
     ·rcases bif_c hm with⟨b27,hm⟩|⟨b27,hm⟩
      ·refine q_vv [qf 2 b27] 6 [10,12] [(87,vb true)] ?_;exact q_J (true) hm
      ·refine q_vv [qf 2 b27] 6 [10,12] [(87,vb (v25.2 !=0))] ?_;exact q_J (v25.2 !=0) hm
   ·rcases bif_c hm with⟨b16,hm⟩|⟨b16,hm⟩
    ·refine q_vv [qf 2 b16] 4 [7] [(58,vb true)] ?_;exact q_J (true) hm
    ·obtain⟨v17,h18,hm⟩:=qA hm;refine q_vv [qf 2 b16,qk 8 [50,51,53,55] 4 ⟨[(50,vb false),(51,va [ci a1.Frame.X.A,ci a1.Frame.X.B,ci a1.Frame.Y.A,ci a1.Frame.Y.B,tl e_Node default a2]),(53,vc (tl qC default a1.Products)),(55,va (zB a1.Saw))],[]⟩ (plan_Member_ok (Pattern.mk a1.Frame a2) a1.Products a1.Saw v17 h18)] 4 [7] [(58,vb (!v17))] ?_;exact q_J (!v17) hm
 ·obtain⟨v3,h4,hm⟩:=qA hm;rcases bif_c hm with⟨b5,hm⟩|⟨b5,hm⟩
  ·refine q_vv [qc 1 [15] 1 (LI a1 v3 h4),qf 3 b5] 1 [] [(36,vb true)] ?_;exact q_J (true) hm
  ·obtain⟨v6,h7,hm⟩:=qA hm;rcases bif_c hm with⟨b8,hm⟩|⟨b8,hm⟩
   ·refine q_vv [qc 1 [15] 1 (LI a1 v3 h4),qf 3 b5,qk 5 [18,19] 1 ⟨[(18,vb false),(19,va (zH a1))],[]⟩ (IU a1 v6 h7),qf 8 b8] 1 [] [(36,vb true)] ?_;exact q_J (true) hm
   ·rcases bif_c hm with⟨b9,hm⟩|⟨b9,hm⟩
    ·refine q_vv [qc 1 [15] 1 (LI a1 v3 h4),qf 3 b5,qk 5 [18,19] 1 ⟨[(18,vb false),(19,va (zH a1))],[]⟩ (IU a1 v6 h7),qf 8 b8,qf 17 b9] 1 [] [(36,vb true)] ?_;exact q_J (true) hm
    ·refine q_vv [qc 1 [15] 1 (LI a1 v3 h4),qf 3 b5,qk 5 [18,19] 1 ⟨[(18,vb false),(19,va (zH a1))],[]⟩ (IU a1 v6 h7),qf 8 b8,qf 17 b9] 1 [] [(36,vb (decide (((a2.length:Nat):Int)>140)))] ?_;exact q_J (decide (((a2.length:Nat):Int)>140)) hm
end Saw
end Go.SL

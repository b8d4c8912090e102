import Derived.Test.YtidlfgiogdjkaaaGreatDoorEBase
import Derived.Test.YtidlfgiogdjkaaaGreatDoorEFa7
set_option linter.unusedVariables false
set_option linter.unusedSimpArgs false
namespace Go.SL
namespace Saw
open Go.Proofs
set_option maxHeartbeats 4000000
set_option maxRecDepth 100000
def qB6 (r:Pattern×Int×Int):V:= .tup [.agg [ci r.1.Frame.X.A,ci r.1.Frame.X.B,ci r.1.Frame.Y.A,ci r.1.Frame.Y.B,.own 0 0 2 r.1.Nodes.length],.one (ci r.2.1),.one (ci r.2.2)]
def BY (r:Pattern×Int×Int):List (Nat×(Nat×O)):=[(0,ro 0 65 2 r.1.Nodes.length (rf e_Node r.1.Nodes))]
theorem qGa (r:Pattern×Int×Int):jI (BY r):=by
 intro i k o h;unfold BY at h;rw[look_cons] at h;split at h
 ·cases h;exact λ_ _=>rfl
 ·cases h
theorem law24_best_ok (a1:Law24_Given) (r:Pattern×Int×Int) (hm:GN a1=some r):CtX Tryz.prog globs 19 0 0 [.agg (qFp a1)] [] (qB6 r) (BY r):=by
 unfold GN at hm;refine q_E Tryz.f19 21 λE=>?_;refine s_vn [] 0 ⟨[(1,vp 0 0),(2,vp 1 0)],[(0,bx 42 (qFp a1)),(1,bx 46 [ci 0,ci 0,ci 0,ci 0,.emp])]⟩ ?_;obtain⟨v2,h3,hm⟩:=qA hm;refine s_vu [qc 12 [6,8,10,12,14,16] 2 (qQe a1.Solid a1.Defects a1.Products a1.Frame a1.Saw a1.Rates v2 h3)] 2 [1] [(3,vi v2.2.1),(4,vi v2.2.2)] [0,1] [(1,bx 46 [ci v2.1.Frame.X.A,ci v2.1.Frame.X.B,ci v2.1.Frame.Y.A,ci v2.1.Frame.Y.B,.own 2 0 2 v2.1.Nodes.length]),(2,ro 0 65 2 v2.1.Nodes.length (rf e_Node v2.1.Nodes))] ?_;obtain rfl:=oi hm;refine qS 2 0 (by kernel_rfl) ?_;refine q_rt ?_;exact q_rm
def qDs (r:Bool):V:=vb r
def qDB (r:Bool):List (Nat×(Nat×O)):=[]
def qLE (a1:List Product) (x3:Int) (x8:Bool):St:=
 ⟨[(0,vc (tl qC default a1)),(3,vi x3),(37,vb x8)],[]⟩
def OR (a1:List Product) (x3:Int):St:=
 ⟨[(0,vc (tl qC default a1)),(3,vi x3)],[]⟩
def qEg :St:=
 ⟨[],[]⟩
theorem qKp (E:Env 0) (a1:List Product):∀(n:Nat) (x3:Int) (res:Bool⊕Unit),ZL a1 n x3=some res->HL (kx E 38 0) (nd Tryz.f10 116) (zW 0 (λo=>qEg) (λv st=>RetQ Tryz.prog Tryz.f10 (qDs v) (qDB v) .ret st) res) n (OR a1 x3):=by
 intro n
 induction n with
 |zero=>
  intro x3 res hm;cases hm
 |succ n ih=>
  intro x3 res hm;refine qK ?_;refine q_sq ?_;refine s_va 0 [(10,vb (decide (x3<((a1.length:Nat):Int))))] ?_;refine q_cm hm (λb4 hm=>?_) (λb4 hm=>?_)
  ·refine q_sk ?_;refine q_sq ?_;refine q_bk 1 ?_;refine q_jn (qLE a1 x3) (λp=>FN x3 (ZL a1 n) p=some res) ?_ ?_
   ·rintro x8 hm;refine q_cm hm (λb9 hm=>?_) (λb9 hm=>?_)
    ·refine s_vn [] 0 ⟨[(2,vb false)],[]⟩ ?_;obtain rfl:=oi hm;refine q_rt ?_;refine qU false ?_;exact q_rm
    ·refine q_sk ?_;refine q_vv [] 0 [3,37] [(3,vi (w64 (x3+1)))] ?_;exact q_hl (OR a1 (w64 (x3+1))) (ih (w64 (x3+1)) _ hm)
   ·obtain⟨g5,hm⟩:=qE hm;rcases bif_c hm with⟨b6,hm⟩|⟨b6,hm⟩
    ·refine q_vv [qi 2 g5,qf 7 b6] 0 [10] [(37,vb true)] ?_;exact q_J (true) hm
    ·rcases bif_c hm with⟨b7,hm⟩|⟨b7,hm⟩
     ·refine q_vv [qi 2 g5,qf 7 b6,qi 10 g5,qf 16 b7] 0 [10] [(37,vb true)] ?_;exact q_J (true) hm
     ·refine q_vv [qi 2 g5,qf 7 b6,qi 10 g5,qf 16 b7,qi 19 g5] 0 [10] [(37,vb (decide (((((a1.getD x3.toNat default).Prices).length:Nat):Int)>12)))] ?_;exact q_J (decide (((((a1.getD x3.toNat default).Prices).length:Nat):Int)>12)) hm
  ·refine q_ex 0 ?_;obtain rfl:=oi hm;exact wA () (by kernel_rfl) (by kernel_rfl)
theorem qPA (a1:List Product) (r:Bool) (hm:EI a1=some r):CtX Tryz.prog globs 10 0 0 [.one (tl qC default a1)] [] (qDs r) (qDB r):=by
 unfold EI at hm;refine q_E Tryz.f10 38 λE=>?_;refine s_vn [] 0 ⟨[(0,vc (tl qC default a1))],[]⟩ ?_;refine q_sq ?_;refine s_va 0 [(6,vb (decide (((a1.length:Nat):Int)>20)))] ?_;refine q_cm hm (λb2 hm=>?_) (λb2 hm=>?_)
 ·refine s_vn [] 0 ⟨[(2,vb false)],[]⟩ ?_;obtain rfl:=oi hm;refine q_rt ?_;exact q_rm
 ·refine q_sk ?_;refine q_sq ?_;refine s_vv [] 0 [6] [(3,vi 0)] ?_;obtain⟨u12,h11,hm⟩:=qA hm;refine zA (nd Tryz.f10 116) 0 (by kernel_rfl) FUEL (λo=>qEg) (λv st=>RetQ Tryz.prog Tryz.f10 (qDs v) (qDB v) .ret st) u12 (q_hl (OR a1 0) (qKp E a1 FUEL 0 u12 h11)) ?_ ?_
  ·rintro v13 rfl st hr;obtain rfl:=oi hm;exact hr
  ·rintro o10 rfl;replace hm:_=some r:=hm;refine s_vn [] 0 ⟨[(2,vb true)],[]⟩ ?_;obtain rfl:=oi hm;refine q_rt ?_;exact q_rm
end Saw
end Go.SL

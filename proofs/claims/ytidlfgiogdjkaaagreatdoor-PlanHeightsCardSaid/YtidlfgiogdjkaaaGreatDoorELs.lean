import Derived.Test.YtidlfgiogdjkaaaGreatDoorEBase
import Derived.Test.YtidlfgiogdjkaaaGreatDoorEFa8
set_option linter.unusedVariables false
set_option linter.unusedSimpArgs false
namespace Go.SL
namespace Saw
open Go.Proofs
set_option maxHeartbeats 4000000
set_option maxRecDepth 100000
def qBl (r:Pattern×Int×Int):V:= .tup [.agg [ci r.1.Frame.X.A,ci r.1.Frame.X.B,ci r.1.Frame.Y.A,ci r.1.Frame.Y.B,.own 0 0 2 r.1.Nodes.length],.one (ci r.2.1),.one (ci r.2.2)]
def BO (r:Pattern×Int×Int):List (Nat×(Nat×O)):=[(0,ro 0 65 2 r.1.Nodes.length (rf e_Node r.1.Nodes))]
theorem qFT (r:Pattern×Int×Int):jU (BO r):=by
 intro i k o h;unfold BO at h;rw[look_cons] at h;split at h
 ·cases h;exact λ_ _=>rfl
 ·cases h
theorem law24_best_ok (a1:Law24_Given) (r:Pattern×Int×Int) (hm:TJ a1=some r):CtX Tryz.prog globs 19 0 0 [.agg (qE1 a1)] [] (qBl r) (BO r):=by
 unfold TJ at hm;refine q_E Tryz.f19 21 λE=>?_;refine s_vn [] 0 ⟨[(1,vp 0 0),(2,vp 1 0)],[(0,bx 42 (qE1 a1)),(1,bx 46 [ci 0,ci 0,ci 0,ci 0,.emp])]⟩ ?_;obtain⟨v2,h3,hm⟩:=qA hm;refine s_vu [qc 12 [6,8,10,12,14,16] 2 (qM0 a1.Solid a1.Defects a1.Products a1.Frame a1.Saw a1.Rates v2 h3)] 2 [1] [(3,vi v2.2.1),(4,vi v2.2.2)] [0,1] [(1,bx 46 [ci v2.1.Frame.X.A,ci v2.1.Frame.X.B,ci v2.1.Frame.Y.A,ci v2.1.Frame.Y.B,.own 2 0 2 v2.1.Nodes.length]),(2,ro 0 65 2 v2.1.Nodes.length (rf e_Node v2.1.Nodes))] ?_;obtain rfl:=oi hm;refine qW 2 0 (by kernel_rfl) ?_;refine q_rt ?_;exact q_rm
def ZX (r:Bool):V:=vb r
def jG (r:Bool):List (Nat×(Nat×O)):=[]
theorem MI (r:Bool):jU (jG r):=by
 intro i k o h;unfold jG at h;cases h
def VT (a1:List Int) (a2:List Int) (x4:Int):St:=
 ⟨[(0,vc (tl e_i64 default a1)),(1,vc (tl e_i64 default a2)),(5,vi x4)],[]⟩
def EP :St:=
 ⟨[],[]⟩
theorem qEI (E:Env 0) (a1:List Int) (a2:List Int):∀(n:Nat) (x4:Int) (res:Bool⊕Unit),QY a1 a2 n x4=some res->HL (kx E 26 0) (nd Tryz.f13 116) (zV 0 (λo=>EP) (λv st=>RetQ Tryz.prog Tryz.f13 (ZX v) (jG v) .ret st) res) n (VT a1 a2 x4):=by
 intro n
 induction n with
 |zero=>
  intro x4 res hm;cases hm
 |succ n ih=>
  intro x4 res hm;refine qM ?_;refine q_sq ?_;refine s_vu [] 0 [] [(14,vb (decide (x4<((a1.length:Nat):Int))))] [] [] ?_;refine q_cm hm (λb5 hm=>?_) (λb5 hm=>?_)
  ·refine q_sk ?_;refine q_sq ?_;refine q_bk 1 ?_;obtain⟨g6,hm⟩:=qG hm;obtain⟨g7,hm⟩:=qG hm;refine s_du [qd 2 (Dir.none) (inb_of g6),qd 6 (Dir.none) (inb_of g7)] [0,0,3,7,0,0,48,112,255] 0 [14] [(25,vb ((a1.getD x4.toNat default) !=(a2.getD x4.toNat default)))] [] [] ?_;refine q_cm hm (λb8 hm=>?_) (λb8 hm=>?_)
   ·refine s_vn [] 0 ⟨[(4,vb false)],[]⟩ ?_;obtain rfl:=oi hm;refine q_rt ?_;refine qT false ?_;exact q_rm
   ·refine q_sk ?_;refine q_vu [] 0 [5,25] [(5,vi (w64 (x4+1)))] [] [] ?_;exact q_hl (VT a1 a2 (w64 (x4+1))) (ih (w64 (x4+1)) _ hm)
  ·refine q_ex 0 ?_;obtain rfl:=oi hm;exact wB () (by kernel_rfl) (by kernel_rfl)
theorem law24_sameInts_ok (a1:List Int) (a2:List Int) (r:Bool) (hm:YV a1 a2=some r):CtX Tryz.prog globs 13 0 0 [.one (tl e_i64 default a1),.one (tl e_i64 default a2)] [] (ZX r) (jG r):=by
 unfold YV at hm;refine q_E Tryz.f13 26 λE=>?_;refine s_vn [] 0 ⟨[(0,vc (tl e_i64 default a1)),(1,vc (tl e_i64 default a2))],[]⟩ ?_;refine q_sq ?_;refine s_vu [] 0 [] [(10,vb (((a1.length:Nat):Int) !=((a2.length:Nat):Int)))] [] [] ?_;refine q_cm hm (λb3 hm=>?_) (λb3 hm=>?_)
 ·refine s_vn [] 0 ⟨[(4,vb false)],[]⟩ ?_;obtain rfl:=oi hm;refine q_rt ?_;exact q_rm
 ·refine q_sk ?_;refine q_sq ?_;refine s_vu [] 0 [10] [(5,vi 0)] [] [] ?_;obtain⟨u11,h10,hm⟩:=qA hm;refine zA (nd Tryz.f13 116) 0 (by kernel_rfl) FUEL (λo=>EP) (λv st=>RetQ Tryz.prog Tryz.f13 (ZX v) (jG v) .ret st) u11 (q_hl (VT a1 a2 0) (qEI E a1 a2 FUEL 0 u11 h10)) ?_ ?_
  ·rintro v12 rfl st hr;obtain rfl:=oi hm;exact hr
  ·rintro o9 rfl;replace hm:_=some r:=hm;refine s_vn [] 0 ⟨[(4,vb true)],[]⟩ ?_;obtain rfl:=oi hm;refine q_rt ?_;exact q_rm
def qDm (r:Bool):V:=vb r
def qDi (r:Bool):List (Nat×(Nat×O)):=[]
def qDE (a1:List Product) (x3:Int) (x8:Bool):St:=
 ⟨[(0,vc (tl qC default a1)),(3,vi x3),(37,vb x8)],[]⟩
def AT (a1:List Product) (x3:Int):St:=
 ⟨[(0,vc (tl qC default a1)),(3,vi x3)],[]⟩
def qDZ :St:=
 ⟨[],[]⟩
theorem qI4 (E:Env 0) (a1:List Product):∀(n:Nat) (x3:Int) (res:Bool⊕Unit),QG a1 n x3=some res->HL (kx E 38 0) (nd Tryz.f10 116) (zV 0 (λo=>qDZ) (λv st=>RetQ Tryz.prog Tryz.f10 (qDm v) (qDi v) .ret st) res) n (AT a1 x3):=by
 intro n
 induction n with
 |zero=>
  intro x3 res hm;cases hm
 |succ n ih=>
  intro x3 res hm;refine qM ?_;refine q_sq ?_;refine s_vu [] 0 [] [(10,vb (decide (x3<((a1.length:Nat):Int))))] [] [] ?_;refine q_cm hm (λb4 hm=>?_) (λb4 hm=>?_)
  ·refine q_sk ?_;refine q_sq ?_;refine q_bk 1 ?_;refine q_jn (ι:=Bool) (λp=>qDE a1 x3 p) (λp=>DU x3 (QG a1 n) p=some res) ?_ ?_
   ·rintro x8 hm;show H _ (qDE a1 x3 x8) _ _;refine q_cm hm (λb9 hm=>?_) (λb9 hm=>?_)
    ·refine s_vn [] 0 ⟨[(2,vb false)],[]⟩ ?_;obtain rfl:=oi hm;refine q_rt ?_;refine qT false ?_;exact q_rm
    ·refine q_sk ?_;refine q_vu [] 0 [3,37] [(3,vi (w64 (x3+1)))] [] [] ?_;exact q_hl (AT a1 (w64 (x3+1))) (ih (w64 (x3+1)) _ hm)
   ·obtain⟨g5,hm⟩:=qG hm;rcases bif_c hm with⟨b6,hm⟩|⟨b6,hm⟩
    ·refine q_vu [qd 2 (Dir.none) (inb_of g5),qf 7 b6] 0 [10] [(37,vb true)] [] [] ?_;exact q_J (true) hm
    ·rcases bif_c hm with⟨b7,hm⟩|⟨b7,hm⟩
     ·refine q_vu [qd 2 (Dir.none) (inb_of g5),qf 7 b6,qd 10 (Dir.none) (inb_of g5),qf 16 b7] 0 [10] [(37,vb true)] [] [] ?_;exact q_J (true) hm
     ·refine q_vu [qd 2 (Dir.none) (inb_of g5),qf 7 b6,qd 10 (Dir.none) (inb_of g5),qf 16 b7,qd 19 (Dir.none) (inb_of g5)] 0 [10] [(37,vb (decide (((((a1.getD x3.toNat default).Prices).length:Nat):Int)>12)))] [] [] ?_;exact q_J (decide (((((a1.getD x3.toNat default).Prices).length:Nat):Int)>12)) hm
  ·refine q_ex 0 ?_;obtain rfl:=oi hm;exact wB () (by kernel_rfl) (by kernel_rfl)
theorem qFF (a1:List Product) (r:Bool) (hm:HO a1=some r):CtX Tryz.prog globs 10 0 0 [.one (tl qC default a1)] [] (qDm r) (qDi r):=by
 unfold HO at hm;refine q_E Tryz.f10 38 λE=>?_;refine s_vn [] 0 ⟨[(0,vc (tl qC default a1))],[]⟩ ?_;refine q_sq ?_;refine s_vu [] 0 [] [(6,vb (decide (((a1.length:Nat):Int)>20)))] [] [] ?_;refine q_cm hm (λb2 hm=>?_) (λb2 hm=>?_)
 ·refine s_vn [] 0 ⟨[(2,vb false)],[]⟩ ?_;obtain rfl:=oi hm;refine q_rt ?_;exact q_rm
 ·refine q_sk ?_;refine q_sq ?_;refine s_vu [] 0 [6] [(3,vi 0)] [] [] ?_;obtain⟨u12,h11,hm⟩:=qA hm;refine zA (nd Tryz.f10 116) 0 (by kernel_rfl) FUEL (λo=>qDZ) (λv st=>RetQ Tryz.prog Tryz.f10 (qDm v) (qDi v) .ret st) u12 (q_hl (AT a1 0) (qI4 E a1 FUEL 0 u12 h11)) ?_ ?_
  ·rintro v13 rfl st hr;obtain rfl:=oi hm;exact hr
  ·rintro o10 rfl;replace hm:_=some r:=hm;refine s_vn [] 0 ⟨[(2,vb true)],[]⟩ ?_;obtain rfl:=oi hm;refine q_rt ?_;exact q_rm
def CP (r:Bool):V:=vb r
def CZ (r:Bool):List (Nat×(Nat×O)):=[]
def MM (a1:List qB) (x3:Int):St:=
 ⟨[(0,vc (tl qE default a1)),(3,vi x3)],[]⟩
def qBZ :St:=
 ⟨[],[]⟩
theorem qG1 (E:Env 0) (a1:List qB):∀(n:Nat) (x3:Int) (res:Bool⊕Unit),YM a1 n x3=some res->HL (kx E 21 0) (nd Tryz.f11 116) (zV 0 (λo=>qBZ) (λv st=>RetQ Tryz.prog Tryz.f11 (CP v) (CZ v) .ret st) res) n (MM a1 x3):=by
 intro n
 induction n with
 |zero=>
  intro x3 res hm;cases hm
 |succ n ih=>
  intro x3 res hm;refine qM ?_;refine q_sq ?_;refine s_vu [] 0 [] [(10,vb (decide (x3<((a1.length:Nat):Int))))] [] [] ?_;refine q_cm hm (λb4 hm=>?_) (λb4 hm=>?_)
  ·refine q_sk ?_;refine q_sq ?_;refine q_bk 1 ?_;obtain⟨g5,hm⟩:=qG hm;refine s_vu [qd 2 (Dir.none) (inb_of g5)] 0 [10] [(20,vb (decide ((((((a1.getD x3.toNat default).Sec).Rows).length:Nat):Int)>130)))] [] [] ?_;refine q_cm hm (λb6 hm=>?_) (λb6 hm=>?_)
   ·refine s_vn [] 0 ⟨[(2,vb false)],[]⟩ ?_;obtain rfl:=oi hm;refine q_rt ?_;refine qT false ?_;exact q_rm
   ·refine q_sk ?_;refine q_vu [] 0 [3,20] [(3,vi (w64 (x3+1)))] [] [] ?_;exact q_hl (MM a1 (w64 (x3+1))) (ih (w64 (x3+1)) _ hm)
  ·refine q_ex 0 ?_;obtain rfl:=oi hm;exact wB () (by kernel_rfl) (by kernel_rfl)
theorem qJT (a1:List qB) (r:Bool) (hm:UW a1=some r):CtX Tryz.prog globs 11 0 0 [.one (tl qE default a1)] [] (CP r) (CZ r):=by
 unfold UW at hm;refine q_E Tryz.f11 21 λE=>?_;refine s_vn [] 0 ⟨[(0,vc (tl qE default a1))],[]⟩ ?_;refine q_sq ?_;refine s_vu [] 0 [] [(6,vb (decide (((a1.length:Nat):Int)>30)))] [] [] ?_;refine q_cm hm (λb2 hm=>?_) (λb2 hm=>?_)
 ·refine s_vn [] 0 ⟨[(2,vb false)],[]⟩ ?_;obtain rfl:=oi hm;refine q_rt ?_;exact q_rm
 ·refine q_sk ?_;refine q_sq ?_;refine s_vu [] 0 [6] [(3,vi 0)] [] [] ?_;obtain⟨u9,h8,hm⟩:=qA hm;refine zA (nd Tryz.f11 116) 0 (by kernel_rfl) FUEL (λo=>qBZ) (λv st=>RetQ Tryz.prog Tryz.f11 (CP v) (CZ v) .ret st) u9 (q_hl (MM a1 0) (qG1 E a1 FUEL 0 u9 h8)) ?_ ?_
  ·rintro v10 rfl st hr;obtain rfl:=oi hm;exact hr
  ·rintro o7 rfl;replace hm:_=some r:=hm;refine s_vn [] 0 ⟨[(2,vb true)],[]⟩ ?_;obtain rfl:=oi hm;refine q_rt ?_;exact q_rm
end Saw
end Go.SL

import Derived.Test.YtidlfgiogdjkaaaGreatDoorEBase
import Derived.Test.YtidlfgiogdjkaaaGreatDoorEFa1
set_option linter.unusedVariables false
set_option linter.unusedSimpArgs false
namespace Go.SL
namespace Saw
open Go.Proofs
set_option maxHeartbeats 4000000
set_option maxRecDepth 100000
def RP (r:Int):V:=vi r
def ZP (r:Int):List (Nat×(Nat×O)):=[]
theorem qCu (r:Int):yT (ZP r):=by
 intro i k o h;unfold ZP at h;cases h
def NZ (a1:List Product) (x3:Int):St:=
 ⟨[(0,vc (tl qC default a1)),(11,vc (tl qC default a1)),(12,vi ((a1.length:Nat):Int)),(13,vi x3)],[]⟩
def qAh :St:=
 ⟨[],[]⟩
theorem qFt (E:Env 0) (a1:List Product):∀(n:Nat) (x3:Int) (res:Int⊕Unit),QR a1 n x3=some res->HL (kx E 38 0) (nd Tryz.f30 116) (wI 0 (λo=>qAh) (λv st=>RetQ Tryz.prog Tryz.f30 (RP v) (ZP v) .ret st) res) n (NZ a1 x3):=by
 intro n
 induction n with
 |zero=>
  intro x3 res hm;cases hm
 |succ n ih=>
  intro x3 res hm;refine qM ?_;refine s_va 0 [(14,vb (decide (x3<((a1.length:Nat):Int))))] ?_;refine q_sq ?_;refine q_cm hm (λb4 hm=>?_) (λb4 hm=>?_)
  ·refine q_sk ?_;refine q_sq ?_;refine q_bk 1 ?_;obtain⟨g5,hm⟩:=qG hm;refine s_vu [qi 1 g5] 0 [14] [(3,vi x3),(4,vp 0 0)] [] [(0,bx 54 [cs ((a1.getD x3.toNat default).Name),ci ((a1.getD x3.toNat default).Thick),ci ((a1.getD x3.toNat default).Width),ci ((a1.getD x3.toNat default).Allow),ci ((a1.getD x3.toNat default).Wane),tl e_i64 default ((a1.getD x3.toNat default).Lengths),tl e_i64 default ((a1.getD x3.toNat default).Prices)])] ?_;refine q_sq ?_;obtain⟨v6,h7,hm⟩:=qA hm;refine s_vv [qc 2 [19] 1 (qKm ((a1.getD x3.toNat default).Name) v6 h7)] 1 [] [(21,vb (!v6))] ?_
   refine q_cm hm (λb8 hm=>?_) (λb8 hm=>?_)
   ·refine s_vn [] 1 ⟨[(2,vi 6)],[]⟩ ?_;obtain rfl:=oi hm;refine q_rt ?_;refine qY 6 ?_;exact q_rm
   ·refine q_sk ?_;refine q_sq ?_;obtain⟨g9,hm⟩:=qG hm;obtain⟨v10,h11,hm⟩:=qA hm;refine s_du [qd 2 (drw ((a1.take x3.toNat).length) 0 (rf qC (a1.take x3.toNat))) (slPhi qC default a1 x3 (And.intro (slOk_of g9).2.1 (slOk_of g9).2.2)),qc 5 [25,27] 1 (qKa (a1.take x3.toNat) ((a1.getD x3.toNat default).Name) v10 h11)] [0,0,3,0,8,31,63,127,127,255,1023] 1 [3,21] [(6,vb v10.2)] [] [] ?_;refine s_vv [] 1 [6] [(31,vb v10.2)] ?_;refine q_cm hm (λb12 hm=>?_) (λb12 hm=>?_)
    ·refine s_vn [] 1 ⟨[(2,vi 7)],[]⟩ ?_;obtain rfl:=oi hm;refine q_rt ?_;refine qY 7 ?_;exact q_rm
    ·refine q_sk ?_;obtain⟨v13,h14,hm⟩:=qA hm;refine s_vu [qc 1 [32] 1 (qCc (a1.getD x3.toNat default) v13 h14)] 1 [4,31] [(7,vi v13)] [0] [] ?_;refine s_va 1 [(35,vb (v13 !=0))] ?_;refine q_cm hm (λb15 hm=>?_) (λb15 hm=>?_)
     ·refine s_vn [] 1 ⟨[(2,vi v13)],[]⟩ ?_;obtain rfl:=oi hm;refine q_rt ?_;refine qY v13 ?_;exact q_rm
     ·refine q_sk ?_;refine q_vv [] 1 [7,13,35] [(13,vi (w64 (x3+1)))] ?_;exact q_hl (NZ a1 (w64 (x3+1))) (ih (w64 (x3+1)) _ hm)
  ·refine q_ex 0 ?_;obtain rfl:=oi hm;exact wR () (by kernel_rfl) (by kernel_rfl)
theorem wN (a1:List Product) (r:Int) (hm:jM a1=some r):CtX Tryz.prog globs 30 0 0 [.one (tl qC default a1)] [] (RP r) (ZP r):=by
 unfold jM at hm;refine q_E Tryz.f30 38 λE=>?_;refine s_vn [] 0 ⟨[(0,vc (tl qC default a1))],[]⟩ ?_;refine q_sq ?_;refine s_va 0 [(10,vb (decide (((a1.length:Nat):Int)>16)))] ?_;refine q_cm hm (λb2 hm=>?_) (λb2 hm=>?_)
 ·refine s_vn [] 0 ⟨[(2,vi 4)],[]⟩ ?_;obtain rfl:=oi hm;refine q_rt ?_;exact q_rm
 ·refine q_sk ?_;refine q_sq ?_;refine s_vv [] 0 [10] [(11,vc (tl qC default a1)),(12,vi ((a1.length:Nat):Int)),(13,vi 0)] ?_;obtain⟨u18,h17,hm⟩:=qA hm;refine zQ (nd Tryz.f30 116) 0 (by kernel_rfl) FUEL (λo=>qAh) (λv st=>RetQ Tryz.prog Tryz.f30 (RP v) (ZP v) .ret st) u18 (q_hl (NZ a1 0) (qFt E a1 FUEL 0 u18 h17)) ?_ ?_
  ·rintro v19 rfl st hr;obtain rfl:=oi hm;exact hr
  ·rintro o16 rfl;replace hm:_=some r:=hm;refine s_vn [] 0 ⟨[(2,vi 0)],[]⟩ ?_;obtain rfl:=oi hm;refine q_rt ?_;exact q_rm
def qLt (r:Bool):V:=vb r
def qLT (r:Bool):List (Nat×(Nat×O)):=[]
def qHH (x3:Bool):St:=
 ⟨[(2,vb x3)],[]⟩
theorem qCP (a1:Int) (r:Bool) (hm:UG a1=some r):CtX Tryz.prog globs 105 0 0 [.one (ci a1)] [] (qLt r) (qLT r):=by
 unfold UG at hm;refine q_E Tryz.f105 9 λE=>?_;refine s_vn [] 0 ⟨[(0,vi a1)],[]⟩ ?_;refine q_jn (qHH) (λp=>BM p=some r) ?_ ?_
 ·rintro x3 hm;obtain rfl:=oi hm;refine q_rt ?_;exact q_rm
 ·rcases bif_c hm with⟨b2,hm⟩|⟨b2,hm⟩
  ·refine q_vn [qf 2 b2] 0 ⟨[(2,vb (decide (a1<=1000000)))],[]⟩ ?_;exact q_J (decide (a1<=1000000)) hm
  ·refine q_vn [qf 2 b2] 0 ⟨[(2,vb false)],[]⟩ ?_;exact q_J (false) hm
def qLV (r:Bool):V:=vb r
def qLX (r:Bool):List (Nat×(Nat×O)):=[]
def qHI (x3:Bool):St:=
 ⟨[(2,vb x3)],[]⟩
theorem AJ (a1:Int) (r:Bool) (hm:UV a1=some r):CtX Tryz.prog globs 104 0 0 [.one (ci a1)] [] (qLV r) (qLX r):=by
 unfold UV at hm;refine q_E Tryz.f104 9 λE=>?_;refine s_vn [] 0 ⟨[(0,vi a1)],[]⟩ ?_;refine q_jn (qHI) (λp=>BI p=some r) ?_ ?_
 ·rintro x3 hm;obtain rfl:=oi hm;refine q_rt ?_;exact q_rm
 ·rcases bif_c hm with⟨b2,hm⟩|⟨b2,hm⟩
  ·refine q_vn [qf 2 b2] 0 ⟨[(2,vb (decide (a1<=20000)))],[]⟩ ?_;exact q_J (decide (a1<=20000)) hm
  ·refine q_vn [qf 2 b2] 0 ⟨[(2,vb false)],[]⟩ ?_;exact q_J (false) hm
def qNq (r:Int):V:=vi r
def qNj (r:Int):List (Nat×(Nat×O)):=[]
def qIW (x20:Bool):St:=
 ⟨[(60,vb x20)],[]⟩
def qIE (a2:Rates) (x12:Bool):St:=
 ⟨[(3,vp 1 0),(36,vb x12)],[(1,bx 40 (zS a2))]⟩
def qIc (a1:Saw) (a2:Rates) (x6:Bool):St:=
 ⟨[(2,vp 0 0),(3,vp 1 0),(22,vb x6)],[(0,bx 38 (zB a1)),(1,bx 40 (zS a2))]⟩
theorem VN (a1:Saw) (a2:Rates) (r:Int) (hm:XN a1 a2=some r):CtX Tryz.prog globs 50 0 0 [.agg (zB a1),.agg (zS a2)] [] (qNq r) (qNj r):=by
 unfold XN at hm;refine q_E Tryz.f50 61 λE=>?_;refine s_vn [] 0 ⟨[(2,vp 0 0),(3,vp 1 0)],[(0,bx 38 (zB a1)),(1,bx 40 (zS a2))]⟩ ?_;refine q_sq ?_;refine q_jn (qIc a1 a2) (λp=>XY a1 a2 p=some r) ?_ ?_
 ·rintro x6 hm;refine q_cm hm (λb7 hm=>?_) (λb7 hm=>?_)
  ·refine s_vn [] 2 ⟨[(4,vi 9)],[]⟩ ?_;obtain rfl:=oi hm;refine q_rt ?_;exact q_rm
  ·refine q_sk ?_;refine q_sq ?_;refine q_jn (qIE a2) (λp=>UT a2 p=some r) ?_ ?_
   ·rintro x12 hm;refine q_cm hm (λb13 hm=>?_) (λb13 hm=>?_)
    ·refine s_vn [] 2 ⟨[(4,vi 9)],[]⟩ ?_;obtain rfl:=oi hm;refine q_rt ?_;exact q_rm
    ·refine q_sk ?_;refine q_sq ?_;refine q_jn (qIW) (λp=>JK p=some r) ?_ ?_
     ·rintro x20 hm;refine q_cm hm (λb21 hm=>?_) (λb21 hm=>?_)
      ·refine s_vn [] 2 ⟨[(4,vi 9)],[]⟩ ?_;obtain rfl:=oi hm;refine q_rt ?_;exact q_rm
      ·refine q_sk ?_;refine s_vn [] 2 ⟨[(4,vi 0)],[]⟩ ?_;obtain rfl:=oi hm;refine q_rt ?_;exact q_rm
     ·rcases bif_c hm with⟨b14,hm⟩|⟨b14,hm⟩
      ·refine q_vn [qf 3 b14] 2 ⟨[(60,vb true)],[]⟩ ?_;exact q_J (true) hm
      ·rcases bif_c hm with⟨b15,hm⟩|⟨b15,hm⟩
       ·refine q_vn [qf 3 b14,qf 8 b15] 2 ⟨[(60,vb true)],[]⟩ ?_;exact q_J (true) hm
       ·rcases bif_c hm with⟨b16,hm⟩|⟨b16,hm⟩
        ·refine q_vn [qf 3 b14,qf 8 b15,qf 13 b16] 2 ⟨[(60,vb true)],[]⟩ ?_;exact q_J (true) hm
        ·rcases bif_c hm with⟨b17,hm⟩|⟨b17,hm⟩
         ·refine q_vn [qf 3 b14,qf 8 b15,qf 13 b16,qf 18 b17] 2 ⟨[(60,vb true)],[]⟩ ?_;exact q_J (true) hm
         ·obtain⟨v18,h19,hm⟩:=qA hm;refine q_vn [qf 3 b14,qf 8 b15,qf 13 b16,qf 18 b17,qk 21 [55,57] 2 ⟨[(55,vb false),(57,vi a2.Fine)],[]⟩ (qCP a2.Fine v18 h19)] 2 ⟨[(60,vb (!v18))],[]⟩ ?_;exact q_J (!v18) hm
   ·rcases bif_c hm with⟨b8,hm⟩|⟨b8,hm⟩
    ·refine q_vu [qf 3 b8] 2 [2,22] [(36,vb true)] [0] [] ?_;exact q_J (true) hm
    ·rcases bif_c hm with⟨b9,hm⟩|⟨b9,hm⟩
     ·refine q_vu [qf 3 b8,qf 8 b9] 2 [2,22] [(36,vb true)] [0] [] ?_;exact q_J (true) hm
     ·obtain⟨v10,h11,hm⟩:=qA hm;refine q_vu [qf 3 b8,qf 8 b9,qk 11 [31,33] 2 ⟨[(31,vb false),(33,vi a1.Step)],[]⟩ (AJ a1.Step v10 h11)] 2 [2,22] [(36,vb (!v10))] [0] [] ?_;exact q_J (!v10) hm
 ·rcases bif_c hm with⟨b3,hm⟩|⟨b3,hm⟩
  ·refine q_vv [qf 3 b3] 2 [] [(22,vb true)] ?_;exact q_J (true) hm
  ·rcases bif_c hm with⟨b4,hm⟩|⟨b4,hm⟩
   ·refine q_vv [qf 3 b3,qf 8 b4] 2 [] [(22,vb true)] ?_;exact q_J (true) hm
   ·rcases bif_c hm with⟨b5,hm⟩|⟨b5,hm⟩
    ·refine q_vv [qf 3 b3,qf 8 b4,qf 13 b5] 2 [] [(22,vb true)] ?_;exact q_J (true) hm
    ·refine q_vv [qf 3 b3,qf 8 b4,qf 13 b5] 2 [] [(22,vb (decide (a1.Trim>20)))] ?_;exact q_J (decide (a1.Trim>20)) hm
def MW (r:Int):V:=vi r
def ML (r:Int):List (Nat×(Nat×O)):=[]
def qD9 (a1:Rect) (x5:Int) (x9:Bool):St:=
 ⟨[(33,va (qE a1)),(34,vi x5),(42,vb x9)],[]⟩
def GC (a1:Rect) (x5:Int):St:=
 ⟨[(33,va (qE a1)),(34,vi x5)],[]⟩
def AD :St:=
 ⟨[],[]⟩
def qEA (a1:Rect) (x3:Bool):St:=
 ⟨[(1,vp 0 0),(20,vb x3)],[(0,bx 33 (qE a1))]⟩
theorem qDI (E:Env 0) (a1:Rect):∀(n:Nat) (x5:Int) (res:Int⊕Unit),zD a1 n x5=some res->HL (kx E 44 0) (nd Tryz.f51 116) (wI 0 (λo=>AD) (λv st=>RetQ Tryz.prog Tryz.f51 (MW v) (ML v) .ret st) res) n (GC a1 x5):=by
 intro n
 induction n with
 |zero=>
  intro x5 res hm;cases hm
 |succ n ih=>
  intro x5 res hm;refine qM ?_;refine s_va 1 [(35,vb (decide (x5<4)))] ?_;refine q_sq ?_;refine q_cm hm (λb6 hm=>?_) (λb6 hm=>?_)
  ·refine q_sk ?_;refine q_sq ?_;refine q_bk 1 ?_;obtain⟨g7,hm⟩:=qG hm;refine s_vv [qi 0 g7] 1 [35] [(4,vi (([a1.X.A,a1.X.B,a1.Y.A,a1.Y.B]:List Int).getD x5.toNat 0))] ?_;refine q_jn (qD9 a1 x5) (λp=>LA x5 (zD a1 n) p=some res) ?_ ?_
   ·rintro x9 hm;refine q_cm hm (λb10 hm=>?_) (λb10 hm=>?_)
    ·refine s_vn [] 1 ⟨[(2,vi 9)],[]⟩ ?_;obtain rfl:=oi hm;refine q_rt ?_;refine qY 9 ?_;exact q_rm
    ·refine q_sk ?_;refine q_vv [] 1 [34,42] [(34,vi (w64 (x5+1)))] ?_;exact q_hl (GC a1 (w64 (x5+1))) (ih (w64 (x5+1)) _ hm)
   ·rcases bif_c hm with⟨b8,hm⟩|⟨b8,hm⟩
    ·refine q_vv [qf 2 b8] 1 [4] [(42,vb true)] ?_;exact q_J (true) hm
    ·refine q_vv [qf 2 b8] 1 [4] [(42,vb (decide ((([a1.X.A,a1.X.B,a1.Y.A,a1.Y.B]:List Int).getD x5.toNat 0)>600)))] ?_;exact q_J (decide ((([a1.X.A,a1.X.B,a1.Y.A,a1.Y.B]:List Int).getD x5.toNat 0)>600)) hm
  ·refine q_ex 0 ?_;obtain rfl:=oi hm;exact wR () (by kernel_rfl) (by kernel_rfl)
theorem qAz (a1:Rect) (r:Int) (hm:yZ a1=some r):CtX Tryz.prog globs 51 0 0 [.agg (qE a1)] [] (MW r) (ML r):=by
 unfold yZ at hm;refine q_E Tryz.f51 44 λE=>?_;refine s_vn [] 0 ⟨[(1,vp 0 0)],[(0,bx 33 (qE a1))]⟩ ?_;refine q_sq ?_;refine q_jn (qEA a1) (λp=>TE a1 p=some r) ?_ ?_
 ·rintro x3 hm;refine q_cm hm (λb4 hm=>?_) (λb4 hm=>?_)
  ·refine s_vn [] 1 ⟨[(2,vi 19)],[]⟩ ?_;obtain rfl:=oi hm;refine q_rt ?_;exact q_rm
  ·refine q_sk ?_;refine q_sq ?_;refine s_vn [] 1 ⟨[(33,va (qE a1)),(34,vi 0)],[]⟩ ?_;obtain⟨u13,h12,hm⟩:=qA hm;refine zQ (nd Tryz.f51 116) 0 (by kernel_rfl) FUEL (λo=>AD) (λv st=>RetQ Tryz.prog Tryz.f51 (MW v) (ML v) .ret st) u13 (q_hl (GC a1 0) (qDI E a1 FUEL 0 u13 h12)) ?_ ?_
   ·rintro v14 rfl st hr;obtain rfl:=oi hm;exact hr
   ·rintro o11 rfl;replace hm:_=some r:=hm;refine s_vn [] 1 ⟨[(2,vi 0)],[]⟩ ?_;obtain rfl:=oi hm;refine q_rt ?_;exact q_rm
 ·rcases bif_c hm with⟨b2,hm⟩|⟨b2,hm⟩
  ·refine q_vv [qf 7 b2] 1 [] [(20,vb true)] ?_;exact q_J (true) hm
  ·refine q_vv [qf 7 b2] 1 [] [(20,vb (decide (a1.Y.A≥a1.Y.B)))] ?_;exact q_J (decide (a1.Y.A≥a1.Y.B)) hm
def qPN (r:Int):V:=vi r
def qPo (r:Int):List (Nat×(Nat×O)):=[]
theorem qNH (a1:List qB) (a2:List Defect) (a3:List Product) (a4:Rect) (a5:Saw) (a6:Rates) (r:Int) (hm:GI a1 a2 a3 a4 a5 a6=some r):CtX Tryz.prog globs 85 0 0 [.one (tl qI default a1),.one (tl qJ default a2),.one (tl qC default a3),.agg (qE a4),.agg (zB a5),.agg (zS a6)] [] (qPN r) (qPo r):=by
 unfold GI at hm;refine q_E Tryz.f85 40 λE=>?_;refine s_vn [] 0 ⟨[(0,vc (tl qI default a1)),(1,vc (tl qJ default a2)),(2,vc (tl qC default a3)),(9,vp 0 0),(10,vp 1 0),(11,vp 2 0)],[(0,bx 33 (qE a4)),(1,bx 38 (zB a5)),(2,bx 40 (zS a6))]⟩ ?_;refine q_sq ?_;obtain⟨v7,h8,hm⟩:=qA hm;refine s_vv [qc 1 [17] 3 (QU a1 v7 h8)] 3 [0] [(13,vi v7)] ?_;refine s_va 3 [(20,vb (v7 !=0))] ?_;refine q_cm hm (λb9 hm=>?_) (λb9 hm=>?_)
 ·refine s_vn [] 3 ⟨[(12,vi v7)],[]⟩ ?_;obtain rfl:=oi hm;refine q_rt ?_;exact q_rm
 ·refine q_sk ?_;refine q_sq ?_;obtain⟨v10,h11,hm⟩:=qA hm;refine s_vv [qc 1 [22] 3 (YT a2 v10 h11)] 3 [1,13,20] [(14,vi v10)] ?_;refine s_va 3 [(25,vb (v10 !=0))] ?_;refine q_cm hm (λb12 hm=>?_) (λb12 hm=>?_)
  ·refine s_vn [] 3 ⟨[(12,vi v10)],[]⟩ ?_;obtain rfl:=oi hm;refine q_rt ?_;exact q_rm
  ·refine q_sk ?_;refine q_sq ?_;obtain⟨v13,h14,hm⟩:=qA hm;refine s_vv [qc 1 [27] 3 (wN a3 v13 h14)] 3 [2,14,25] [(15,vi v13)] ?_;refine s_va 3 [(30,vb (v13 !=0))] ?_;refine q_cm hm (λb15 hm=>?_) (λb15 hm=>?_)
   ·refine s_vn [] 3 ⟨[(12,vi v13)],[]⟩ ?_;obtain rfl:=oi hm;refine q_rt ?_;exact q_rm
   ·refine q_sk ?_;refine q_sq ?_;obtain⟨v16,h17,hm⟩:=qA hm;refine s_vu [qc 2 [32,33] 3 (VN a5 a6 v16 h17)] 3 [10,11,15,30] [(16,vi v16)] [1,2] [] ?_;refine s_va 3 [(36,vb (v16 !=0))] ?_;refine q_cm hm (λb18 hm=>?_) (λb18 hm=>?_)
    ·refine s_vn [] 3 ⟨[(12,vi v16)],[]⟩ ?_;obtain rfl:=oi hm;refine q_rt ?_;exact q_rm
    ·refine q_sk ?_;obtain⟨v19,h20,hm⟩:=qA hm;refine s_vn [qc 1 [38] 3 (qAz a4 v19 h20)] 3 ⟨[(12,vi v19)],[]⟩ ?_;obtain rfl:=oi hm;refine q_rt ?_;exact q_rm
def qQt (r:Rect):V:=va (qE r)
def qP9 (r:Rect):List (Nat×(Nat×O)):=[]
theorem qBE (a1:Rect) (a2:Int) (a3:Int) (r:Rect) (hm:NI a1 a2 a3=some r):CtX Tryz.prog globs 187 0 0 [.agg (qE a1),.one (ci a2),.one (ci a3)] [] (qQt r) (qP9 r):=by
 unfold NI at hm;refine q_E Tryz.f187 21 λE=>?_;refine s_vn [] 0 ⟨[(1,vi a2),(2,vi a3),(3,vp 0 0),(6,vp 1 0)],[(0,bx 33 (qE a1)),(1,bx 33 [ci 0,ci 0,ci 0,ci 0])]⟩ ?_;refine s_vn [] 2 ⟨[(6,vp 1 0)],[(1,bx 33 [ci (w64 (a1.X.A+a2)),ci (w64 (a1.X.A+a3)),ci a1.Y.A,ci a1.Y.B])]⟩ ?_;obtain rfl:=oi hm;refine q_rt ?_;exact q_rm
def AY (r:List Node):V:=vo 0 0 2 r.length
def XH (r:List Node):List (Nat×(Nat×O)):=[(0,ro 0 65 2 r.length (rf e_Node r))]
theorem qEJ (r:List Node):yT (XH r):=by
 intro i k o h;unfold XH at h;rw[look_cons] at h;split at h
 ·cases h;exact λ_ _=>rfl
 ·cases h
theorem qD1 (a1:List Node) (r:List Node) (hm:YE a1=some r):CtX Tryz.prog globs 211 0 0 [.one (tl e_Node default a1)] [] (AY r) (XH r):=by
 unfold YE at hm;obtain⟨g1,hm⟩:=qG hm;obtain rfl:=Option.some.inj hm;refine qP0 (fn:=Tryz.f211) (c:=nd Tryz.f211 1) (nt:=8) (by kernel_rfl) (by kernel_rfl) (by kernel_rfl) (by kernel_rfl) λE=>?_;refine R_sq Tryz.f211 2 3 (by kernel_rfl) ?_;refine R_rn Tryz.f211 2 0 [] [] 0 ⟨[(0,vc (tl e_Node default a1))],[]⟩ o0 (by kernel_rfl) (by kernel_rfl) ?_;refine R_sq Tryz.f211 6 7 (by kernel_rfl) ?_;refine R_sq Tryz.f211 12 13 (by kernel_rfl) ?_
 refine R_nil Tryz.f211 12 1 1 ⟨[(0,vc (tl e_Node default a1)),(3,vc (tl e_Node default a1))],[]⟩ 44 44 65 4 (.tmp 3) a1.length (rf e_Node a1) (by kernel_rfl) (by kernel_rfl) (by kernel_rfl) (λb hb=>?_);refine R_cn Tryz.f211 (.tmp 4) 26 27 (by kernel_rfl) b (by kernel_rfl) (λb6=>?_) (λb6=>?_)
 ·obtain rfl:a1=[]:=List.eq_nil_of_length_eq_zero (hb b6);refine R_sq Tryz.f211 52 53 (by kernel_rfl) ?_;refine R_rn Tryz.f211 52 2 [] [.own 2 0 65 2 (rf e_Node ([]:List Node))] 0 ⟨[(2,vo 0 0 2 0)],[(0,ro 0 65 2 0 (rf e_Node ([]:List Node)))]⟩ o0 (by kernel_rfl) (by kernel_rfl) ?_;refine R_ret (by kernel_rfl) ?_;exact qPk (by kernel_rfl) (by kernel_rfl)
 ·refine qS9 (by kernel_rfl) ?_;refine R_sq Tryz.f211 14 15 (by kernel_rfl) ?_
  refine R_rn Tryz.f211 14 3 [(0,drw 0 0 (rf e_Node ([]:List Node))),(2,drw 0 1 (rf e_Node ([]++a1)))] [.len 0 a1.length] 0 ⟨[(2,vo 0 1 2 a1.length)],[(0,ro 1 65 2 a1.length (rf e_Node ([]++a1)))]⟩ (o1 (And.intro (And.intro (litP e_Node default 2 (λ_=>rfl) ([]:List Node) 0 rfl) (apP e_Node default ([]:List Node) a1 0 a1.length 2 16 True trivial rfl rfl (λ_=>rfl) (by have:=zI g1;rw[Nat.zero_add];exact this))) (And.intro (And.intro (Nat.zero_add a1.length) (Nat.zero_add a1.length)) (Nat.zero_add a1.length)))) (by kernel_rfl) (by kernel_rfl) ?_;refine R_ret (by kernel_rfl) ?_
  exact qPk (by kernel_rfl) (by kernel_rfl)
def qA8 (a1:List (List Node)) (a2:List Node) (r:(List (List Node))×(List (List Node))):V:=vo 0 0 1 r.2.length
def qAX (a1:List (List Node)) (a2:List Node) (r:(List (List Node))×(List (List Node))):List (Nat×(Nat×O)):=[(0,ro 0 44 1 r.2.length (rf (qH e_Node) r.2)),(1,ro 0 65 2 a2.length (rf e_Node a2))]
theorem qGT (a1:List (List Node)) (a2:List Node) (r:(List (List Node))×(List (List Node))) (hm:BX a1 a2=some r):CtX Tryz.prog globs 188 2 0 [.one (.own 0 0 1 a1.length),.one (.own 1 0 2 a2.length)] [(0,ro 0 44 1 a1.length (rf (qH e_Node) a1)),(1,ro 0 65 2 a2.length (rf e_Node a2))] (qA8 a1 a2 r) (qAX a1 a2 r):=by
 unfold BX at hm;refine q_E Tryz.f188 10 λE=>?_;refine s_vn [] 2 ⟨[(0,vo 0 0 1 a1.length),(1,vo 1 0 2 a2.length)],[(0,ro 0 44 1 a1.length (rf (qH e_Node) a1)),(1,ro 0 65 2 a2.length (rf e_Node a2))]⟩ ?_;obtain⟨v3,h4,hm⟩:=qA hm;obtain⟨g5,hm⟩:=qG hm
 refine s_vu [qd 2 (dex (cen [] [] 2 0 (AY v3) (XH v3) [6] [1])) (wV (K:=(kx E 10 0)) (b:=false) ⟨[(6,vo 1 0 2 a2.length)],[(1,ro 0 65 2 a2.length (rf e_Node a2))]⟩ (opAt (rg Tryz.f188 6) 2) [] [] 2 (o1 (Nat.le_refl a2.length)) rfl (qD1 a2 v3 h4) (.inr ⟨(by kernel_rfl),qEJ v3⟩) (by kernel_rfl)),qd 3 (dpr [.frz 2] (drw 3 0 (rf (qH e_Node) ([v3]:List (List Node))))) (Nat.le_refl v3.length),qd 3 dN (litP (qH e_Node) default 1 (λ_=>rfl) ([v3]:List (List Node)) 1 rfl),qd 4 (drw 0 1 (rf (qH e_Node) (a1++([v3]:List (List Node))))) (apP (qH e_Node) default a1 ([v3]:List (List Node)) a1.length 1 1 24 (1<=1) (Nat.le_refl _) rfl rfl (λ_=>rfl) (zI g5))] 2 [0,1] [(4,vo 0 1 1 (a1.length+1))] [0] [(0,ro 1 44 1 (a1.length+1) (rf (qH e_Node) (a1++([v3]:List (List Node)))))] ?_
 refine q_fu [.len 0 ((a1++([v3]:List (List Node))).length)] [4] [(4,vo 0 1 1 ((a1++([v3]:List (List Node))).length))] [0] [(0,ro 1 44 1 ((a1++([v3]:List (List Node))).length) (rf (qH e_Node) (a1++([v3]:List (List Node)))))] (o1 (And.intro (Eq.symm (show(a1++([v3]:List (List Node))).length=(a1.length+1) from(len_app rfl rfl))) (Eq.symm (show(a1++([v3]:List (List Node))).length=(a1.length+1) from(len_app rfl rfl))))) ?_;obtain rfl:=oi hm;refine q_rt ?_;exact q_rm
def qQA (r:Span):V:=va (e_Span r)
def qQu (r:Span):List (Nat×(Nat×O)):=[]
theorem TZ (a1:Span) (a2:Span) (r:Span) (hm:XO a1 a2=some r):CtX Tryz.prog globs 168 0 0 [.agg (e_Span a1),.agg (e_Span a2)] [] (qQA r) (qQu r):=by
 unfold XO at hm;refine q_E Tryz.f168 24 λE=>?_;refine s_vn [] 0 ⟨[(2,vp 0 0),(3,vp 1 0),(4,vp 2 0)],[(0,bx 31 (e_Span a1)),(1,bx 31 (e_Span a2)),(2,bx 31 [ci 0,ci 0])]⟩ ?_;refine s_vu [] 3 [2,3] [(5,vp 3 0)] [0,1] [(3,bx 31 [ci (imax a1.A a2.A),ci (imin a1.B a2.B)])] ?_;refine q_sq ?_;refine s_va 4 [(21,vb (decide ((imax a1.A a2.A)≥(imin a1.B a2.B))))] ?_;refine q_cm hm (λb3 hm=>?_) (λb3 hm=>?_)
 ·refine s_vu [] 4 [5,21] [] [3] [] ?_;obtain rfl:=oi hm;refine q_rt ?_;exact q_rm
 ·refine q_sk ?_;refine s_vn [] 4 ⟨[(4,vp 2 0)],[(2,bx 31 [ci (imax a1.A a2.A),ci (imin a1.B a2.B)])]⟩ ?_;obtain rfl:=oi hm;refine q_rt ?_;exact q_rm
def qNI (r:Box×Bool):V:= .tup [.agg (ZV r.1),.one (cb r.2)]
def qNw (r:Box×Bool):List (Nat×(Nat×O)):=[]
def qH9 (v3:Span) (v5:Span) (v7:Span) (x17:Bool):St:=
 ⟨[(4,vp 2 0),(6,vp 3 0),(35,vb x17)],[(2,bx 128 [ci 0,ci 0,ci 0,ci 0,ci 0,ci 0]),(3,bx 128 [ci v3.A,ci v3.B,ci v5.A,ci v5.B,ci v7.A,ci v7.B])]⟩
theorem qLg (a1:Box) (a2:Box) (r:Box×Bool) (hm:CD a1 a2=some r):CtX Tryz.prog globs 206 0 0 [.agg (ZV a1),.agg (ZV a2)] [] (qNI r) (qNw r):=by
 unfold CD at hm;refine q_E Tryz.f206 38 λE=>?_;refine s_vn [] 0 ⟨[(2,vp 0 0),(3,vp 1 0),(4,vp 2 0)],[(0,bx 128 (ZV a1)),(1,bx 128 (ZV a2)),(2,bx 128 [ci 0,ci 0,ci 0,ci 0,ci 0,ci 0])]⟩ ?_;obtain⟨v3,h4,hm⟩:=qA hm;obtain⟨v5,h6,hm⟩:=qA hm;obtain⟨v7,h8,hm⟩:=qA hm;refine s_du [qc 4 [8,10] 3 (TZ a1.X a2.X v3 h4),qc 9 [13,15] 3 (TZ a1.Y a2.Y v5 h6),qc 14 [18,20] 3 (TZ a1.Z a2.Z v7 h8)] [0,1,0,4,15,0,32,0,128,511,0,1024,0,4096,16383,32767,0,131071] 3 [2,3] [(6,vp 3 0)] [0,1] [(3,bx 128 [ci v3.A,ci v3.B,ci v5.A,ci v5.B,ci v7.A,ci v7.B])] ?_;refine q_sq ?_
 refine q_jn (qH9 v3 v5 v7) (λp=>UR v3 v5 v7 p=some r) ?_ ?_
 ·rintro x17 hm;refine q_cm hm (λb18 hm=>?_) (λb18 hm=>?_)
  ·refine s_vu [] 4 [6,35] [(5,vb false)] [3] [] ?_;obtain rfl:=oi hm;refine q_rt ?_;exact q_rm
  ·refine q_sk ?_;refine s_vu [] 4 [6,35] [(5,vb true)] [2,3] [(2,bx 128 [ci v3.A,ci v3.B,ci v5.A,ci v5.B,ci v7.A,ci v7.B])] ?_;obtain rfl:=oi hm;refine q_rt ?_;exact q_rm
 ·obtain⟨v9,h10,hm⟩:=qA hm;rcases bif_c hm with⟨b11,hm⟩|⟨b11,hm⟩
  ·refine q_vv [qc 2 [24] 4 (zV v3 v9 h10),qf 3 b11] 4 [] [(35,vb true)] ?_;exact q_J (true) hm
  ·obtain⟨v12,h13,hm⟩:=qA hm;rcases bif_c hm with⟨b14,hm⟩|⟨b14,hm⟩
   ·refine q_vv [qc 2 [24] 4 (zV v3 v9 h10),qf 3 b11,qk 6 [26,28] 4 ⟨[(26,vb false),(28,va (e_Span v5))],[]⟩ (zV v5 v12 h13),qf 8 b14] 4 [] [(35,vb true)] ?_;exact q_J (true) hm
   ·obtain⟨v15,h16,hm⟩:=qA hm;refine q_vv [qc 2 [24] 4 (zV v3 v9 h10),qf 3 b11,qk 6 [26,28] 4 ⟨[(26,vb false),(28,va (e_Span v5))],[]⟩ (zV v5 v12 h13),qf 8 b14,qk 11 [31,33] 4 ⟨[(31,vb false),(33,va (e_Span v7))],[]⟩ (zV v7 v15 h16)] 4 [] [(35,vb v15)] ?_;exact q_J (v15) hm
def qI6 (r:Bool):V:=vb r
def qJr (r:Bool):List (Nat×(Nat×O)):=[]
theorem qA0 (a1:Defect) (a2:Box) (r:Bool) (hm:XW a1 a2=some r):CtX Tryz.prog globs 175 0 0 [.agg (qJ a1),.agg (ZV a2)] [] (qI6 r) (qJr r):=by
 unfold XW at hm;refine q_E Tryz.f175 15 λE=>?_;refine s_vn [] 0 ⟨[(2,vp 0 0),(3,vp 1 0)],[(0,bx 212 (qJ a1)),(1,bx 128 (ZV a2))]⟩ ?_;obtain⟨v3,h4,hm⟩:=qA hm;refine s_vn [qc 3 [9,10] 2 (qLg a1.Box a2 v3 h4)] 2 ⟨[(6,vb v3.2)],[]⟩ ?_;refine s_vn [] 3 ⟨[(4,vb v3.2)],[]⟩ ?_;obtain rfl:=oi hm;refine q_rt ?_;exact q_rm
def qIG (r:Bool):V:=vb r
def qID (r:Bool):List (Nat×(Nat×O)):=[]
def qFp (x5:Bool):St:=
 ⟨[(4,vb x5)],[]⟩
theorem qHB (a1:Span) (a2:Int) (r:Bool) (hm:LW a1 a2=some r):CtX Tryz.prog globs 176 0 0 [.agg (e_Span a1),.one (ci a2)] [] (qIG r) (qID r):=by
 unfold LW at hm;refine q_E Tryz.f176 21 λE=>?_;refine s_vn [] 0 ⟨[(1,vi a2),(2,vp 0 0)],[(0,bx 31 (e_Span a1))]⟩ ?_;refine q_jn (qFp) (λp=>XE p=some r) ?_ ?_
 ·rintro x5 hm;obtain rfl:=oi hm;refine q_rt ?_;exact q_rm
 ·rcases bif_c hm with⟨b3,hm⟩|⟨b3,hm⟩
  ·rcases bif_c hm with⟨b4,hm⟩|⟨b4,hm⟩
   ·refine q_vn [qf 3 b3,qf 10 b4] 1 ⟨[(4,vb (decide (a1.B<=a2)))],[]⟩ ?_;exact q_J (decide (a1.B<=a2)) hm
   ·refine q_vn [qf 3 b3,qf 10 b4] 1 ⟨[(4,vb false)],[]⟩ ?_;exact q_J (false) hm
  ·refine q_vn [qf 3 b3] 1 ⟨[(4,vb false)],[]⟩ ?_;exact q_J (false) hm
def EW (r:Int×Bool):V:= .tup [.one (ci r.1),.one (cb r.2)]
def AA (r:Int×Bool):List (Nat×(Nat×O)):=[]
def FF (a1:Product) (a2:Int) (x3:Int):St:=
 ⟨[(1,vi a2),(2,vp 0 0),(9,vc (tl e_i64 default a1.Lengths)),(10,vi ((a1.Lengths.length:Nat):Int)),(11,vi x3)],[(0,bx 54 (qC a1))]⟩
def qAy :St:=
 ⟨[],[]⟩
theorem qFf (E:Env 0) (a1:Product) (a2:Int):∀(n:Nat) (x3:Int) (res:(Int×Bool)⊕Unit),QT a1 a2 n x3=some res->HL (kx E 30 0) (nd Tryz.f177 52) (wI 0 (λo=>qAy) (λv st=>RetQ Tryz.prog Tryz.f177 (EW v) (AA v) .ret st) res) n (FF a1 a2 x3):=by
 intro n
 induction n with
 |zero=>
  intro x3 res hm;cases hm
 |succ n ih=>
  intro x3 res hm;refine qM ?_;refine s_va 1 [(12,vb (decide (x3<((a1.Lengths.length:Nat):Int))))] ?_;refine q_sq ?_;refine q_cm hm (λb4 hm=>?_) (λb4 hm=>?_)
  ·refine q_sk ?_;refine q_sq ?_;refine q_bk 1 ?_;obtain⟨g5,hm⟩:=qG hm;refine s_vv [qi 1 g5] 1 [12] [(6,vi x3),(7,vi (a1.Lengths.getD x3.toNat default))] ?_;refine q_sq ?_;refine s_vv [] 1 [7] [(18,vb ((a1.Lengths.getD x3.toNat default) !=a2))] ?_;refine q_cm hm (λb6 hm=>?_) (λb6 hm=>?_)
   ·refine q_ex 1 ?_;refine q_vv [] 1 [6,11,18] [(11,vi (w64 (x3+1)))] ?_;exact q_hl (FF a1 a2 (w64 (x3+1))) (ih (w64 (x3+1)) _ hm)
   ·refine q_sk ?_;refine q_sq ?_;refine s_vv [] 1 [1,9,10,11,18] [(23,vb (decide (x3≥((a1.Prices.length:Nat):Int))))] ?_;refine q_cm hm (λb7 hm=>?_) (λb7 hm=>?_)
    ·refine s_vn [] 1 ⟨[(4,vi 0),(5,vb false)],[]⟩ ?_;obtain rfl:=oi hm;refine q_rt ?_;refine qY (0,false) ?_;exact q_rm
    ·refine q_sk ?_;obtain⟨g8,hm⟩:=qG hm;refine s_vn [qi 3 g8] 1 ⟨[(4,vi (a1.Prices.getD x3.toNat default)),(5,vb true)],[]⟩ ?_;obtain rfl:=oi hm;refine q_rt ?_;refine qY ((a1.Prices.getD x3.toNat default),true) ?_;exact q_rm
  ·refine q_ex 0 ?_;obtain rfl:=oi hm;exact wR () (by kernel_rfl) (by kernel_rfl)
theorem qJb (a1:Product) (a2:Int) (r:Int×Bool) (hm:DR a1 a2=some r):CtX Tryz.prog globs 177 0 0 [.agg (qC a1),.one (ci a2)] [] (EW r) (AA r):=by
 unfold DR at hm;refine q_E Tryz.f177 30 λE=>?_;refine s_vn [] 0 ⟨[(1,vi a2),(2,vp 0 0)],[(0,bx 54 (qC a1))]⟩ ?_;refine q_sq ?_;refine s_va 1 [(9,vc (tl e_i64 default a1.Lengths)),(10,vi ((a1.Lengths.length:Nat):Int)),(11,vi 0)] ?_;obtain⟨u11,h10,hm⟩:=qA hm;refine zQ (nd Tryz.f177 52) 0 (by kernel_rfl) FUEL (λo=>qAy) (λv st=>RetQ Tryz.prog Tryz.f177 (EW v) (AA v) .ret st) u11 (q_hl (FF a1 a2 0) (qFf E a1 a2 FUEL 0 u11 h10)) ?_ ?_
 ·rintro v12 rfl st hr;obtain rfl:=oi hm;exact hr
 ·rintro o9 rfl;replace hm:_=some r:=hm;refine s_vn [] 1 ⟨[(4,vi 0),(5,vb false)],[]⟩ ?_;obtain rfl:=oi hm;refine q_rt ?_;exact q_rm
def qBR (r:Box):V:=va (ZV r)
def GX (r:Box):List (Nat×(Nat×O)):=[]
theorem qJq (r:Box):yT (GX r):=by
 intro i k o h;unfold GX at h;cases h
theorem qA4 (a1:Worth_view) (a2:Span) (r:Box) (hm:XX a1 a2=some r):CtX Tryz.prog globs 174 0 0 [.agg (NS a1),.agg (e_Span a2)] [] (qBR r) (GX r):=by
 unfold XX at hm;refine q_E Tryz.f174 13 λE=>?_;refine s_vn [] 0 ⟨[(2,vp 0 0),(3,vp 1 0),(4,vp 2 0)],[(0,bx 186 (NS a1)),(1,bx 31 (e_Span a2)),(2,bx 128 [ci 0,ci 0,ci 0,ci 0,ci 0,ci 0])]⟩ ?_;refine s_vn [] 3 ⟨[(4,vp 2 0)],[(2,bx 128 [ci a1.rect.X.A,ci a1.rect.X.B,ci a1.rect.Y.A,ci a1.rect.Y.B,ci a2.A,ci a2.B])]⟩ ?_;obtain rfl:=oi hm;refine q_rt ?_;exact q_rm
def qNK (r:Int):V:=vi r
def qNk (r:Int):List (Nat×(Nat×O)):=[]
def NG (a1:List Worth_zone) (a2:Span) (x4:Int):St:=
 ⟨[(3,vp 0 0),(8,vc (tl qR default a1)),(9,vi ((a1.length:Nat):Int)),(10,vi x4)],[(0,bx 31 (e_Span a2))]⟩
def qId (a1:List Worth_zone) (a2:Span) (x4:Int) (x10:Int):St:=
 (NG a1 a2 x4).up [] [(5,vi x10)] [] []
def qI1 (a1:List Worth_zone) (a2:Span) (x3:Int) (x4:Int) (x8:Bool):St:=
 (NG a1 a2 x4).up [] [(5,vi x3),(7,vp 1 0),(27,vb x8)] [] [(1,bx 249 [ci (((a1.getD x4.toNat default).z).A),ci (((a1.getD x4.toNat default).z).B),ci ((a1.getD x4.toNat default).lack)])]
def SN (a1:List Worth_zone) (a2:Span) (x3:Int) (x4:Int):St:=
 (NG a1 a2 x4).up [] [(5,vi x3)] [] []
def qBY (x11:Int):St:=
 ⟨[(5,vi x11)],[]⟩
theorem qHi (E:Env 0) (a1:List Worth_zone) (a2:Span):∀(n:Nat) (x3:Int) (x4:Int) (res:Int),yL a1 a2 n x3 x4=some res->HL (kx E 34 0) (nd Tryz.f178 116) (zU 0 (λo=>qBY o) res) n (SN a1 a2 x3 x4):=by
 intro n
 induction n with
 |zero=>
  intro x3 x4 res hm;cases hm
 |succ n ih=>
  intro x3 x4 res hm;refine qM ?_;refine s_va 1 [(11,vb (decide (x4<((a1.length:Nat):Int))))] ?_;refine q_sq ?_;refine q_cm hm (λb5 hm=>?_) (λb5 hm=>?_)
  ·refine q_sk ?_;refine q_jn (qId a1 a2 x4) (λp=>LL x4 (yL a1 a2 n) p=some res) ?_ ?_
   ·rintro x10 hm;refine q_vv [] 2 [10] [(10,vi (w64 (x4+1)))] ?_;exact q_hl (SN a1 a2 x10 (w64 (x4+1))) (ih x10 (w64 (x4+1)) _ hm)
   ·refine q_bk 1 ?_;obtain⟨g6,hm⟩:=qG hm;refine s_vu [qi 0 g6] 1 [11] [(7,vp 1 0)] [] [(1,bx 249 [ci (((a1.getD x4.toNat default).z).A),ci (((a1.getD x4.toNat default).z).B),ci ((a1.getD x4.toNat default).lack)])] ?_;refine q_jn (qI1 a1 a2 x3 x4) (λp=>LN a1 x3 x4 (yL a1 a2 n) p=some res) ?_ ?_
    ·rintro x8 hm;refine q_cm hm (λb9 hm=>?_) (λb9 hm=>?_)
     ·refine q_vu [] 2 [5,7,27] [(5,vi (imax x3 ((a1.getD x4.toNat default).lack)))] [1] [] ?_;exact q_J (imax x3 ((a1.getD x4.toNat default).lack)) hm
     ·refine q_sk ?_;exact q_J (x3) hm
    ·rcases bif_c hm with⟨b7,hm⟩|⟨b7,hm⟩
     ·refine q_vv [qf 6 b7] 2 [] [(27,vb (decide (a2.A<(((a1.getD x4.toNat default).z).B))))] ?_;exact q_J (decide (a2.A<(((a1.getD x4.toNat default).z).B))) hm
     ·refine q_vv [qf 6 b7] 2 [] [(27,vb false)] ?_;exact q_J (false) hm
  ·refine q_ex 0 ?_;obtain rfl:=oi hm;exact wH (by kernel_rfl) (by kernel_rfl)
theorem qLY (a1:List Worth_zone) (a2:Span) (r:Int) (hm:HB a1 a2=some r):CtX Tryz.prog globs 178 0 0 [.one (tl qR default a1),.agg (e_Span a2)] [] (qNK r) (qNk r):=by
 unfold HB at hm;refine q_E Tryz.f178 34 λE=>?_;refine s_vn [] 0 ⟨[(0,vc (tl qR default a1)),(3,vp 0 0)],[(0,bx 31 (e_Span a2))]⟩ ?_;refine s_va 1 [(5,vi 0)] ?_;refine q_sq ?_;refine s_vv [] 1 [0] [(8,vc (tl qR default a1)),(9,vi ((a1.length:Nat):Int)),(10,vi 0)] ?_;obtain⟨o12,h13,hm⟩:=qA hm;refine zN (nd Tryz.f178 116) 0 (by kernel_rfl) FUEL (λo=>qBY o) o12 (q_hl (SN a1 a2 0 0) (qHi E a1 a2 FUEL 0 0 o12 h13)) ?_;refine s_vn [] 1 ⟨[(4,vi o12)],[]⟩ ?_;obtain rfl:=oi hm;refine q_rt ?_;exact q_rm
def RN (r:Int×Bool):V:= .tup [.one (ci r.1),.one (cb r.2)]
def ZB (r:Int×Bool):List (Nat×(Nat×O)):=[]
theorem qFM (r:Int×Bool):yT (ZB r):=by
 intro i k o h;unfold ZB at h;cases h
def qD5 (a1:Worth_view) (a3:Int) (v14:Box) (x17:Int) (x24:Int):St:=
 ⟨[(2,vi a3),(8,vi x24),(10,vp 2 0),(45,vc (tl qJ default a1.defects)),(46,vi ((a1.defects.length:Nat):Int)),(47,vi x17)],[(2,bx 128 (ZV v14))]⟩
def UF (a1:Worth_view) (a3:Int) (v14:Box) (x16:Int) (x17:Int):St:=
 ⟨[(2,vi a3),(8,vi x16),(10,vp 2 0),(45,vc (tl qJ default a1.defects)),(46,vi ((a1.defects.length:Nat):Int)),(47,vi x17)],[(2,bx 128 (ZV v14))]⟩
def EH (x25:Int):St:=
 ⟨[(8,vi x25)],[]⟩
def qDo (a1:Worth_view) (a2:Span) (a3:Int) (v7:Int×Bool) (x12:Bool):St:=
 ⟨[(2,vi a3),(3,vp 0 0),(4,vp 1 0),(8,vi v7.1),(40,vb x12)],[(0,bx 186 (NS a1)),(1,bx 31 (e_Span a2))]⟩
theorem qC0 (E:Env 0) (a1:Worth_view) (a3:Int) (v14:Box):∀(n:Nat) (x16:Int) (x17:Int) (res:(Int×Bool)⊕Int),zP a1 a3 v14 n x16 x17=some res->HL (kx E 64 0) (nd Tryz.f127 1012) (wI 0 (λo=>EH o) (λv st=>RetQ Tryz.prog Tryz.f127 (RN v) (ZB v) .ret st) res) n (UF a1 a3 v14 x16 x17):=by
 intro n
 induction n with
 |zero=>
  intro x16 x17 res hm;cases hm
 |succ n ih=>
  intro x16 x17 res hm;refine qM ?_;refine s_va 3 [(48,vb (decide (x17<((a1.defects.length:Nat):Int))))] ?_;refine q_sq ?_;refine q_cm hm (λb18 hm=>?_) (λb18 hm=>?_)
  ·refine q_sk ?_;refine q_jn (qD5 a1 a3 v14 x17) (λp=>PG x17 (zP a1 a3 v14 n) p=some res) ?_ ?_
   ·rintro x24 hm;refine q_vv [] 4 [47] [(47,vi (w64 (x17+1)))] ?_;exact q_hl (UF a1 a3 v14 x24 (w64 (x17+1))) (ih x24 (w64 (x17+1)) _ hm)
   ·refine q_bk 1 ?_;obtain⟨g19,hm⟩:=qG hm;refine s_vu [qi 0 g19] 3 [48] [(12,vp 3 0)] [] [(3,bx 212 [ci ((a1.defects.getD x17.toNat default).Kind),ci ((((a1.defects.getD x17.toNat default).Box).X).A),ci ((((a1.defects.getD x17.toNat default).Box).X).B),ci ((((a1.defects.getD x17.toNat default).Box).Y).A),ci ((((a1.defects.getD x17.toNat default).Box).Y).B),ci ((((a1.defects.getD x17.toNat default).Box).Z).A),ci ((((a1.defects.getD x17.toNat default).Box).Z).B)])] ?_;refine q_sq ?_;obtain⟨v20,h21,hm⟩:=qA hm
    refine s_vv [qc 2 [51,52] 4 (qA0 (a1.defects.getD x17.toNat default) v14 v20 h21)] 4 [] [(54,vb (!v20))] ?_;refine q_cm hm (λb22 hm=>?_) (λb22 hm=>?_)
    ·refine q_ex 1 ?_;exact q_J (x16) hm
    ·refine q_sk ?_;refine q_sq ?_;refine s_vu [] 4 [12,54] [(57,vb (((a1.defects.getD x17.toNat default).Kind)==3))] [3] [] ?_;refine q_cm hm (λb23 hm=>?_) (λb23 hm=>?_)
     ·refine s_vn [] 4 ⟨[(6,vi 0),(7,vb false)],[]⟩ ?_;obtain rfl:=oi hm;refine q_rt ?_;refine qY (0,false) ?_;exact q_rm
     ·refine q_sk ?_;refine q_vv [] 4 [8,57] [(8,vi (w64 (x16-a3)))] ?_;exact q_J (w64 (x16-a3)) hm
  ·refine q_ex 0 ?_;obtain rfl:=oi hm;exact wR x16 (by kernel_rfl) (by kernel_rfl)
theorem worth_view_worth_ok (a1:Worth_view) (a2:Span) (a3:Int) (r:Int×Bool) (hm:JG a1 a2 a3=some r):CtX Tryz.prog globs 127 0 0 [.agg (NS a1),.agg (e_Span a2),.one (ci a3)] [] (RN r) (ZB r):=by
 unfold JG at hm;refine q_E Tryz.f127 64 λE=>?_;refine s_vn [] 0 ⟨[(2,vi a3),(3,vp 0 0),(4,vp 1 0)],[(0,bx 186 (NS a1)),(1,bx 31 (e_Span a2))]⟩ ?_;refine q_sq ?_;obtain⟨v4,h5,hm⟩:=qA hm;refine s_vv [qc 3 [13,15] 2 (qHB a2 a1.length v4 h5)] 2 [] [(17,vb (!v4))] ?_;refine q_cm hm (λb6 hm=>?_) (λb6 hm=>?_)
 ·refine s_vn [] 2 ⟨[(6,vi 0),(7,vb false)],[]⟩ ?_;obtain rfl:=oi hm;refine q_rt ?_;exact q_rm
 ·refine q_sk ?_;obtain⟨v7,h8,hm⟩:=qA hm;refine s_vv [qc 7 [20,25] 2 (qJb a1.product (w64 (a2.B-a2.A)) v7 h8)] 2 [17] [(8,vi v7.1),(9,vb v7.2)] ?_;refine q_sq ?_;refine q_jn (qDo a1 a2 a3 v7) (λp=>PE a1 a2 a3 v7 p=some r) ?_ ?_
  ·rintro x12 hm;refine q_cm hm (λb13 hm=>?_) (λb13 hm=>?_)
   ·refine s_vn [] 2 ⟨[(6,vi 0),(7,vb false)],[]⟩ ?_;obtain rfl:=oi hm;refine q_rt ?_;exact q_rm
   ·refine q_sk ?_;obtain⟨v14,h15,hm⟩:=qA hm;refine s_vu [qc 2 [41,42] 2 (qA4 a1 a2 v14 h15)] 2 [4,40] [(10,vp 2 0)] [1] [(2,bx 128 (ZV v14))] ?_;refine q_sq ?_;refine s_vu [] 3 [3] [(45,vc (tl qJ default a1.defects)),(46,vi ((a1.defects.length:Nat):Int)),(47,vi 0)] [0] [] ?_;obtain⟨u28,h27,hm⟩:=qA hm;refine zQ (nd Tryz.f127 1012) 0 (by kernel_rfl) FUEL (λo=>EH o) (λv st=>RetQ Tryz.prog Tryz.f127 (RN v) (ZB v) .ret st) u28 (q_hl (UF a1 a3 v14 v7.1 0) (qC0 E a1 a3 v14 FUEL v7.1 0 u28 h27)) ?_ ?_
    ·rintro v29 rfl st hr;obtain rfl:=oi hm;exact hr
    ·rintro o26 rfl;replace hm:_=some r:=hm;refine s_vn [] 3 ⟨[(6,vi (imax o26 0)),(7,vb true)],[]⟩ ?_;obtain rfl:=oi hm;refine q_rt ?_;exact q_rm
  ·rcases bif_c hm with⟨b9,hm⟩|⟨b9,hm⟩
   ·refine q_du [qf 2 b9] [0,1,3,7,15,7,63,7,135,391,1023,2047] 2 [9] [(40,vb true)] [] [] ?_;exact q_J (true) hm
   ·obtain⟨v10,h11,hm⟩:=qA hm;refine q_du [qf 2 b9,qk 6 [31,33,34] 2 ⟨[(31,vb false),(33,vc (tl qR default a1.zones)),(34,va (e_Span a2))],[]⟩ (qLY a1.zones a2 v10 h11)] [0,1,3,7,15,7,63,7,135,391,1023,2047] 2 [9] [(40,vb (decide (v10>a1.product.Wane)))] [] [] ?_;exact q_J (decide (v10>a1.product.Wane)) hm
def qNe (r:(List qB)):V:=vc (tl qI default r)
def qNn (r:(List qB)):List (Nat×(Nat×O)):=[]
theorem LX (a1:List qB) (r:(List qB)) (hm:XS a1=some r):CtX Tryz.prog globs 70 0 0 [.one (tl qI default a1)] [] (qNe r) (qNn r):=by
 unfold XS at hm;refine q_E Tryz.f70 7 λE=>?_;refine s_vn [] 0 ⟨[(0,vc (tl qI default a1))],[]⟩ ?_;refine q_sq ?_;obtain⟨v2,h3,hm⟩:=qA hm;refine s_vv [qc 1 [3] 0 (QU a1 v2 h3)] 0 [] [(5,vb (v2 !=0))] ?_;refine q_cm hm (λb4 hm=>?_) (λb4 hm=>?_)
 ·refine s_vn [] 0 ⟨[(2,vc (.emp))],[]⟩ ?_;refine q_fn [.own 2 0 72 3 (rf qI ([]:List qB))] ⟨[(2,vo 0 0 3 0)],[(0,ro 0 72 3 0 (rf qI ([]:List qB)))]⟩ o0 ?_;refine q_fn [.len 0 (([]:List qB).length),.frz 0] ⟨[(2,vc (tl qI default ([]:List qB)))],[]⟩ (o1 (And.intro (And.intro (show 0=([]:List qB).length from rfl) (show 0=([]:List qB).length from rfl)) (Nat.le_refl (([]:List qB).length)))) ?_;obtain rfl:=oi hm;refine q_rt ?_;exact q_rm
 ·refine q_sk ?_;refine s_vn [] 0 ⟨[(2,vc (tl qI default a1))],[]⟩ ?_;obtain rfl:=oi hm;refine q_rt ?_;exact q_rm
def qLu (r:Int):V:=vi r
def qLH (r:Int):List (Nat×(Nat×O)):=[]
def ME (v2:(List qB)) (x4:Int) (x5:Int):St:=
 ⟨[(3,vi x4),(7,vc (tl qI default v2)),(8,vi ((v2.length:Nat):Int)),(9,vi x5)],[]⟩
def qBb (x8:Int):St:=
 ⟨[(3,vi x8)],[]⟩
theorem qGA (E:Env 0) (v2:(List qB)):∀(n:Nat) (x4:Int) (x5:Int) (res:Int),ZX v2 n x4 x5=some res->HL (kx E 19 0) (nd Tryz.f39 116) (zU 0 (λo=>qBb o) res) n (ME v2 x4 x5):=by
 intro n
 induction n with
 |zero=>
  intro x4 x5 res hm;cases hm
 |succ n ih=>
  intro x4 x5 res hm;refine qM ?_;refine s_va 0 [(10,vb (decide (x5<((v2.length:Nat):Int))))] ?_;refine q_sq ?_;refine q_cm hm (λb6 hm=>?_) (λb6 hm=>?_)
  ·refine q_sk ?_;refine q_sq ?_;refine q_bk 1 ?_;obtain⟨g7,hm⟩:=qG hm;refine s_vu [qi 0 g7] 0 [10] [(5,vp 0 0)] [] [(0,bx 72 [ci ((v2.getD x5.toNat default).Len),ci (((v2.getD x5.toNat default).Sec).Low),tl e_Span default (((v2.getD x5.toNat default).Sec).Rows)])] ?_;refine q_vu [] 1 [3,5] [(3,vi (w64 (x4+((v2.getD x5.toNat default).Len))))] [0] [] ?_;refine q_vv [] 1 [9] [(9,vi (w64 (x5+1)))] ?_;exact q_hl (ME v2 (w64 (x4+((v2.getD x5.toNat default).Len))) (w64 (x5+1))) (ih (w64 (x4+((v2.getD x5.toNat default).Len))) (w64 (x5+1)) _ hm)
  ·refine q_ex 0 ?_;obtain rfl:=oi hm;exact wH (by kernel_rfl) (by kernel_rfl)
theorem YK (a1:List qB) (r:Int) (hm:QG a1=some r):CtX Tryz.prog globs 39 0 0 [.one (tl qI default a1)] [] (qLu r) (qLH r):=by
 unfold QG at hm;refine q_E Tryz.f39 19 λE=>?_;refine s_vn [] 0 ⟨[(0,vc (tl qI default a1))],[]⟩ ?_;refine s_va 0 [(3,vi 0)] ?_;refine q_sq ?_;obtain⟨v2,h3,hm⟩:=qA hm;refine s_vv [qc 1 [6] 0 (LX a1 v2 h3)] 0 [0] [(7,vc (tl qI default v2)),(8,vi ((v2.length:Nat):Int)),(9,vi 0)] ?_;obtain⟨o9,h10,hm⟩:=qA hm;refine zN (nd Tryz.f39 116) 0 (by kernel_rfl) FUEL (λo=>qBb o) o9 (q_hl (ME v2 0 0) (qGA E v2 FUEL 0 0 o9 h10)) ?_;refine s_vn [] 0 ⟨[(2,vi o9)],[]⟩ ?_;obtain rfl:=oi hm;refine q_rt ?_;exact q_rm
def qHD (r:Span):V:=va (e_Span r)
def qHt (r:Span):List (Nat×(Nat×O)):=[]
theorem qAo (a1:Int) (a2:Int) (r:Span) (hm:YQ a1 a2=some r):CtX Tryz.prog globs 144 0 0 [.one (ci a1),.one (ci a2)] [] (qHD r) (qHt r):=by
 unfold YQ at hm;refine q_E Tryz.f144 10 λE=>?_;refine s_vn [] 0 ⟨[(0,vi a1),(1,vi a2),(4,vp 0 0)],[(0,bx 31 [ci 0,ci 0])]⟩ ?_;refine s_vu [] 1 [0,1] [] [0] [(0,bx 31 [ci (w64 (10*a1)),ci (w64 (10*a2))])] ?_;obtain rfl:=oi hm;refine q_rt ?_;exact q_rm
def qQx (r:Int):V:=vc (.val (.int .u64 r))
def qQv (r:Int):List (Nat×(Nat×O)):=[]
theorem qOl (a1:Span) (r:Int) (hm:qCT a1=some r):CtX Tryz.prog globs 119 0 0 [.agg (e_Span a1)] [] (qQx r) (qQv r):=by
 unfold qCT at hm;refine q_E Tryz.f119 15 λE=>?_;refine s_vn [] 0 ⟨[(1,vp 0 0)],[(0,bx 31 (e_Span a1))]⟩ ?_;refine q_sq ?_;refine s_va 1 [(7,vb (decide (a1.A≥a1.B)))] ?_;refine q_cm hm (λb2 hm=>?_) (λb2 hm=>?_)
 ·refine s_vn [] 1 ⟨[(2,vc (.val (.int .u64 0)))],[]⟩ ?_;obtain rfl:=oi hm;refine q_rt ?_;exact q_rm
 ·refine q_sk ?_;refine s_vn [] 1 ⟨[(2,vc (.val (.int .u64 (IntKind.u64.wrap ((IntKind.u64.wrap (a1.B))-(IntKind.u64.wrap (a1.A)))))))],[]⟩ ?_;obtain rfl:=oi hm;refine q_rt ?_;exact q_rm
def qLN (r:Int):V:=vi r
def qLF (r:Int):List (Nat×(Nat×O)):=[]
theorem qKs (a1:Int) (r:Int) (hm:EM a1=some r):CtX Tryz.prog globs 118 0 0 [.one (.val (.int .u64 a1))] [] (qLN r) (qLF r):=by
 unfold EM at hm;refine q_E Tryz.f118 6 λE=>?_;refine s_vn [] 0 ⟨[(0,vc (.val (.int .u64 a1)))],[]⟩ ?_;refine s_vn [] 0 ⟨[(2,vi (w64 (imin a1 9223372036854775807)))],[]⟩ ?_;obtain rfl:=oi hm;refine q_rt ?_;exact q_rm
def qSe (r:Int):V:=vi r
def qSc (r:Int):List (Nat×(Nat×O)):=[]
theorem BA (a1:Span) (r:Int) (hm:XA a1=some r):CtX Tryz.prog globs 63 0 0 [.agg (e_Span a1)] [] (qSe r) (qSc r):=by
 unfold XA at hm;refine q_E Tryz.f63 6 λE=>?_;refine s_vn [] 0 ⟨[(1,vp 0 0)],[(0,bx 31 (e_Span a1))]⟩ ?_;obtain⟨v2,h3,hm⟩:=qA hm;obtain⟨v4,h5,hm⟩:=qA hm;refine s_vn [qc 1 [3] 1 (qOl a1 v2 h3),qc 2 [4] 1 (qKs v2 v4 h5)] 1 ⟨[(2,vi v4)],[]⟩ ?_;obtain rfl:=oi hm;refine q_rt ?_;exact q_rm
def qKK (r:qK):V:=va (zY r)
def qKg (r:qK):List (Nat×(Nat×O)):=[]
theorem SD (a1:qK) (r:qK) (hm:YY a1=some r):CtX Tryz.prog globs 128 0 0 [.agg (zY a1)] [] (qKK r) (qKg r):=by
 unfold YY at hm;refine q_E Tryz.f128 8 λE=>?_;refine s_vn [] 0 ⟨[(1,vp 0 0),(2,vp 1 0)],[(0,bx 70 (zY a1)),(1,bx 70 [ci 0,.emp])]⟩ ?_;refine q_sq ?_;obtain⟨v2,h3,hm⟩:=qA hm;refine s_vv [qc 1 [3] 2 (qBD a1 v2 h3)] 2 [] [(5,vb (v2 !=0))] ?_;refine q_cm hm (λb4 hm=>?_) (λb4 hm=>?_)
 ·refine s_vu [] 2 [1,5] [] [0] [] ?_;refine q_fu [.ownB 1 1 2 31 2 (rf e_Span ([]:List Span))] [] [] [1] [(1,bx 70 [ci 0,.own 2 0 2 0]),(2,ro 0 31 2 0 (rf e_Span ([]:List Span)))] o0 ?_;refine q_fu [.len 2 (([]:List Span).length),.frz 2] [] [] [1,2] [(1,bx 70 [ci 0,tl e_Span default ([]:List Span)])] (o1 (And.intro (And.intro (show 0=([]:List Span).length from rfl) (show 0=([]:List Span).length from rfl)) (Nat.le_refl (([]:List Span).length)))) ?_;obtain rfl:=oi hm;refine q_rt ?_;exact q_rm
 ·refine q_sk ?_;refine s_vn [] 2 ⟨[(2,vp 1 0)],[(1,bx 70 (zY a1))]⟩ ?_;obtain rfl:=oi hm;refine q_rt ?_;exact q_rm
end Saw
end Go.SL

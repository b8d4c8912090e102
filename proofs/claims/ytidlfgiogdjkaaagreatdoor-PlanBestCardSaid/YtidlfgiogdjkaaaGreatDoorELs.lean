import Derived.Test.YtidlfgiogdjkaaaGreatDoorEBase
import Derived.Test.YtidlfgiogdjkaaaGreatDoorEFa7
import Derived.Test.YtidlfgiogdjkaaaGreatDoorEFa11
import Derived.Test.YtidlfgiogdjkaaaGreatDoorEFa2
set_option linter.unusedVariables false
set_option linter.unusedSimpArgs false
namespace Go.SL
namespace Saw
open Go.Proofs
set_option maxHeartbeats 4000000
set_option maxRecDepth 100000
def qB0 (r:Pattern×Int×Int):V:= .tup [.agg [ci r.1.Frame.X.A,ci r.1.Frame.X.B,ci r.1.Frame.Y.A,ci r.1.Frame.Y.B,.own 0 0 2 r.1.Nodes.length],.one (ci r.2.1),.one (ci r.2.2)]
def FB (r:Pattern×Int×Int):List (Nat×(Nat×O)):=[(0,ro 0 65 2 r.1.Nodes.length (rf e_Node r.1.Nodes))]
theorem qFN (r:Pattern×Int×Int):yT (FB r):=by
 intro i k o h;unfold FB at h;rw[look_cons] at h;split at h
 ·cases h;exact λ_ _=>rfl
 ·cases h
theorem law24_best_ok (a1:Law24_Given) (r:Pattern×Int×Int) (hm:ZI a1=some r):CtX Tryz.prog globs 19 0 0 [.agg (zH a1)] [] (qB0 r) (FB r):=by
 unfold ZI at hm;refine q_E Tryz.f19 21 λE=>?_;refine s_vn [] 0 ⟨[(1,vp 0 0),(2,vp 1 0)],[(0,bx 42 (zH a1)),(1,bx 46 [ci 0,ci 0,ci 0,ci 0,.emp])]⟩ ?_;obtain⟨v2,h3,hm⟩:=qA hm;refine s_vu [qc 12 [6,8,10,12,14,16] 2 (qOw a1.Solid a1.Defects a1.Products a1.Frame a1.Saw a1.Rates v2 h3)] 2 [1] [(3,vi v2.2.1),(4,vi v2.2.2)] [0,1] [(1,bx 46 [ci v2.1.Frame.X.A,ci v2.1.Frame.X.B,ci v2.1.Frame.Y.A,ci v2.1.Frame.Y.B,.own 2 0 2 v2.1.Nodes.length]),(2,ro 0 65 2 v2.1.Nodes.length (rf e_Node v2.1.Nodes))] ?_;obtain rfl:=oi hm;refine qT 2 0 (by kernel_rfl) ?_;refine q_rt ?_;exact q_rm
def qSa (r:Yield×Int):V:= .tup [.agg (IR r.1),.one (ci r.2)]
def qSj (r:Yield×Int):List (Nat×(Nat×O)):=[]
theorem qQc (a1:Law24_Given) (a2:Pattern) (r:Yield×Int) (hm:qBV a1 a2=some r):CtX Tryz.prog globs 26 0 0 [.agg (zH a1),.agg (qD a2)] [] (qSa r) (qSj r):=by
 unfold qBV at hm;refine q_E Tryz.f26 20 λE=>?_;refine s_vn [] 0 ⟨[(2,vp 0 0),(3,vp 1 0),(4,vp 2 0)],[(0,bx 42 (zH a1)),(1,bx 46 (qD a2)),(2,bx 58 [ci 0,ci 0,ci 0,ci 0,ci 0])]⟩ ?_;obtain⟨v3,h4,hm⟩:=qA hm;refine s_vn [qc 11 [7,9,11,12,14,16] 3 (qP8 a1.Solid a1.Defects a1.Products a2 a1.Saw a1.Rates v3 h4)] 3 ⟨[(4,vp 2 0),(5,vi v3.2)],[(2,bx 58 (IR v3.1))]⟩ ?_;obtain rfl:=oi hm;refine q_rt ?_;exact q_rm
def qPd (r:Int):V:=vi r
def qOe (r:Int):List (Nat×(Nat×O)):=[]
def qKp (a1:Span) (a2:Int) (x5:Bool):St:=
 ⟨[(1,vi a2),(2,vp 0 0),(16,vb x5)],[(0,bx 31 (e_Span a1))]⟩
theorem qAO (a1:Span) (a2:Int) (r:Int) (hm:DA a1 a2=some r):CtX Tryz.prog globs 40 0 0 [.agg (e_Span a1),.one (ci a2)] [] (qPd r) (qOe r):=by
 unfold DA at hm;refine q_E Tryz.f40 25 λE=>?_;refine s_vn [] 0 ⟨[(1,vi a2),(2,vp 0 0)],[(0,bx 31 (e_Span a1))]⟩ ?_;refine q_sq ?_;refine q_jn (qKp a1 a2) (λp=>DN a1 a2 p=some r) ?_ ?_
 ·rintro x5 hm;refine q_cm hm (λb6 hm=>?_) (λb6 hm=>?_)
  ·refine s_vn [] 1 ⟨[(4,vi 1)],[]⟩ ?_;obtain rfl:=oi hm;refine q_rt ?_;exact q_rm
  ·refine q_sk ?_;obtain⟨g7,hm⟩:=qG hm;refine s_vn [qd 6 dN (CN g7)] 1 ⟨[(4,vi (w64 ((w64 (Int.tdiv (w64 (a1.B-a1.A)) a2))+1)))],[]⟩ ?_;obtain rfl:=oi hm;refine q_rt ?_;exact q_rm
 ·rcases bif_c hm with⟨b3,hm⟩|⟨b3,hm⟩
  ·refine q_vv [qf 3 b3] 1 [] [(16,vb true)] ?_;exact q_J (true) hm
  ·rcases bif_c hm with⟨b4,hm⟩|⟨b4,hm⟩
   ·refine q_vv [qf 3 b3,qf 8 b4] 1 [] [(16,vb true)] ?_;exact q_J (true) hm
   ·refine q_vv [qf 3 b3,qf 8 b4] 1 [] [(16,vb (decide (a2<1)))] ?_;exact q_J (decide (a2<1)) hm
def qAI (r:Bool):V:=vb r
def qAL (r:Bool):List (Nat×(Nat×O)):=[]
def SQ (a1:List qB) (x3:Int):St:=
 ⟨[(0,vc (tl qI default a1)),(3,vi x3)],[]⟩
def qBJ :St:=
 ⟨[],[]⟩
theorem qHk (E:Env 0) (a1:List qB):∀(n:Nat) (x3:Int) (res:Bool⊕Unit),KA a1 n x3=some res->HL (kx E 21 0) (nd Tryz.f11 116) (wI 0 (λo=>qBJ) (λv st=>RetQ Tryz.prog Tryz.f11 (qAI v) (qAL v) .ret st) res) n (SQ a1 x3):=by
 intro n
 induction n with
 |zero=>
  intro x3 res hm;cases hm
 |succ n ih=>
  intro x3 res hm;refine qM ?_;refine q_sq ?_;refine s_va 0 [(10,vb (decide (x3<((a1.length:Nat):Int))))] ?_;refine q_cm hm (λb4 hm=>?_) (λb4 hm=>?_)
  ·refine q_sk ?_;refine q_sq ?_;refine q_bk 1 ?_;obtain⟨g5,hm⟩:=qG hm;refine s_vv [qi 2 g5] 0 [10] [(20,vb (decide ((((((a1.getD x3.toNat default).Sec).Rows).length:Nat):Int)>130)))] ?_;refine q_cm hm (λb6 hm=>?_) (λb6 hm=>?_)
   ·refine s_vn [] 0 ⟨[(2,vb false)],[]⟩ ?_;obtain rfl:=oi hm;refine q_rt ?_;refine qY false ?_;exact q_rm
   ·refine q_sk ?_;refine q_vv [] 0 [3,20] [(3,vi (w64 (x3+1)))] ?_;exact q_hl (SQ a1 (w64 (x3+1))) (ih (w64 (x3+1)) _ hm)
  ·refine q_ex 0 ?_;obtain rfl:=oi hm;exact wR () (by kernel_rfl) (by kernel_rfl)
theorem LF (a1:List qB) (r:Bool) (hm:HM a1=some r):CtX Tryz.prog globs 11 0 0 [.one (tl qI default a1)] [] (qAI r) (qAL r):=by
 unfold HM at hm;refine q_E Tryz.f11 21 λE=>?_;refine s_vn [] 0 ⟨[(0,vc (tl qI default a1))],[]⟩ ?_;refine q_sq ?_;refine s_va 0 [(6,vb (decide (((a1.length:Nat):Int)>30)))] ?_;refine q_cm hm (λb2 hm=>?_) (λb2 hm=>?_)
 ·refine s_vn [] 0 ⟨[(2,vb false)],[]⟩ ?_;obtain rfl:=oi hm;refine q_rt ?_;exact q_rm
 ·refine q_sk ?_;refine q_sq ?_;refine s_vv [] 0 [6] [(3,vi 0)] ?_;obtain⟨u9,h8,hm⟩:=qA hm;refine zQ (nd Tryz.f11 116) 0 (by kernel_rfl) FUEL (λo=>qBJ) (λv st=>RetQ Tryz.prog Tryz.f11 (qAI v) (qAL v) .ret st) u9 (q_hl (SQ a1 0) (qHk E a1 FUEL 0 u9 h8)) ?_ ?_
  ·rintro v10 rfl st hr;obtain rfl:=oi hm;exact hr
  ·rintro o7 rfl;replace hm:_=some r:=hm;refine s_vn [] 0 ⟨[(2,vb true)],[]⟩ ?_;obtain rfl:=oi hm;refine q_rt ?_;exact q_rm
def qC9 (r:Bool):V:=vb r
def qC7 (r:Bool):List (Nat×(Nat×O)):=[]
def qLb (a1:List Product) (x3:Int) (x8:Bool):St:=
 ⟨[(0,vc (tl qC default a1)),(3,vi x3),(37,vb x8)],[]⟩
def CB (a1:List Product) (x3:Int):St:=
 ⟨[(0,vc (tl qC default a1)),(3,vi x3)],[]⟩
def qDv :St:=
 ⟨[],[]⟩
theorem qJX (E:Env 0) (a1:List Product):∀(n:Nat) (x3:Int) (res:Bool⊕Unit),ZH a1 n x3=some res->HL (kx E 38 0) (nd Tryz.f10 116) (wI 0 (λo=>qDv) (λv st=>RetQ Tryz.prog Tryz.f10 (qC9 v) (qC7 v) .ret st) res) n (CB a1 x3):=by
 intro n
 induction n with
 |zero=>
  intro x3 res hm;cases hm
 |succ n ih=>
  intro x3 res hm;refine qM ?_;refine q_sq ?_;refine s_va 0 [(10,vb (decide (x3<((a1.length:Nat):Int))))] ?_;refine q_cm hm (λb4 hm=>?_) (λb4 hm=>?_)
  ·refine q_sk ?_;refine q_sq ?_;refine q_bk 1 ?_;refine q_jn (qLb a1 x3) (λp=>zaQ x3 (ZH a1 n) p=some res) ?_ ?_
   ·rintro x8 hm;refine q_cm hm (λb9 hm=>?_) (λb9 hm=>?_)
    ·refine s_vn [] 0 ⟨[(2,vb false)],[]⟩ ?_;obtain rfl:=oi hm;refine q_rt ?_;refine qY false ?_;exact q_rm
    ·refine q_sk ?_;refine q_vv [] 0 [3,37] [(3,vi (w64 (x3+1)))] ?_;exact q_hl (CB a1 (w64 (x3+1))) (ih (w64 (x3+1)) _ hm)
   ·obtain⟨g5,hm⟩:=qG hm;rcases bif_c hm with⟨b6,hm⟩|⟨b6,hm⟩
    ·refine q_vv [qi 2 g5,qf 7 b6] 0 [10] [(37,vb true)] ?_;exact q_J (true) hm
    ·rcases bif_c hm with⟨b7,hm⟩|⟨b7,hm⟩
     ·refine q_vv [qi 2 g5,qf 7 b6,qi 10 g5,qf 16 b7] 0 [10] [(37,vb true)] ?_;exact q_J (true) hm
     ·refine q_vv [qi 2 g5,qf 7 b6,qi 10 g5,qf 16 b7,qi 19 g5] 0 [10] [(37,vb (decide (((((a1.getD x3.toNat default).Prices).length:Nat):Int)>12)))] ?_;exact q_J (decide (((((a1.getD x3.toNat default).Prices).length:Nat):Int)>12)) hm
  ·refine q_ex 0 ?_;obtain rfl:=oi hm;exact wR () (by kernel_rfl) (by kernel_rfl)
theorem qFI (a1:List Product) (r:Bool) (hm:qAp a1=some r):CtX Tryz.prog globs 10 0 0 [.one (tl qC default a1)] [] (qC9 r) (qC7 r):=by
 unfold qAp at hm;refine q_E Tryz.f10 38 λE=>?_;refine s_vn [] 0 ⟨[(0,vc (tl qC default a1))],[]⟩ ?_;refine q_sq ?_;refine s_va 0 [(6,vb (decide (((a1.length:Nat):Int)>20)))] ?_;refine q_cm hm (λb2 hm=>?_) (λb2 hm=>?_)
 ·refine s_vn [] 0 ⟨[(2,vb false)],[]⟩ ?_;obtain rfl:=oi hm;refine q_rt ?_;exact q_rm
 ·refine q_sk ?_;refine q_sq ?_;refine s_vv [] 0 [6] [(3,vi 0)] ?_;obtain⟨u12,h11,hm⟩:=qA hm;refine zQ (nd Tryz.f10 116) 0 (by kernel_rfl) FUEL (λo=>qDv) (λv st=>RetQ Tryz.prog Tryz.f10 (qC9 v) (qC7 v) .ret st) u12 (q_hl (CB a1 0) (qJX E a1 FUEL 0 u12 h11)) ?_ ?_
  ·rintro v13 rfl st hr;obtain rfl:=oi hm;exact hr
  ·rintro o10 rfl;replace hm:_=some r:=hm;refine s_vn [] 0 ⟨[(2,vb true)],[]⟩ ?_;obtain rfl:=oi hm;refine q_rt ?_;exact q_rm
def qNu (r:Bool):V:=vb r
def qNp (r:Bool):List (Nat×(Nat×O)):=[]
def qIT (a1:Law24_Given) (x15:Bool):St:=
 ⟨[(1,vp 0 0),(38,vb x15)],[(0,bx 42 (zH a1))]⟩
def qI5 (a1:Law24_Given) (x9:Bool):St:=
 ⟨[(1,vp 0 0),(24,vb x9)],[(0,bx 42 (zH a1))]⟩
theorem LI (a1:Law24_Given) (r:Bool) (hm:DW a1=some r):CtX Tryz.prog globs 18 0 0 [.agg (zH a1)] [] (qNu r) (qNp r):=by
 unfold DW at hm;refine q_E Tryz.f18 55 λE=>?_;refine s_vn [] 0 ⟨[(1,vp 0 0)],[(0,bx 42 (zH a1))]⟩ ?_;refine q_sq ?_;refine q_jn (qI5 a1) (λp=>JJ a1 p=some r) ?_ ?_
 ·rintro x9 hm;refine q_cm hm (λb10 hm=>?_) (λb10 hm=>?_)
  ·refine s_vn [] 1 ⟨[(2,vb false)],[]⟩ ?_;obtain rfl:=oi hm;refine q_rt ?_;exact q_rm
  ·refine q_sk ?_;refine q_sq ?_;refine q_jn (qIT a1) (λp=>UM a1 p=some r) ?_ ?_
   ·rintro x15 hm;refine q_cm hm (λb16 hm=>?_) (λb16 hm=>?_)
    ·refine s_vn [] 1 ⟨[(2,vb false)],[]⟩ ?_;obtain rfl:=oi hm;refine q_rt ?_;exact q_rm
    ·refine q_sk ?_;obtain⟨v17,h18,hm⟩:=qA hm;obtain⟨v19,h20,hm⟩:=qA hm;refine s_dn [qc 6 [41,44] 1 (qAO a1.Frame.X a1.Saw.Pitch v17 h18),qc 13 [48,51] 1 (qAO a1.Frame.Y a1.Saw.Pitch v19 h20)] [0,1,3,0,8,24,63,0,128,384,0,1024,3072,8191,16383,32767,65535] 1 ⟨[(2,vb (decide ((w64 (v17*v19))<=300)))],[]⟩ ?_;obtain rfl:=oi hm;refine q_rt ?_;exact q_rm
   ·rcases bif_c hm with⟨b11,hm⟩|⟨b11,hm⟩
    ·obtain⟨v12,h13,hm⟩:=qA hm;obtain⟨g14,hm⟩:=qG hm;refine q_du [qf 4 b11,qk 7 [29,31] 1 ⟨[(29,vb true),(31,vc (tl qI default a1.Solid))],[]⟩ (YK a1.Solid v12 h13),qd 11 dN (CN g14)] [0,1,3,7,15,31,63,127,31,287,799,2047,4095,8191] 1 [24] [(38,vb (decide ((w64 (Int.tdiv v12 a1.Saw.Step))>30)))] [] [] ?_;exact q_J (decide ((w64 (Int.tdiv v12 a1.Saw.Step))>30)) hm
    ·refine q_du [qf 4 b11] [0,1,3,7,15,31,63,127,31,287,799,2047,4095,8191] 1 [24] [(38,vb false)] [] [] ?_;exact q_J (false) hm
 ·obtain⟨v2,h3,hm⟩:=qA hm;rcases bif_c hm with⟨b4,hm⟩|⟨b4,hm⟩
  ·refine q_vv [qc 2 [4] 1 (LF a1.Solid v2 h3),qf 4 b4] 1 [] [(24,vb true)] ?_;exact q_J (true) hm
  ·rcases bif_c hm with⟨b5,hm⟩|⟨b5,hm⟩
   ·refine q_vv [qc 2 [4] 1 (LF a1.Solid v2 h3),qf 4 b4,qf 10 b5] 1 [] [(24,vb true)] ?_;exact q_J (true) hm
   ·obtain⟨v6,h7,hm⟩:=qA hm;rcases bif_c hm with⟨b8,hm⟩|⟨b8,hm⟩
    ·refine q_vv [qc 2 [4] 1 (LF a1.Solid v2 h3),qf 4 b4,qf 10 b5,qk 13 [13,15] 1 ⟨[(13,vb false),(15,vc (tl qC default a1.Products))],[]⟩ (qFI a1.Products v6 h7),qf 16 b8] 1 [] [(24,vb true)] ?_;exact q_J (true) hm
    ·refine q_vv [qc 2 [4] 1 (LF a1.Solid v2 h3),qf 4 b4,qf 10 b5,qk 13 [13,15] 1 ⟨[(13,vb false),(15,vc (tl qC default a1.Products))],[]⟩ (qFI a1.Products v6 h7),qf 16 b8] 1 [] [(24,vb (decide (((a1.Products.length:Nat):Int)>4)))] ?_;exact q_J (decide (((a1.Products.length:Nat):Int)>4)) hm
def qNc (r:Bool):V:=vb r
def qNl (r:Bool):List (Nat×(Nat×O)):=[]
theorem IU (a1:Law24_Given) (r:Bool) (hm:HA a1=some r):CtX Tryz.prog globs 24 0 0 [.agg (zH a1)] [] (qNc r) (qNl r):=by
 unfold HA at hm;refine q_E Tryz.f24 11 λE=>?_;refine s_vn [] 0 ⟨[(1,vp 0 0)],[(0,bx 42 (zH a1))]⟩ ?_;obtain⟨v2,h3,hm⟩:=qA hm;refine s_vn [qc 6 [5,8] 1 (qAO a1.Frame.X a1.Saw.Pitch v2 h3)] 1 ⟨[(2,vb (decide (v2<=31)))],[]⟩ ?_;obtain rfl:=oi hm;refine q_rt ?_;exact q_rm
end Saw
end Go.SL

import Derived.Test.YtigmogcdifllhaaGreatDoorEBase
set_option linter.unusedVariables false
set_option linter.unusedSimpArgs false
namespace Go.SL
namespace Saw
open Go.Proofs Go.Proofs.Tryz
set_option maxHeartbeats 4000000
set_option maxRecDepth 100000
def EV (r:Bool):V:=vb r
def AF (r:Bool):List (Nat×(Nat×O)):=[]
def qIF (a1:Rect) (x2:Int) (x7:Bool):St:=
 ⟨[(9,va (qR a1)),(10,vi x2),(27,vb x7)],[]⟩
def BR (a1:Rect) (x2:Int):St:=
 ⟨[(9,va (qR a1)),(10,vi x2)],[]⟩
def qAF :St:=
 ⟨[],[]⟩
theorem qIc (E:Env 0) (a1:Rect):∀(n:Nat) (x2:Int) (res:Bool⊕Unit),zU a1 n x2=some res->HL (kx E 29 0) (nd f81 52) (wY 0 (λo=>qAF) (λv st=>RetQ Tryz.prog f81 (EV v) (AF v) .ret st) res) n (BR a1 x2):=by
 intro n
 induction n with
 |zero=>
  intro x2 res hm;cases hm
 |succ n ih=>
  intro x2 res hm;refine qU (s_va 1 [(11,vb (decide (x2<2)))] ?_);refine q_sq (q_cq hm (λhm=>?_) (λhm=>?_))
  ·refine q_sk (q_sq ?_);refine q_bk 1 ?_;obtain⟨g4,hm⟩:=qJ hm;refine s_vu [qi 0 g4] 1 [11] [(4,vp 1 0)] [] [(1,bx 53 [ci (([a1.X.A,a1.X.B,a1.Y.A,a1.Y.B]:List Int).getD (x2.toNat*2+0) 0),ci (([a1.X.A,a1.X.B,a1.Y.A,a1.Y.B]:List Int).getD (x2.toNat*2+1) 0)])] (q_jn (qIF a1 x2) (λp=>QK x2 (zU a1 n) p=some res) ?_ ?_)
   ·rintro x7 hm;refine q_cq hm (λhm=>?_) (λhm=>?_)
    ·refine s_vn [] 2 ⟨[(2,vb false)],[]⟩ ?_;obtain rfl:=oi hm;refine q_rt (zQ false ?_);exact q_rm
    ·refine q_sk (q_vv [] 2 [10,27] [(10,vi (w64 (x2+1)))] ?_);exact q_hl (BR a1 (w64 (x2+1))) (ih (w64 (x2+1)) _ hm)
   ·rcases bif_c hm with⟨b5,hm⟩|⟨b5,hm⟩
    ·exact q_vu [qf 3 b5] 2 [4] [(27,vb true)] [1] [] (q_J (true) hm)
    ·rcases bif_c hm with⟨b6,hm⟩|⟨b6,hm⟩
     ·exact q_vu [qf 3 b5,qf 8 b6] 2 [4] [(27,vb true)] [1] [] (q_J (true) hm)
     ·exact q_vu [qf 3 b5,qf 8 b6] 2 [4] [(27,vb (decide ((([a1.X.A,a1.X.B,a1.Y.A,a1.Y.B]:List Int).getD (x2.toNat*2+0) 0)≥(([a1.X.A,a1.X.B,a1.Y.A,a1.Y.B]:List Int).getD (x2.toNat*2+1) 0))))] [1] [] (q_J (decide ((([a1.X.A,a1.X.B,a1.Y.A,a1.Y.B]:List Int).getD (x2.toNat*2+0) 0)≥(([a1.X.A,a1.X.B,a1.Y.A,a1.Y.B]:List Int).getD (x2.toNat*2+1) 0))) hm)
  ·refine q_ex 0 ?_;obtain rfl:=oi hm;exact q_l1 ()
theorem HO (a1:Rect) (r:Bool) (hm:ZM a1=some r):CtX Tryz.prog globs 81 0 0 [.agg (qR a1)] [] (EV r) (AF r):=by
 unfold ZM at hm;refine q_E f81 29 λE=>?_;refine s_vn [] 0 ⟨[(1,vp 0 0)],[(0,bx 55 (qR a1))]⟩ (q_sq ?_);refine s_vn [] 1 ⟨[(9,va (qR a1)),(10,vi 0)],[]⟩ ?_;obtain⟨u11,h10,hm⟩:=qC hm;refine zY (nd f81 52) 0 (by kernel_rfl) FUEL (λo=>qAF) (λv st=>RetQ Tryz.prog f81 (EV v) (AF v) .ret st) u11 (q_hl (BR a1 0) (qIc E a1 FUEL 0 u11 h10)) ?_ ?_
 ·rintro v12 rfl st hr;obtain rfl:=oi hm;exact hr
 ·rintro o9 rfl;replace hm:_=some r:=hm;refine s_vn [] 1 ⟨[(2,vb true)],[]⟩ ?_;obtain rfl:=oi hm;exact q_rt q_rm
def qOr (r:Pattern×Int):V:=vc (.fn 144 [.bptr 0 0 0,.bptr 1 0 0])
def qNY (r:Pattern×Int):List (Nat×(Nat×O)):=[(0,bx 58 (zL r.1)),(1,bx 3 [ci r.2])]
theorem qLV (a1:Pattern) (a2:Int) (r:Pattern×Int) (hm:EK a1 a2=some r):CtX Tryz.prog globs 82 0 0 [.agg (zL a1),.one (ci a2)] [] (qOr r) (qNY r):=by
 unfold EK at hm;refine q_E f82 6 λE=>?_;refine s_vn [] 0 ⟨[(2,vp 0 0),(3,vp 1 0)],[(0,bx 58 (zL a1)),(1,bx 3 [ci a2])]⟩ (s_vv [] 2 [2,3] [(4,vc (.fn 144 [.bptr 0 0 0,.bptr 1 0 0]))] ?_);obtain rfl:=oi hm;exact q_rt q_rm
def qQT (r:Bool):V:=vb r
def qQe (r:Bool):List (Nat×(Nat×O)):=[]
def qKj (x3:Bool):St:=
 ⟨[(2,vb x3)],[]⟩
theorem CG (a1:Int) (r:Bool) (hm:KM a1=some r):CtX Tryz.prog globs 116 0 0 [.one (ci a1)] [] (qQT r) (qQe r):=by
 unfold KM at hm;refine q_E f116 9 λE=>?_;refine s_vn [] 0 ⟨[(0,vi a1)],[]⟩ (q_jn (qKj) (λp=>OX p=some r) ?_ ?_)
 ·rintro x3 hm;obtain rfl:=oi hm;exact q_rt q_rm
 ·rcases bif_c hm with⟨b2,hm⟩|⟨b2,hm⟩
  ·exact q_vn [qf 2 b2] 0 ⟨[(2,vb true)],[]⟩ (q_J (true) hm)
  ·exact q_vn [qf 2 b2] 0 ⟨[(2,vb (a1==3))],[]⟩ (q_J (a1==3) hm)
def qPg (r:Span):V:=va (qL r)
def qPj (r:Span):List (Nat×(Nat×O)):=[]
theorem OY (a1:Rect) (a2:Int) (r:Span) (hm:KR a1 a2=some r):CtX Tryz.prog globs 118 0 0 [.agg (qR a1),.one (ci a2)] [] (qPg r) (qPj r):=by
 unfold KR at hm;refine q_E f118 11 λE=>?_;refine s_vn [] 0 ⟨[(1,vi a2),(2,vp 0 0),(4,vp 1 0)],[(0,bx 55 (qR a1)),(1,bx 53 [ci 0,ci 0])]⟩ (q_sq ?_);refine s_vv [] 2 [1] [(6,vb (a2==2))] (q_cq hm (λhm=>?_) (λhm=>?_))
 ·refine s_vn [] 2 ⟨[(4,vp 1 0)],[(1,bx 53 (qL a1.X))]⟩ ?_;obtain rfl:=oi hm;exact q_rt q_rm
 ·refine q_sk (s_vn [] 2 ⟨[(4,vp 1 0)],[(1,bx 53 (qL a1.Y))]⟩ ?_);obtain rfl:=oi hm;exact q_rt q_rm
def qJ8 (r:Int):V:=vi r
def qJ9 (r:Int):List (Nat×(Nat×O)):=[]
def IA :St:=
 ⟨[],[]⟩
def qHl (x15:Bool):St:=
 ⟨[(46,vb x15)],[]⟩
def qHh (a1:Node) (a2:qV) (x6:Bool):St:=
 ⟨[(2,vp 0 0),(3,vp 1 0),(23,vb x6)],[(0,bx 156 (qK a1)),(1,bx 154 (zO a2))]⟩
theorem qIG (a1:Node) (a2:qV) (r:Int) (hm:JI a1 a2=some r):CtX Tryz.prog globs 83 0 0 [.agg (qK a1),.agg (zO a2)] [] (qJ8 r) (qJ9 r):=by
 unfold JI at hm;refine q_E f83 47 λE=>?_;refine s_vn [] 0 ⟨[(2,vp 0 0),(3,vp 1 0)],[(0,bx 156 (qK a1)),(1,bx 154 (zO a2))]⟩ (q_sq ?_);refine q_jn (qHh a1 a2) (λp=>ZC a1 a2 p=some r) ?_ ?_
 ·rintro x6 hm;refine q_cq hm (λhm=>?_) (λhm=>?_)
  ·refine s_vn [] 2 ⟨[(4,vi 10)],[]⟩ ?_;obtain rfl:=oi hm;exact q_rt q_rm
  ·refine q_sk (q_sq ?_);refine s_vv [] 2 [23] [(26,vb (decide (a2.level>64)))] (q_cq hm (λhm=>?_) (λhm=>?_))
   ·refine s_vn [] 2 ⟨[(4,vi 28)],[]⟩ ?_;obtain rfl:=oi hm;exact q_rt q_rm
   ·refine q_sk (q_jn (ι:=Unit) (λp=>IA) (λp=>BM=some r) ?_ ?_)
    ·rintro _ hm;show H _ (IA) _ _;refine s_vn [] 3 ⟨[(4,vi 0)],[]⟩ ?_;obtain rfl:=oi hm;exact q_rt q_rm
    ·obtain⟨v9,h10,hm⟩:=qC hm;refine s_vv [qc 2 [28] 2 (CG a1.Kind v9 h10)] 2 [26] [(29,vb v9)] (q_cq hm (λhm=>?_) (λhm=>?_))
     ·obtain⟨v12,h13,hm⟩:=qC hm;refine s_vu [qc 4 [31,33] 2 (OY a2.rect a1.Kind v12 h13)] 2 [3,29] [(5,vp 2 0)] [1] [(2,bx 53 (qL v12))] (q_jn (qHl) (λp=>NO p=some r) ?_ ?_)
      ·rintro x15 hm;refine q_cq hm (λhm=>?_) (λhm=>?_)
       ·refine s_vn [] 3 ⟨[(4,vi 20)],[]⟩ ?_;obtain rfl:=oi hm;exact q_rt q_rm
       ·exact q_sk (q_J () hm)
      ·rcases bif_c hm with⟨b14,hm⟩|⟨b14,hm⟩
       ·exact q_vn [qf 5 b14] 3 ⟨[(46,vb true)],[]⟩ (q_J (true) hm)
       ·exact q_vn [qf 5 b14] 3 ⟨[(46,vb (decide (a1.At≥v12.B)))],[]⟩ (q_J (decide (a1.At≥v12.B)) hm)
     ·exact q_sk (q_J () hm)
 ·rcases bif_c hm with⟨b3,hm⟩|⟨b3,hm⟩
  ·exact q_vv [qf 3 b3] 2 [] [(23,vb true)] (q_J (true) hm)
  ·rcases bif_c hm with⟨b4,hm⟩|⟨b4,hm⟩
   ·exact q_vv [qf 3 b3,qf 8 b4] 2 [] [(23,vb true)] (q_J (true) hm)
   ·rcases bif_c hm with⟨b5,hm⟩|⟨b5,hm⟩
    ·exact q_vv [qf 3 b3,qf 8 b4,qf 12 b5] 2 [] [(23,vb (a1.At !=0))] (q_J (a1.At !=0) hm)
    ·exact q_vv [qf 3 b3,qf 8 b4,qf 12 b5] 2 [] [(23,vb false)] (q_J (false) hm)
def qRR (r:Int):V:=vi r
def qRB (r:Int):List (Nat×(Nat×O)):=[]
theorem qF9 (a1:Int) (a2:Int) (r:Int) (hm:MJ a1 a2=some r):CtX Tryz.prog globs 85 0 0 [.one (ci a1),.one (ci a2)] [] (qRR r) (qRB r):=by
 unfold MJ at hm;refine q_E f85 11 λE=>?_;refine s_vn [] 0 ⟨[(0,vi a1),(1,vi a2)],[]⟩ (s_vn [qd 5 dN (show(1000:Int)≠0 by decide)] 0 ⟨[(4,vi (w64 (Int.tdiv (w64 ((w64 (a1*(w64 (1000+a2))))+999)) 1000)))],[]⟩ ?_);obtain rfl:=oi hm;exact q_rt q_rm
def qNL (r:Bool):V:=vb r
def qNO (r:Bool):List (Nat×(Nat×O)):=[]
def qJT (x3:Bool):St:=
 ⟨[(2,vb x3)],[]⟩
theorem ZG (a1:Int) (r:Bool) (hm:PW a1=some r):CtX Tryz.prog globs 84 0 0 [.one (ci a1)] [] (qNL r) (qNO r):=by
 unfold PW at hm;refine q_E f84 9 λE=>?_;refine s_vn [] 0 ⟨[(0,vi a1)],[]⟩ (q_jn (qJT) (λp=>VW p=some r) ?_ ?_)
 ·rintro x3 hm;obtain rfl:=oi hm;exact q_rt q_rm
 ·rcases bif_c hm with⟨b2,hm⟩|⟨b2,hm⟩
  ·exact q_vn [qf 2 b2] 0 ⟨[(2,vb (decide (a1<=600)))],[]⟩ (q_J (decide (a1<=600)) hm)
  ·exact q_vn [qf 2 b2] 0 ⟨[(2,vb false)],[]⟩ (q_J (false) hm)
def qQN (r:Int×Int):V:= .tup [.one (ci r.1),.one (ci r.2)]
def qPP (r:Int×Int):List (Nat×(Nat×O)):=[]
def qLo (a1:qD) (x9:Bool):St:=
 ⟨[(1,vp 0 0),(23,vb x9)],[(0,bx 74 (qM a1))]⟩
theorem RS (a1:qD) (r:Int×Int) (hm:yS a1=some r):CtX Tryz.prog globs 43 0 0 [.agg (qM a1)] [] (qQN r) (qPP r):=by
 unfold yS at hm;refine q_E f43 34 λE=>?_;refine s_vn [] 0 ⟨[(1,vp 0 0)],[(0,bx 74 (qM a1))]⟩ (q_sq ?_);refine q_jn (qLo a1) (λp=>YX a1 p=some r) ?_ ?_
 ·rintro x9 hm;refine q_cq hm (λhm=>?_) (λhm=>?_)
  ·refine s_vn [] 1 ⟨[(2,vi 0),(3,vi 0)],[]⟩ ?_;obtain rfl:=oi hm;exact q_rt q_rm
  ·refine q_sk ?_;obtain⟨v11,h12,hm⟩:=qC hm;obtain⟨v13,h14,hm⟩:=qC hm;refine s_dn [qc 4 [25,27] 1 (qF9 a1.Thick a1.Allow v11 h12),qc 9 [30,32] 1 (qF9 a1.Width a1.Allow v13 h14)] [0,1,0,4,15,0,32,0,128,511,1023,2047] 1 ⟨[(2,vi v11),(3,vi v13)],[]⟩ ?_;obtain rfl:=oi hm;exact q_rt q_rm
 ·obtain⟨v2,h3,hm⟩:=qC hm;rcases bif_c hm with⟨b4,hm⟩|⟨b4,hm⟩
  ·exact q_vv [qc 2 [5] 1 (ZG a1.Thick v2 h3),qf 4 b4] 1 [] [(23,vb true)] (q_J (true) hm)
  ·obtain⟨v5,h6,hm⟩:=qC hm;rcases bif_c hm with⟨b7,hm⟩|⟨b7,hm⟩
   ·exact q_vv [qc 2 [5] 1 (ZG a1.Thick v2 h3),qf 4 b4,qk 7 [8,10] 1 ⟨[(8,vb false),(10,vi a1.Width)],[]⟩ (ZG a1.Width v5 h6),qf 10 b7] 1 [] [(23,vb true)] (q_J (true) hm)
   ·rcases bif_c hm with⟨b8,hm⟩|⟨b8,hm⟩
    ·exact q_vv [qc 2 [5] 1 (ZG a1.Thick v2 h3),qf 4 b4,qk 7 [8,10] 1 ⟨[(8,vb false),(10,vi a1.Width)],[]⟩ (ZG a1.Width v5 h6),qf 10 b7,qf 15 b8] 1 [] [(23,vb true)] (q_J (true) hm)
    ·exact q_vv [qc 2 [5] 1 (ZG a1.Thick v2 h3),qf 4 b4,qk 7 [8,10] 1 ⟨[(8,vb false),(10,vi a1.Width)],[]⟩ (ZG a1.Width v5 h6),qf 10 b7,qf 15 b8] 1 [] [(23,vb (decide (a1.Allow>200)))] (q_J (decide (a1.Allow>200)) hm)
def qWQ (r:Int):V:=vc (.val (.int .u64 r))
def qWD (r:Int):List (Nat×(Nat×O)):=[]
theorem qVi (a1:Span) (r:Int) (hm:qCR a1=some r):CtX Tryz.prog globs 87 0 0 [.agg (qL a1)] [] (qWQ r) (qWD r):=by
 unfold qCR at hm;refine q_E f87 15 λE=>?_;refine s_vn [] 0 ⟨[(1,vp 0 0)],[(0,bx 53 (qL a1))]⟩ (q_sq ?_);refine s_va 1 [(7,vb (decide (a1.A≥a1.B)))] (q_cq hm (λhm=>?_) (λhm=>?_))
 ·refine s_vn [] 1 ⟨[(2,vc (.val (.int .u64 0)))],[]⟩ ?_;obtain rfl:=oi hm;exact q_rt q_rm
 ·refine q_sk (s_vn [] 1 ⟨[(2,vc (.val (.int .u64 (IntKind.u64.wrap ((IntKind.u64.wrap (a1.B))-(IntKind.u64.wrap (a1.A)))))))],[]⟩ ?_);obtain rfl:=oi hm;exact q_rt q_rm
def qQ0 (r:Int):V:=vi r
def qRh (r:Int):List (Nat×(Nat×O)):=[]
theorem qQa (a1:Int) (r:Int) (hm:SB a1=some r):CtX Tryz.prog globs 86 0 0 [.one (.val (.int .u64 a1))] [] (qQ0 r) (qRh r):=by
 unfold SB at hm;refine q_E f86 6 λE=>?_;refine s_vn [] 0 ⟨[(0,vc (.val (.int .u64 a1)))],[]⟩ (s_vn [] 0 ⟨[(2,vi (w64 (imin a1 9223372036854775807)))],[]⟩ ?_);obtain rfl:=oi hm;exact q_rt q_rm
def qXJ (r:Int):V:=vi r
def qYc (r:Int):List (Nat×(Nat×O)):=[]
theorem FU (a1:Span) (r:Int) (hm:PA a1=some r):CtX Tryz.prog globs 44 0 0 [.agg (qL a1)] [] (qXJ r) (qYc r):=by
 unfold PA at hm;refine q_E f44 6 λE=>?_;refine s_vn [] 0 ⟨[(1,vp 0 0)],[(0,bx 53 (qL a1))]⟩ ?_;obtain⟨v2,h3,hm⟩:=qC hm;obtain⟨v4,h5,hm⟩:=qC hm;refine s_vn [qc 1 [3] 1 (qVi a1 v2 h3),qc 2 [4] 1 (qQa v2 v4 h5)] 1 ⟨[(2,vi v4)],[]⟩ ?_;obtain rfl:=oi hm;exact q_rt q_rm
def qD9 (a1:Rect) (a2:Int) (a3:List qD) (r:Int):V:=vi r
def qD8 (a1:Rect) (a2:Int) (a3:List qD) (r:Int):List (Nat×(Nat×O)):=[(0,bx 37 [tl qM du a3])]
def qIp (a3:List qD) (x18:Bool):St:=
 ⟨[(49,vb x18)],[(0,bx 37 [tl qM du a3])]⟩
def qIC (a1:Rect) (a2:Int) (a3:List qD) (x5:Bool):St:=
 ⟨[(1,vi a2),(2,vp 0 0),(3,vp 1 0),(17,vb x5)],[(0,bx 37 [tl qM du a3]),(1,bx 55 (qR a1))]⟩
theorem qK2 (a1:Rect) (a2:Int) (a3:List qD) (r:Int) (hm:XR a1 a2 a3=some r):CtX Tryz.prog globs 42 1 1 [.agg (qR a1),.one (ci a2),.one (.bptr 0 0 0)] [(0,bx 37 [tl qM du a3])] (qD9 a1 a2 a3 r) (qD8 a1 a2 a3 r):=by
 unfold XR at hm;refine q_E f42 50 λE=>?_;refine s_vn [] 1 ⟨[(1,vi a2),(2,vp 0 0),(3,vp 1 0)],[(0,bx 37 [tl qM du a3]),(1,bx 55 (qR a1))]⟩ (q_sq ?_);refine q_jn (qIC a1 a2 a3) (λp=>UM a1 a2 a3 p=some r) ?_ ?_
 ·rintro x5 hm;refine q_cq hm (λhm=>?_) (λhm=>?_)
  ·refine s_vu [] 2 [1,2,3,17] [(5,vi 8)] [1] [] ?_;obtain rfl:=oi hm;exact q_rt q_rm
  ·refine q_sk ?_;obtain⟨g7,hm⟩:=qJ hm;obtain⟨v8,h9,hm⟩:=qC hm;refine s_vv [qi 2 g7,qc 4 [22] 2 (RS (a3.getD a2.toNat du) v8 h9)] 2 [1,2,17] [(6,vi v8.1),(7,vi v8.2)] ?_;obtain⟨v10,h11,hm⟩:=qC hm;obtain⟨v12,h13,hm⟩:=qC hm;refine s_du [qc 2 [27] 2 (FU a1.X v10 h11),qc 5 [30] 2 (FU a1.Y v12 h13)] [0,1,3,0,8,31,63,127] 2 [3] [(8,vi v10),(9,vi v12)] [1] [] (q_sq ?_);refine q_jn (qIp a3) (λp=>jK p=some r) ?_ ?_
   ·rintro x18 hm;refine q_cq hm (λhm=>?_) (λhm=>?_)
    ·refine s_vv [] 2 [49] [(5,vi 20)] ?_;obtain rfl:=oi hm;exact q_rt q_rm
    ·refine q_sk (s_vv [] 2 [49] [(5,vi 0)] ?_);obtain rfl:=oi hm;exact q_rt q_rm
   ·rcases bif_c hm with⟨b14,hm⟩|⟨b14,hm⟩
    ·rcases bif_c hm with⟨b15,hm⟩|⟨b15,hm⟩
     ·exact q_vv [qf 3 b14,qf 12 b15] 2 [6,7,8,9] [(49,vb true)] (q_J (true) hm)
     ·exact q_vv [qf 3 b14,qf 12 b15] 2 [6,7,8,9] [(49,vb (v12 !=v8.1))] (q_J (v12 !=v8.1) hm)
    ·rcases bif_c hm with⟨b16,hm⟩|⟨b16,hm⟩
     ·rcases bif_c hm with⟨b17,hm⟩|⟨b17,hm⟩
      ·exact q_vv [qf 3 b14,qf 8 b16,qf 12 b17] 2 [6,7,8,9] [(49,vb true)] (q_J (true) hm)
      ·exact q_vv [qf 3 b14,qf 8 b16,qf 12 b17] 2 [6,7,8,9] [(49,vb (v12 !=v8.1))] (q_J (v12 !=v8.1) hm)
     ·exact q_vv [qf 3 b14,qf 8 b16] 2 [6,7,8,9] [(49,vb false)] (q_J (false) hm)
 ·rcases bif_c hm with⟨b4,hm⟩|⟨b4,hm⟩
  ·exact q_vv [qf 2 b4] 2 [] [(17,vb true)] (q_J (true) hm)
  ·exact q_vv [qf 2 b4] 2 [] [(17,vb (decide (a2≥(a3.length:Int))))] (q_J (decide (a2≥(a3.length:Int))) hm)
noncomputable def DY (a1:Int) (a2:qV) (a3:Pattern) (a4:List qD) (a5:Int) (a6:Int) (ri:RI 67) (r:Nat×Int×Int):V:=vb (Nat.beq r.1 0)
noncomputable def GZ (a1:Int) (a2:qV) (a3:Pattern) (a4:List qD) (a5:Int) (a6:Int) (ri:RI 67) (r:Nat×Int×Int):List (Nat×(Nat×O)):=[(0,lz (rc f41 506 ri) ri.b [.ret] r.1),(1,bx 58 (zL a3)),(2,bx 110 [.fn 42 [.bptr 3 0 0]]),(3,bx 37 [tl qM du a4]),(4,bx 31 [ci r.2.1]),(5,bx 3 [ci r.2.2])]
noncomputable def qEL (ri:RI 67) (a1:Int) (a3:Pattern) (a4:List qD) (a5:Int) (a6:Int) (x16:Int):St:=
 ⟨[(6,vp 4 0),(7,vp 5 0),(8,vi a1),(11,vi x16)],[(0,ly (rc f41 506 ri) ri.b),(1,bx 58 (zL a3)),(2,bx 110 [.fn 42 [.bptr 3 0 0]]),(3,bx 37 [tl qM du a4]),(4,bx 31 [ci a5]),(5,bx 3 [ci a6])]⟩
noncomputable def qEN (ri:RI 67) (a1:Int) (a2:qV) (a3:Pattern) (a4:List qD) (a5:Int) (a6:Int) (v9:Int) (x12:Bool):St:=
 ⟨[(5,vp 2 0),(6,vp 4 0),(7,vp 5 0),(8,vi a1),(9,vp 6 0),(10,vp 7 0),(11,vi v9),(50,vb x12)],[(0,ly (rc f41 506 ri) ri.b),(1,bx 58 (zL a3)),(2,bx 110 [.fn 42 [.bptr 3 0 0]]),(3,bx 37 [tl qM du a4]),(4,bx 31 [ci a5]),(5,bx 3 [ci a6]),(6,bx 154 (zO a2)),(7,bx 156 (qK (a3.Nodes.getD a1.toNat du)))]⟩
theorem II (a1:Int) (a2:qV) (a3:Pattern) (a4:List qD) (a5:Int) (a6:Int) (ri:RI 67) (r:Nat×Int×Int) (hm:YC a1 a2 a3 a4 a5 a6=some r):CtR Tryz.prog globs (rc f41 506 ri) ri.b [3,5,6,7] 6 6 [.one (ci a1),.agg (zO a2),.one (.bptr 1 0 0),.one (.bptr 2 0 0),.one (.bptr 4 0 0),.one (.bptr 5 0 0)] [(0,lq (rc f41 506 ri) ri.b),(1,bx 58 (zL a3)),(2,bx 110 [.fn 42 [.bptr 3 0 0]]),(3,bx 37 [tl qM du a4]),(4,bx 31 [ci a5]),(5,bx 3 [ci a6])] (DY a1 a2 a3 a4 a5 a6 ri r) (GZ a1 a2 a3 a4 a5 a6 ri r):=by
 unfold YC at hm;refine q_R f41 506 67 ri λE=>?_;refine q_sq (q_vn [] 6 ⟨[(3,vp 1 0),(5,vp 2 0),(6,vp 4 0),(7,vp 5 0),(8,vi a1),(30,va (zO a2))],[(0,lq (rc f41 506 ri) ri.b),(1,bx 58 (zL a3)),(2,bx 110 [.fn 42 [.bptr 3 0 0]]),(3,bx 37 [tl qM du a4]),(4,bx 31 [ci a5]),(5,bx 3 [ci a6])]⟩ ?_);refine q_vu [] 6 [30] [(9,vp 6 0)] [] [(6,bx 154 (zO a2))] (q_rd ⟨[(3,vp 1 0),(5,vp 2 0),(6,vp 4 0),(7,vp 5 0),(8,vi a1),(9,vp 6 0)],[(0,ly (rc f41 506 ri) ri.b),(1,bx 58 (zL a3)),(2,bx 110 [.fn 42 [.bptr 3 0 0]]),(3,bx 37 [tl qM du a4]),(4,bx 31 [ci a5]),(5,bx 3 [ci a6]),(6,bx 154 (zO a2))]⟩ ?_)
 refine q_bk 1 (q_sq ?_);refine q_sq (q_va 7 [(35,vb (decide (a1≥(a3.Nodes.length:Int))))] ?_);refine q_cq hm (λhm=>?_) (λhm=>?_)
 ·refine q_sq (q_vu [] 7 [3,5,6,7,8,9,35] [] [4,6] [(4,bx 31 [ci 3])] ?_);obtain rfl:=oi hm;exact q_rt q_rq
 ·refine q_sk (q_sq ?_);obtain⟨g8,hm⟩:=qJ hm;refine q_vu [qi 3 g8] 7 [3,35] [(10,vp 7 0)] [] [(7,bx 156 (qK (a3.Nodes.getD a1.toNat du)))] (q_sq ?_);obtain⟨v9,h10,hm⟩:=qC hm;refine q_vv [qc 2 [41,42] 8 (qIG (a3.Nodes.getD a1.toNat du) a2 v9 h10)] 8 [] [(11,vi v9)] (q_jn (qEL ri a1 a3 a4 a5 a6) (λp=>ZR a1 a5 a6 p=some r) ?_ ?_)
  ·rintro x16 hm;refine q_sq (q_sq ?_);refine q_va 8 [(58,vb (x16 !=0))] (q_cq hm (λhm=>?_) (λhm=>?_))
   ·refine q_sq (q_vu [] 8 [6,7,8,11,58] [] [4] [(4,bx 31 [ci x16])] ?_);obtain rfl:=oi hm;exact q_rt q_rq
   ·refine q_sk (q_vu [] 8 [6,7,8,11,58] [] [5] [(5,bx 3 [ci (w64 (a1+1))])] ?_);obtain rfl:=oi hm;exact q_rq
  ·refine q_jn (qEN ri a1 a2 a3 a4 a5 a6 v9) (λp=>XB a1 a2 a3 a4 a5 a6 v9 p=some r) ?_ ?_
   ·rintro x12 hm;refine q_cq hm (λhm=>?_) (λhm=>?_)
    ·obtain⟨v14,h15,hm⟩:=qC hm;exact q_vu [qd 5 (dex (cen [(3,0)] [0] 7 1 (qD9 a2.rect ((a3.Nodes.getD a1.toNat du).At) a4 v14) (qD8 a2.rect ((a3.Nodes.getD a1.toNat du).At) a4 v14) [51,53,55] [3])) (wO (K:=(kr E 67 6 ri.b)) ⟨[(51,vc (.fn 42 [.bptr 3 0 0])),(53,va (qR a2.rect)),(55,vi ((a3.Nodes.getD a1.toNat du).At))],[(3,bx 37 [tl qM du a4])]⟩ (opAt (rg f41 129722) 5) [(3,0)] [0] 7 o0 rfl (qK2 a2.rect ((a3.Nodes.getD a1.toNat du).At) a4 v14 h15) (.inl rfl) (by kernel_rfl))] 8 [5,9,10,11,50] [(11,vi v14)] [6,7] [] (q_J (v14) hm)
    ·exact q_sk (q_J (v9) hm)
   ·rcases bif_c hm with⟨b11,hm⟩|⟨b11,hm⟩
    ·exact q_vv [qf 2 b11] 8 [] [(50,vb (((a3.Nodes.getD a1.toNat du).Kind)==1))] (q_J (((a3.Nodes.getD a1.toNat du).Kind)==1) hm)
    ·exact q_vv [qf 2 b11] 8 [] [(50,vb false)] (q_J (false) hm)
def qRZ (r:Rect):V:=va (qR r)
def qRI (r:Rect):List (Nat×(Nat×O)):=[]
def qL6 (x5:Rect):St:=
 ⟨[(3,vp 0 0),(6,vp 2 0)],[(0,bx 55 (qR x5)),(2,bx 55 [ci 0,ci 0,ci 0,ci 0])]⟩
theorem qAU (a1:Rect) (a2:Int) (a3:Span) (r:Rect) (hm:TB a1 a2 a3=some r):CtX Tryz.prog globs 198 0 0 [.agg (qR a1),.one (ci a2),.agg (qL a3)] [] (qRZ r) (qRI r):=by
 unfold TB at hm;refine q_E f198 14 λE=>?_;refine s_vn [] 0 ⟨[(1,vi a2),(3,vp 0 0),(5,vp 1 0),(6,vp 2 0)],[(0,bx 55 (qR a1)),(1,bx 53 (qL a3)),(2,bx 55 [ci 0,ci 0,ci 0,ci 0])]⟩ (q_jn (qL6) (λp=>qAM p=some r) ?_ ?_)
 ·rintro x5 hm;refine s_vu [] 3 [3] [] [0,2] [(2,bx 55 (qR x5))] ?_;obtain rfl:=oi hm;exact q_rt q_rm
 ·refine s_vv [] 3 [1] [(8,vb (a2==2))] (q_cq hm (λhm=>?_) (λhm=>?_))
  ·exact q_vu [] 3 [5,8] [] [0,1] [(0,bx 55 [ci a3.A,ci a3.B,ci a1.Y.A,ci a1.Y.B])] (q_J ((Rect.mk a3 a1.Y)) hm)
  ·exact q_vu [] 3 [5,8] [] [0,1] [(0,bx 55 [ci a1.X.A,ci a1.X.B,ci a3.A,ci a3.B])] (q_J ((Rect.mk a1.X a3)) hm)
def qPC (r:Rect×Rect×Rect):V:= .tup [.agg (qR r.1),.agg (qR r.2.1),.agg (qR r.2.2)]
def qPs (r:Rect×Rect×Rect):List (Nat×(Nat×O)):=[]
theorem qN6 (a1:Rect) (a2:Node) (a3:Int) (r:Rect×Rect×Rect) (hm:FB a1 a2 a3=some r):CtX Tryz.prog globs 145 0 0 [.agg (qR a1),.agg (qK a2),.one (ci a3)] [] (qPC r) (qPs r):=by
 unfold FB at hm;refine q_E f145 50 λE=>?_;refine s_vn [] 0 ⟨[(2,vi a3),(3,vp 0 0),(4,vp 1 0),(6,vp 2 0),(7,vp 3 0),(8,vp 4 0)],[(0,bx 55 (qR a1)),(1,bx 156 (qK a2)),(2,bx 55 [ci 0,ci 0,ci 0,ci 0]),(3,bx 55 [ci 0,ci 0,ci 0,ci 0]),(4,bx 55 [ci 0,ci 0,ci 0,ci 0])]⟩ ?_;obtain⟨v4,h5,hm⟩:=qC hm;refine s_vu [qc 3 [11,13] 5 (OY a1 a2.Kind v4 h5)] 5 [] [(9,vp 5 0)] [] [(5,bx 53 (qL v4))] (s_vv [] 6 [2] [(10,vi (imin (w64 (a2.At+a3)) v4.B))] ?_);obtain⟨v6,h7,hm⟩:=qC hm;refine s_vu [qc 8 [22,24,29] 6 (qAU a1 a2.Kind (Span.mk v4.A a2.At) v6 h7)] 6 [] [] [2] [(2,bx 55 (qR v6))] ?_
 obtain⟨v8,h9,hm⟩:=qC hm;refine s_vu [qc 7 [31,33,37] 6 (qAU a1 a2.Kind (Span.mk a2.At (imin (w64 (a2.At+a3)) v4.B)) v8 h9)] 6 [] [] [3] [(3,bx 55 (qR v8))] ?_;obtain⟨v10,h11,hm⟩:=qC hm;refine s_vu [qc 7 [39,41,45] 6 (qAU a1 a2.Kind (Span.mk (imin (w64 (a2.At+a3)) v4.B) v4.B) v10 h11)] 6 [3,4,9,10] [] [0,1,4,5] [(4,bx 55 (qR v10))] (s_du [] [0,0,0,1,11,31] 6 [] [] [] [] ?_);obtain rfl:=oi hm;exact q_rt q_rm
noncomputable def SE (a1:Pattern) (a2:List qD) (a3:Int) (a4:Int) (a5:Pattern) (a6:Int) (ri:RI 67) (r:Nat×Int×Int):V:= .undef
noncomputable def HH (a1:Pattern) (a2:List qD) (a3:Int) (a4:Int) (a5:Pattern) (a6:Int) (ri:RI 67) (r:Nat×Int×Int):List (Nat×(Nat×O)):=[(0,lz (rc f41 506 ri) ri.b [.ret] r.1),(1,bx 58 (zL a1)),(2,bx 110 [.fn 42 [.bptr 3 0 0]]),(3,bx 37 [tl qM du a2]),(4,bx 31 [ci r.2.1]),(5,bx 3 [ci r.2.2]),(6,bx 58 (zL a5)),(7,bx 3 [ci a6])]
noncomputable def CT (ri:RI 67) (a1:Pattern) (a2:List qD) (a5:Pattern) (a6:Int) (x8:Int) (l25:List qV) (l25n:Nat) (x26:Int) (x27:Int):St:=
 ⟨[(0,vc (.yl (rc f41 506 ri) ri.b [3,5,6,7] [.bptr 1 0 0,.bptr 2 0 0,.bptr 4 0 0,.bptr 5 0 0])),(1,vp 6 0),(2,vp 7 0),(4,vo 8 0 5 l25n),(5,vi x8)],[(0,lq (rc f41 506 ri) ri.b),(1,bx 58 (zL a1)),(2,bx 110 [.fn 42 [.bptr 3 0 0]]),(3,bx 37 [tl qM du a2]),(4,bx 31 [ci x27]),(5,bx 3 [ci x26]),(6,bx 58 (zL a5)),(7,bx 3 [ci a6]),(8,ro 0 154 5 l25n (rf zO l25))]⟩
noncomputable def GT (ri:RI 67) (a1:Pattern) (a2:List qD) (a5:Pattern) (a6:Int) (l7:List qV) (l7n:Nat) (x8:Int) (x9:Int) (x10:Int):St:=
 ⟨[(0,vc (.yl (rc f41 506 ri) ri.b [3,5,6,7] [.bptr 1 0 0,.bptr 2 0 0,.bptr 4 0 0,.bptr 5 0 0])),(1,vp 6 0),(2,vp 7 0),(4,vo 8 0 5 l7n),(5,vi x8)],[(0,lq (rc f41 506 ri) ri.b),(1,bx 58 (zL a1)),(2,bx 110 [.fn 42 [.bptr 3 0 0]]),(3,bx 37 [tl qM du a2]),(4,bx 31 [ci x9]),(5,bx 3 [ci x10]),(6,bx 58 (zL a5)),(7,bx 3 [ci a6]),(8,ro 0 154 5 l7n (rf zO l7))]⟩
noncomputable def qAc (ri:RI 67) (a1:Pattern) (a2:List qD) (a5:Pattern) (a6:Int) (x28:Int) (x29:Int):St:=
 ⟨[],[(0,lq (rc f41 506 ri) ri.b),(1,bx 58 (zL a1)),(2,bx 110 [.fn 42 [.bptr 3 0 0]]),(3,bx 37 [tl qM du a2]),(4,bx 31 [ci x29]),(5,bx 3 [ci x28]),(6,bx 58 (zL a5)),(7,bx 3 [ci a6])]⟩
theorem qHm (E:Env 8) (ri:RI 67) (a1:Pattern) (a2:List qD) (a3:Int) (a4:Int) (a5:Pattern) (a6:Int):∀(n:Nat) (l7:List qV) (l7n:Nat) (x8:Int) (x9:Int) (x10:Int) (res:(Nat×Int×Int)⊕(Int×Int)),l7.length=l7n->wD a1 a2 a5 a6 n l7 x8 x9 x10=some res->HL (kx E 73 8) (nd f144 28) (wY 0 (λo=>qAc ri a1 a2 a5 a6 o.1 o.2) (λv st=>RetQ Tryz.prog f144 (SE a1 a2 a3 a4 a5 a6 ri v) (HH a1 a2 a3 a4 a5 a6 ri v) .ret st) res) n (GT ri a1 a2 a5 a6 l7 l7n x8 x9 x10):=by
 intro n
 induction n with
 |zero=>
  intro l7 l7n x8 x9 x10 res hl0 hm;cases hm
 |succ n ih=>
  intro l7 l7n x8 x9 x10 res hl0 hm;subst hl0;refine qU (q_sq ?_);refine s_va 9 [(17,vb (decide ((l7.length:Int)>0)))] (q_cq hm (λhm=>?_) (λhm=>?_))
  ·refine q_sk (q_jn (ι:=(List qV)×Nat×Int×Int) (λp=>CT ri a1 a2 a5 a6 x8 p.1 p.2.1 p.2.2.1 p.2.2.2) (λp=>p.1.length=p.2.1/\TE x8 (wD a1 a2 a5 a6 n) p.1 p.2.2.1 p.2.2.2=some res) ?_ ?_)
   ·rintro⟨l25,l25n,x26,x27⟩ ⟨el25,hm⟩;replace el25:l25.length=l25n:=el25;subst el25;show H _ (CT ri a1 a2 a5 a6 x8 l25 l25.length x26 x27) _ _;exact q_vv [] 15 [5] [(5,vi (w64 (x8+1)))] (q_hl (GT ri a1 a2 a5 a6 l25 l25.length (w64 (x8+1)) x27 x26) (ih l25 l25.length (w64 (x8+1)) x27 x26 _ rfl hm))
   ·refine q_bk 1 ?_;obtain⟨g12,hm⟩:=qJ hm;refine s_vu [qi 4 g12,qd 5 dN (qT (zB g12))] 9 [17] [(6,vp 9 0)] [] [(9,bx 154 (zO (l7.getD ((w64 ((l7.length:Int)-1)).toNat) du)))] ?_;obtain⟨g13,hm⟩:=qJ hm
    refine s_wu [qd 4 dN (And.intro (zP g13).2.1 (zP g13).2.2)] [.row 8 ((w64 ((l7.length:Int)-1)).toNat) (rf zO (l7.take ((w64 ((l7.length:Int)-1)).toNat)))] (o1 (tkP zO du l7 l7.length ((w64 ((l7.length:Int)-1)).toNat) (show(w64 ((l7.length:Int)-1)).toNat<=l7.length by have:=(zP g13);omega))) 10 [4] [(4,vo 8 0 5 ((w64 ((l7.length:Int)-1)).toNat))] [8] [(8,ro 0 154 5 ((w64 ((l7.length:Int)-1)).toNat) (rf zO (l7.take ((w64 ((l7.length:Int)-1)).toNat))))] (q_sq ?_);refine q_sq ?_;obtain⟨v14,h15,hm⟩:=qC hm;rcases bif_c hm with⟨b16,hm⟩|⟨b16,hm⟩
    ·refine q_vu [qd 3 (dex (cen [(0,0),(1,0),(2,0),(3,0),(4,0),(5,0)] [0,0,0,0,0,0] 4 6 (DY x8 (l7.getD ((w64 ((l7.length:Int)-1)).toNat) du) a1 a2 x9 x10 ri v14) (GZ x8 (l7.getD ((w64 ((l7.length:Int)-1)).toNat) du) a1 a2 x9 x10 ri v14) [31,32,33] [0,1,2,3,4,5])) (callY (K:=(kx E 73 8)) ⟨[(31,vc (.yl (rc f41 506 ri) ri.b [3,5,6,7] [.bptr 1 0 0,.bptr 2 0 0,.bptr 4 0 0,.bptr 5 0 0])),(32,vi x8),(33,va [ci ((((l7.getD ((w64 ((l7.length:Int)-1)).toNat) du).rect).X).A),ci ((((l7.getD ((w64 ((l7.length:Int)-1)).toNat) du).rect).X).B),ci ((((l7.getD ((w64 ((l7.length:Int)-1)).toNat) du).rect).Y).A),ci ((((l7.getD ((w64 ((l7.length:Int)-1)).toNat) du).rect).Y).B),ci ((l7.getD ((w64 ((l7.length:Int)-1)).toNat) du).level)])],[(0,lq (rc f41 506 ri) ri.b),(1,bx 58 (zL a1)),(2,bx 110 [.fn 42 [.bptr 3 0 0]]),(3,bx 37 [tl qM du a2]),(4,bx 31 [ci x9]),(5,bx 3 [ci x10])]⟩ (opAt (rg f144 3660) 3) [(0,0),(1,0),(2,0),(3,0),(4,0),(5,0)] [0,0,0,0,0,0] 4 0 o0 rfl (II x8 (l7.getD ((w64 ((l7.length:Int)-1)).toNat) du) a1 a2 x9 x10 ri v14 h15) (.inl rfl) (by kernel_rfl)),qf 5 b16] 10 [] [(42,vb true)] [0,4,5] [(0,lz (rc f41 506 ri) ri.b [.ret] v14.1),(4,bx 31 [ci v14.2.1]),(5,bx 3 [ci v14.2.2])] ?_
     refine R_cnT f144 (.tmp 42) 7322 7323 (by kernel_rfl) (by kernel_rfl) ?_;obtain rfl:=oi hm;refine q_rt (zQ (v14.1,v14.2.1,v14.2.2) ?_);exact q_rm
    ·refine q_wu [qd 3 (dex (cen [(0,0),(1,0),(2,0),(3,0),(4,0),(5,0)] [0,0,0,0,0,0] 4 6 (DY x8 (l7.getD ((w64 ((l7.length:Int)-1)).toNat) du) a1 a2 x9 x10 ri v14) (GZ x8 (l7.getD ((w64 ((l7.length:Int)-1)).toNat) du) a1 a2 x9 x10 ri v14) [31,32,33] [0,1,2,3,4,5])) (callY (K:=(kx E 73 8)) ⟨[(31,vc (.yl (rc f41 506 ri) ri.b [3,5,6,7] [.bptr 1 0 0,.bptr 2 0 0,.bptr 4 0 0,.bptr 5 0 0])),(32,vi x8),(33,va [ci ((((l7.getD ((w64 ((l7.length:Int)-1)).toNat) du).rect).X).A),ci ((((l7.getD ((w64 ((l7.length:Int)-1)).toNat) du).rect).X).B),ci ((((l7.getD ((w64 ((l7.length:Int)-1)).toNat) du).rect).Y).A),ci ((((l7.getD ((w64 ((l7.length:Int)-1)).toNat) du).rect).Y).B),ci ((l7.getD ((w64 ((l7.length:Int)-1)).toNat) du).level)])],[(0,lq (rc f41 506 ri) ri.b),(1,bx 58 (zL a1)),(2,bx 110 [.fn 42 [.bptr 3 0 0]]),(3,bx 37 [tl qM du a2]),(4,bx 31 [ci x9]),(5,bx 3 [ci x10])]⟩ (opAt (rg f144 3660) 3) [(0,0),(1,0),(2,0),(3,0),(4,0),(5,0)] [0,0,0,0,0,0] 4 0 o0 rfl (II x8 (l7.getD ((w64 ((l7.length:Int)-1)).toNat) du) a1 a2 x9 x10 ri v14 h15) (.inl rfl) (by kernel_rfl)),qf 5 b16] [.lpn 0 .ready none] (o1 (lpz_f (js:=[.ret]) b16)) 10 [] [(42,vb (decide (x8≥(a5.Nodes.length:Int))))] [4,5] [(4,bx 31 [ci v14.2.1]),(5,bx 3 [ci v14.2.2])] ?_
     refine q_cq hm (λhm=>?_) (λhm=>?_)
     ·obtain rfl:=oi hm;refine q_rt (zQ (0,v14.2.1,v14.2.2) ?_);exact q_rm
     ·refine q_sk ?_;obtain⟨g18,hm⟩:=qJ hm;refine s_vu [qi 3 g18] 10 [42] [(7,vp 10 0)] [] [(10,bx 156 (qK (a5.Nodes.getD x8.toNat du)))] ?_;obtain⟨v19,h20,hm⟩:=qC hm;refine s_vv [qc 2 [49] 11 (CG ((a5.Nodes.getD x8.toNat du).Kind) v19 h20)] 11 [] [(50,vb v19)] (q_cq hm (λhm=>?_) (λhm=>?_))
      ·obtain⟨v22,h23,hm⟩:=qC hm;refine s_vu [qc 4 [53,54,55] 11 (qN6 ((l7.getD ((w64 ((l7.length:Int)-1)).toNat) du).rect) (a5.Nodes.getD x8.toNat du) a6 v22 h23)] 11 [7,50] [(8,vp 11 0),(10,vp 13 0)] [10] [(11,bx 55 (qR v22.1)),(13,bx 55 (qR v22.2.2))] ?_;obtain⟨g24,hm⟩:=qJ hm
       refine q_vu [qd 11 (drw 14 0 (rf zO [(qV.mk v22.2.2 (w64 (((l7.getD ((w64 ((l7.length:Int)-1)).toNat) du).level)+1))),(qV.mk v22.1 (w64 (((l7.getD ((w64 ((l7.length:Int)-1)).toNat) du).level)+1)))])) (litP zO du 5 (λ_=>rfl) ([(qV.mk v22.2.2 (w64 (((l7.getD ((w64 ((l7.length:Int)-1)).toNat) du).level)+1))),(qV.mk v22.1 (w64 (((l7.getD ((w64 ((l7.length:Int)-1)).toNat) du).level)+1)))]:List qV) 2 rfl),qd 12 (drw 8 1 (rf zO ((l7.take ((w64 ((l7.length:Int)-1)).toNat))++[(qV.mk v22.2.2 (w64 (((l7.getD ((w64 ((l7.length:Int)-1)).toNat) du).level)+1))),(qV.mk v22.1 (w64 (((l7.getD ((w64 ((l7.length:Int)-1)).toNat) du).level)+1)))]))) (apP zO du (l7.take ((w64 ((l7.length:Int)-1)).toNat)) ([(qV.mk v22.2.2 (w64 (((l7.getD ((w64 ((l7.length:Int)-1)).toNat) du).level)+1))),(qV.mk v22.1 (w64 (((l7.getD ((w64 ((l7.length:Int)-1)).toNat) du).level)+1)))]:List qV) ((w64 ((l7.length:Int)-1)).toNat) 2 5 40 (2<=2) (ke _) (WQ rfl (show(w64 ((l7.length:Int)-1)).toNat<=l7.length by have:=(zP g13);omega)) rfl (λ_=>rfl) (wB g24))] 14 [4,6,8,10] [(4,vo 8 1 5 ((w64 ((l7.length:Int)-1)).toNat+2))] [8,9,11,13] [(8,ro 1 154 5 ((w64 ((l7.length:Int)-1)).toNat+2) (rf zO ((l7.take ((w64 ((l7.length:Int)-1)).toNat))++[(qV.mk v22.2.2 (w64 (((l7.getD ((w64 ((l7.length:Int)-1)).toNat) du).level)+1))),(qV.mk v22.1 (w64 (((l7.getD ((w64 ((l7.length:Int)-1)).toNat) du).level)+1)))])))] ?_
       exact q_J (((l7.take ((w64 ((l7.length:Int)-1)).toNat))++[(qV.mk v22.2.2 (w64 (((l7.getD ((w64 ((l7.length:Int)-1)).toNat) du).level)+1))),(qV.mk v22.1 (w64 (((l7.getD ((w64 ((l7.length:Int)-1)).toNat) du).level)+1)))]),((w64 ((l7.length:Int)-1)).toNat+2),v14.2.2,v14.2.1) ⟨(wC (WQ rfl (show(w64 ((l7.length:Int)-1)).toNat<=l7.length by have:=(zP g13);omega)) rfl),hm⟩
      ·exact q_sk (q_J ((l7.take ((w64 ((l7.length:Int)-1)).toNat)),(w64 ((l7.length:Int)-1)).toNat,v14.2.2,v14.2.1) ⟨(WQ rfl (show(w64 ((l7.length:Int)-1)).toNat<=l7.length by have:=(zP g13);omega)),hm⟩)
  ·refine q_ex 0 ?_;obtain rfl:=oi hm;exact L1_mk (x10,x9) (by kernel_rfl) (by kernel_rfl)
theorem qJX (a1:Pattern) (a2:List qD) (a3:Int) (a4:Int) (a5:Pattern) (a6:Int) (ri:RI 67) (r:Nat×Int×Int) (hm:BO a1 a2 a3 a4 a5 a6=some r):CtX Tryz.prog globs 144 8 8 [.one (.yl (rc f41 506 ri) ri.b [3,5,6,7] [.bptr 1 0 0,.bptr 2 0 0,.bptr 4 0 0,.bptr 5 0 0]),.one (.bptr 6 0 0),.one (.bptr 7 0 0)] [(0,lq (rc f41 506 ri) ri.b),(1,bx 58 (zL a1)),(2,bx 110 [.fn 42 [.bptr 3 0 0]]),(3,bx 37 [tl qM du a2]),(4,bx 31 [ci a3]),(5,bx 3 [ci a4]),(6,bx 58 (zL a5)),(7,bx 3 [ci a6])] (SE a1 a2 a3 a4 a5 a6 ri r) (HH a1 a2 a3 a4 a5 a6 ri r):=by
 unfold BO at hm;refine q_E f144 73 λE=>?_;refine s_vn [qd 3 (drw 8 0 (rf zO [(qV.mk a5.Frame 1)])) (litP zO du 5 (λ_=>rfl) ([(qV.mk a5.Frame 1)]:List qV) 1 rfl)] 8 ⟨[(0,vc (.yl (rc f41 506 ri) ri.b [3,5,6,7] [.bptr 1 0 0,.bptr 2 0 0,.bptr 4 0 0,.bptr 5 0 0])),(1,vp 6 0),(2,vp 7 0),(4,vo 8 0 5 1)],[(0,lq (rc f41 506 ri) ri.b),(1,bx 58 (zL a1)),(2,bx 110 [.fn 42 [.bptr 3 0 0]]),(3,bx 37 [tl qM du a2]),(4,bx 31 [ci a3]),(5,bx 3 [ci a4]),(6,bx 58 (zL a5)),(7,bx 3 [ci a6]),(8,ro 0 154 5 1 (rf zO [(qV.mk a5.Frame 1)]))]⟩ (s_va 9 [(5,vi 0)] ?_);obtain⟨u32,h31,hm⟩:=qC hm
 refine zY (nd f144 28) 0 (by kernel_rfl) FUEL (λo=>qAc ri a1 a2 a5 a6 o.1 o.2) (λv st=>RetQ Tryz.prog f144 (SE a1 a2 a3 a4 a5 a6 ri v) (HH a1 a2 a3 a4 a5 a6 ri v) .ret st) u32 (q_hl (GT ri a1 a2 a5 a6 ([(qV.mk a5.Frame 1)]:List qV) 1 0 a3 a4) (qHm E ri a1 a2 a3 a4 a5 a6 FUEL ([(qV.mk a5.Frame 1)]:List qV) 1 0 a3 a4 u32 rfl h31)) ?_ ?_
 ·rintro v33 rfl st hr;obtain rfl:=oi hm;exact hr
 ·rintro o30 rfl;replace hm:_=some r:=hm;obtain rfl:=oi hm;exact q_rm
def qGa (a1:Pattern) (a2:Int) (a3:List qD) (r:Int):V:=vi r
def qGK (a1:Pattern) (a2:Int) (a3:List qD) (r:Int):List (Nat×(Nat×O)):=[(0,bx 37 [tl qM du a3])]
def qK9 (a1:Pattern) (a2:Int) (a3:List qD) (x8:Bool):St:=
 ⟨[(1,vi a2),(3,vp 1 0),(5,vp 2 0),(6,vp 3 0),(21,vb x8)],[(0,bx 37 [tl qM du a3]),(1,bx 58 (zL a1)),(2,bx 110 [.fn 42 [.bptr 0 0 0]]),(3,bx 31 [ci 0])]⟩
theorem qOn (a1:Pattern) (a2:Int) (a3:List qD) (r:Int) (hm:IN a1 a2 a3=some r):CtX Tryz.prog globs 41 1 1 [.agg (zL a1),.one (ci a2),.one (.fn 42 [.bptr 0 0 0])] [(0,bx 37 [tl qM du a3])] (qGa a1 a2 a3 r) (qGK a1 a2 a3 r):=by
 unfold IN at hm;refine q_E f41 67 λE=>?_;refine s_vn [] 1 ⟨[(1,vi a2),(3,vp 1 0),(5,vp 2 0),(6,vp 3 0)],[(0,bx 37 [tl qM du a3]),(1,bx 58 (zL a1)),(2,bx 110 [.fn 42 [.bptr 0 0 0]]),(3,bx 31 [ci 0])]⟩ (q_sq ?_);obtain⟨v4,h5,hm⟩:=qC hm;refine s_vv [qc 2 [13] 4 (HO a1.Frame v4 h5)] 4 [] [(15,vb (!v4))] (q_cq hm (λhm=>?_) (λhm=>?_))
 ·refine s_vu [] 4 [1,3,5,15] [] [1,2,3] [(3,bx 31 [ci 19])] ?_;obtain rfl:=oi hm;exact q_rt q_rm
 ·refine q_sk (q_sq ?_);refine q_jn (qK9 a1 a2 a3) (λp=>BF a1 a2 a3 p=some r) ?_ ?_
  ·rintro x8 hm;refine q_cq hm (λhm=>?_) (λhm=>?_)
   ·refine s_vu [] 4 [1,3,5,21] [] [1,2,3] [(3,bx 31 [ci 9])] ?_;obtain rfl:=oi hm;exact q_rt q_rm
   ·refine q_sk (q_sq ?_);refine s_vv [] 4 [21] [(25,vb (decide ((a1.Nodes.length:Int)>127)))] (q_cq hm (λhm=>?_) (λhm=>?_))
    ·refine s_vu [] 4 [1,3,5,25] [] [1,2,3] [(3,bx 31 [ci 4])] ?_;obtain rfl:=oi hm;exact q_rt q_rm
    ·refine q_sk (s_vu [] 4 [25] [(7,vp 4 0)] [] [(4,bx 3 [ci 0])] ?_);refine q_sq ?_;obtain⟨v11,h12,hm⟩:=qC hm;refine s_vu [qc 2 [26,27] 5 (qLV a1 a2 v11 h12)] 5 [1] [(28,vc (.fn 144 [.bptr 5 0 0,.bptr 6 0 0]))] [] [(5,bx 58 (zL v11.1)),(6,bx 3 [ci v11.2])] (q_bk 0 ?_);obtain⟨v13,h14,hm⟩:=qC hm;refine q_rf (.tmp 28) [3,5,6,7] 7 [(7,0),(1,0),(2,0),(0,0),(3,0),(4,0),(5,0),(6,0)] [0,0,0,0,0,0,0,0] 0 8 [.ret] v13.1 0 ⟨[(3,vp 1 0),(6,vp 3 0),(7,vp 4 0)],[(0,bx 37 [tl qM du a3]),(1,bx 58 (zL a1)),(3,bx 31 [ci v13.2.1]),(4,bx 3 [ci v13.2.2])]⟩ (λri=>qJX a1 a3 0 0 v11.1 v11.2 ri v13 h14) ?_
     rcases bif_c hm with⟨b15,hm⟩|⟨b15,hm⟩
     ·refine JQ_n b15 (q_sq ?_);refine s_vu [] 8 [3,7] [(66,vb (decide (v13.2.2<(a1.Nodes.length:Int))))] [1,4] [] (q_cq hm (λhm=>?_) (λhm=>?_))
      ·refine s_vu [] 8 [66] [] [3] [(3,bx 31 [ci 4])] ?_;obtain rfl:=oi hm;exact q_rt q_rm
      ·refine q_sk (s_vu [] 8 [66] [] [3] [(3,bx 31 [ci 0])] ?_);obtain rfl:=oi hm;exact q_rt q_rm
     ·rcases bif_c hm with⟨b16,hm⟩|⟨b16,hm⟩
      ·refine JQ_j 0 .ret b16 (by kernel_rfl) ?_;obtain rfl:=oi hm;exact q_rt q_rm
      ·cases hm
  ·rcases bif_c hm with⟨b7,hm⟩|⟨b7,hm⟩
   ·exact q_vv [qf 2 b7] 4 [15] [(21,vb true)] (q_J (true) hm)
   ·exact q_vv [qf 2 b7] 4 [15] [(21,vb (decide (a2>20)))] (q_J (decide (a2>20)) hm)
def qQl (r:Int):V:=vi r
def qQJ (r:Int):List (Nat×(Nat×O)):=[]
theorem NF (a1:Pattern) (a2:List qD) (a3:Int) (r:Int) (hm:QW a1 a2 a3=some r):CtX Tryz.prog globs 21 0 0 [.agg (zL a1),.one (tl qM du a2),.one (ci a3)] [] (qQl r) (qQJ r):=by
 unfold QW at hm;refine q_E f21 11 λE=>?_;refine s_vn [] 0 ⟨[(2,vi a3),(3,vp 0 0),(4,vp 1 0)],[(0,bx 58 (zL a1)),(1,bx 37 [tl qM du a2])]⟩ ?_;obtain⟨v4,h5,hm⟩:=qC hm;refine s_vn [qd 3 (dex (cen [(1,0)] [0] 1 1 (qGa a1 a3 a2 v4) (qGK a1 a3 a2 v4) [7,8,9] [1])) (wO (K:=(kx E 11 0)) ⟨[(7,va (zL a1)),(8,vi a3),(9,vc (.fn 42 [.bptr 1 0 0]))],[(1,bx 37 [tl qM du a2])]⟩ (opAt (rg f21 6) 3) [(1,0)] [0] 1 o0 rfl (qOn a1 a3 a2 v4 h5) (.inl rfl) (by kernel_rfl))] 2 ⟨[(6,vi v4)],[]⟩ ?_;obtain rfl:=oi hm;exact q_rt q_rm
def qVu (r:Bool):V:=vb r
def qVj (r:Bool):List (Nat×(Nat×O)):=[]
def qPM (x5:Bool):St:=
 ⟨[(6,vb x5)],[]⟩
theorem wQ (a1:Int) (a2:Int) (a3:Int) (r:Bool) (hm:WT a1 a2 a3=some r):CtX Tryz.prog globs 52 0 0 [.one (ci a1),.one (ci a2),.one (ci a3)] [] (qVu r) (qVj r):=by
 unfold WT at hm;refine q_E f52 15 λE=>?_;refine s_vn [] 0 ⟨[(0,vi a1),(1,vi a2),(2,vi a3)],[]⟩ (q_jn (qPM) (λp=>qDw p=some r) ?_ ?_)
 ·rintro x5 hm;obtain rfl:=oi hm;exact q_rt q_rm
 ·rcases bif_c hm with⟨b4,hm⟩|⟨b4,hm⟩
  ·exact q_vn [qf 3 b4] 0 ⟨[(6,vb (decide (a1<=a3)))],[]⟩ (q_J (decide (a1<=a3)) hm)
  ·exact q_vn [qf 3 b4] 0 ⟨[(6,vb false)],[]⟩ (q_J (false) hm)
def qS3 (r:Int):V:=vi r
def qS2 (r:Int):List (Nat×(Nat×O)):=[]
def qN8 (x24:Bool):St:=
 ⟨[(42,vb x24)],[]⟩
def qOj (a2:Rates) (x14:Bool):St:=
 ⟨[(3,vp 1 0),(26,vb x14)],[(1,bx 41 (wI a2))]⟩
theorem qBB (a1:Saw) (a2:Rates) (r:Int) (hm:AU a1 a2=some r):CtX Tryz.prog globs 29 0 0 [.agg (yK a1),.agg (wI a2)] [] (qS3 r) (qS2 r):=by
 unfold AU at hm;refine q_E f29 43 λE=>?_;refine s_vn [] 0 ⟨[(2,vp 0 0),(3,vp 1 0)],[(0,bx 39 (yK a1)),(1,bx 41 (wI a2))]⟩ (q_sq ?_);refine q_jn (qOj a2) (λp=>PV a2 p=some r) ?_ ?_
 ·rintro x14 hm;refine q_cq hm (λhm=>?_) (λhm=>?_)
  ·refine s_vn [] 2 ⟨[(4,vi 9)],[]⟩ ?_;obtain rfl:=oi hm;exact q_rt q_rm
  ·refine q_sk (q_sq ?_);refine q_jn (qN8) (λp=>GF p=some r) ?_ ?_
   ·rintro x24 hm;refine q_cq hm (λhm=>?_) (λhm=>?_)
    ·refine s_vn [] 2 ⟨[(4,vi 9)],[]⟩ ?_;obtain rfl:=oi hm;exact q_rt q_rm
    ·refine q_sk (s_vn [] 2 ⟨[(4,vi 0)],[]⟩ ?_);obtain rfl:=oi hm;exact q_rt q_rm
   ·obtain⟨v16,h17,hm⟩:=qC hm;rcases bif_c hm with⟨b18,hm⟩|⟨b18,hm⟩
    ·exact q_vn [qk 2 [28] 2 ⟨[(28,vi a2.Chip)],[]⟩ (wQ a2.Chip 0 1000 v16 h17),qf 4 b18] 2 ⟨[(42,vb true)],[]⟩ (q_J (true) hm)
    ·obtain⟨v19,h20,hm⟩:=qC hm;rcases bif_c hm with⟨b21,hm⟩|⟨b21,hm⟩
     ·exact q_vn [qk 2 [28] 2 ⟨[(28,vi a2.Chip)],[]⟩ (wQ a2.Chip 0 1000 v16 h17),qf 4 b18,qk 7 [31,33] 2 ⟨[(31,vb false),(33,vi a2.Dust)],[]⟩ (wQ a2.Dust 0 1000 v19 h20),qf 10 b21] 2 ⟨[(42,vb true)],[]⟩ (q_J (true) hm)
     ·obtain⟨v22,h23,hm⟩:=qC hm;exact q_vn [qk 2 [28] 2 ⟨[(28,vi a2.Chip)],[]⟩ (wQ a2.Chip 0 1000 v16 h17),qf 4 b18,qk 7 [31,33] 2 ⟨[(31,vb false),(33,vi a2.Dust)],[]⟩ (wQ a2.Dust 0 1000 v19 h20),qf 10 b21,qk 13 [37,39] 2 ⟨[(37,vb false),(39,vi a2.Fine)],[]⟩ (wQ a2.Fine 0 1000000 v22 h23)] 2 ⟨[(42,vb (!v22))],[]⟩ (q_J (!v22) hm)
 ·obtain⟨v3,h4,hm⟩:=qC hm;rcases bif_c hm with⟨b5,hm⟩|⟨b5,hm⟩
  ·exact q_vu [qk 2 [6] 2 ⟨[(6,vi a1.Kerf)],[]⟩ (wQ a1.Kerf 0 20 v3 h4),qf 4 b5] 2 [2] [(26,vb true)] [0] [] (q_J (true) hm)
  ·obtain⟨v6,h7,hm⟩:=qC hm;rcases bif_c hm with⟨b8,hm⟩|⟨b8,hm⟩
   ·exact q_vu [qk 2 [6] 2 ⟨[(6,vi a1.Kerf)],[]⟩ (wQ a1.Kerf 0 20 v3 h4),qf 4 b5,qk 7 [9,11] 2 ⟨[(9,vb false),(11,vi a1.Trim)],[]⟩ (wQ a1.Trim 0 20 v6 h7),qf 10 b8] 2 [2] [(26,vb true)] [0] [] (q_J (true) hm)
   ·obtain⟨v9,h10,hm⟩:=qC hm;rcases bif_c hm with⟨b11,hm⟩|⟨b11,hm⟩
    ·exact q_vu [qk 2 [6] 2 ⟨[(6,vi a1.Kerf)],[]⟩ (wQ a1.Kerf 0 20 v3 h4),qf 4 b5,qk 7 [9,11] 2 ⟨[(9,vb false),(11,vi a1.Trim)],[]⟩ (wQ a1.Trim 0 20 v6 h7),qf 10 b8,qk 13 [15,17] 2 ⟨[(15,vb false),(17,vi a1.Pitch)],[]⟩ (wQ a1.Pitch 1 2000 v9 h10),qf 16 b11] 2 [2] [(26,vb true)] [0] [] (q_J (true) hm)
    ·obtain⟨v12,h13,hm⟩:=qC hm;exact q_vu [qk 2 [6] 2 ⟨[(6,vi a1.Kerf)],[]⟩ (wQ a1.Kerf 0 20 v3 h4),qf 4 b5,qk 7 [9,11] 2 ⟨[(9,vb false),(11,vi a1.Trim)],[]⟩ (wQ a1.Trim 0 20 v6 h7),qf 10 b8,qk 13 [15,17] 2 ⟨[(15,vb false),(17,vi a1.Pitch)],[]⟩ (wQ a1.Pitch 1 2000 v9 h10),qf 16 b11,qk 19 [21,23] 2 ⟨[(21,vb false),(23,vi a1.Step)],[]⟩ (wQ a1.Step 1 20000 v12 h13)] 2 [2] [(26,vb (!v12))] [0] [] (q_J (!v12) hm)
def qFL (r:List qP):V:=vo 0 0 3 r.length
def qFM (r:List qP):List (Nat×(Nat×O)):=[(0,ro 0 95 3 r.length (rf qX r))]
theorem MX (a1:List qP) (r:List qP) (hm:QD a1=some r):CtX Tryz.prog globs 78 0 0 [.one (tl qX du a1)] [] (qFL r) (qFM r):=by
 unfold QD at hm;obtain⟨g1,hm⟩:=qJ hm;obtain rfl:=kE hm;refine qBM (fn:=f78) (c:=nd f78 1) (nt:=8) (by kernel_rfl) (by kernel_rfl) (by kernel_rfl) (by kernel_rfl) λE=>?_;refine R_sq f78 2 3 (by kernel_rfl) (R_rn f78 2 0 [] [] 0 ⟨[(0,vc (tl qX du a1))],[]⟩ o0 (by kernel_rfl) (by kernel_rfl) ?_);refine R_sq f78 6 7 (by kernel_rfl) (R_sq f78 12 13 (by kernel_rfl) ?_);refine qO2 f78 12 1 1 ⟨[(0,vc (tl qX du a1)),(3,vc (tl qX du a1))],[]⟩ 69 69 95 4 (.tmp 3) a1.length (rf qX a1) (by kernel_rfl) (by kernel_rfl) (by kernel_rfl) (λb hb=>?_)
 refine R_cn f78 (.tmp 4) 26 27 (by kernel_rfl) b (by kernel_rfl) (λb6=>?_) (λb6=>?_)
 ·obtain rfl:a1=[]:=ui (hb b6);refine R_sq f78 52 53 (by kernel_rfl) (R_rn f78 52 2 [] [.own 2 0 95 3 (rf qX [])] 0 ⟨[(2,vo 0 0 3 0)],[(0,ro 0 95 3 0 (rf qX []))]⟩ o0 (by kernel_rfl) (by kernel_rfl) ?_);exact qAW (by kernel_rfl) (HR (by kernel_rfl) (by kernel_rfl))
 ·refine qHO (by kernel_rfl) (R_sq f78 14 15 (by kernel_rfl) ?_);refine R_rn f78 14 3 [(0,drw 0 0 (rf qX [])),(2,drw 0 1 (rf qX ([]++a1)))] [.len 0 a1.length] 0 ⟨[(2,vo 0 1 3 a1.length)],[(0,ro 1 95 3 a1.length (rf qX ([]++a1)))]⟩ (o1 (And.intro (And.intro (litP qX du 3 (λ_=>rfl) ([]:List qP) 0 rfl) (apP qX du ([]:List qP) a1 0 a1.length 3 24 True trivial rfl rfl (λ_=>rfl) (by have:=wB g1;rw[kB];exact this))) (And.intro (And.intro (kB a1.length) (kB a1.length)) (kB a1.length)))) (by kernel_rfl) (by kernel_rfl) (qAW (by kernel_rfl) ?_);exact HR (by kernel_rfl) (by kernel_rfl)
def qTY (r:Ring):V:=va [ci r.Z,.own 0 0 3 r.Read.length]
def qVg (r:Ring):List (Nat×(Nat×O)):=[(0,ro 0 95 3 r.Read.length (rf qX r.Read))]
theorem qJK (a1:Ring) (r:Ring) (hm:EE a1=some r):CtX Tryz.prog globs 79 0 0 [.agg (zC a1)] [] (qTY r) (qVg r):=by
 unfold EE at hm;refine q_E f79 9 λE=>?_;refine s_vn [] 0 ⟨[(1,vp 0 0),(2,vp 1 0)],[(0,bx 71 (zC a1)),(1,bx 71 [ci 0,.emp])]⟩ ?_;obtain⟨v2,h3,hm⟩:=qC hm;refine s_du [qc 4 [6] 2 (MX a1.Read v2 h3)] [0,1,0,4,12,31,63] 2 [1] [] [0,1] [(1,bx 71 [ci a1.Z,.own 2 0 3 v2.length]),(2,ro 0 95 3 v2.length (rf qX v2))] ?_;obtain rfl:=oi hm;exact q_sw 2 0 (q_rt q_rm)
def qSU (r:Bool):V:=vb r
def qTz (r:Bool):List (Nat×(Nat×O)):=[]
def qNF (x3:Bool):St:=
 ⟨[(2,vb x3)],[]⟩
theorem qBK (a1:Int) (r:Bool) (hm:FQ a1=some r):CtX Tryz.prog globs 141 0 0 [.one (ci a1)] [] (qSU r) (qTz r):=by
 unfold FQ at hm;refine q_E f141 9 λE=>?_;refine s_vn [] 0 ⟨[(0,vi a1)],[]⟩ (q_jn (qNF) (λp=>EB p=some r) ?_ ?_)
 ·rintro x3 hm;obtain rfl:=oi hm;exact q_rt q_rm
 ·rcases bif_c hm with⟨b2,hm⟩|⟨b2,hm⟩
  ·exact q_vn [qf 2 b2] 0 ⟨[(2,vb (decide (a1<=600)))],[]⟩ (q_J (decide (a1<=600)) hm)
  ·exact q_vn [qf 2 b2] 0 ⟨[(2,vb false)],[]⟩ (q_J (false) hm)
def qFu (r:Int):V:=vi r
def qFm (r:Int):List (Nat×(Nat×O)):=[]
def qQY (a1:Ring) (x7:Int) (x19:Bool):St:=
 ⟨[(22,vc (tl qX du a1.Read)),(23,vi (a1.Read.length:Int)),(24,vi x7),(52,vb x19)],[]⟩
def qP4 (a1:Ring) (x7:Int) (x16:Bool):St:=
 ⟨[(4,vp 1 0),(22,vc (tl qX du a1.Read)),(23,vi (a1.Read.length:Int)),(24,vi x7),(43,vb x16)],[(1,bx 95 (qX (a1.Read.getD x7.toNat du)))]⟩
def qAd (a1:Ring) (x7:Int):St:=
 ⟨[(22,vc (tl qX du a1.Read)),(23,vi (a1.Read.length:Int)),(24,vi x7)],[]⟩
def qGm :St:=
 ⟨[],[]⟩
def qQo (a1:Ring) (x5:Bool):St:=
 ⟨[(1,vp 0 0),(20,vb x5)],[(0,bx 71 (zC a1))]⟩
theorem qOs (E:Env 0) (a1:Ring):∀(n:Nat) (x7:Int) (res:Int⊕Unit),QV a1 n x7=some res->HL (kx E 54 0) (nd f75 500) (wY 0 (λo=>qGm) (λv st=>RetQ Tryz.prog f75 (qFu v) (qFm v) .ret st) res) n (qAd a1 x7):=by
 intro n
 induction n with
 |zero=>
  intro x7 res hm;cases hm
 |succ n ih=>
  intro x7 res hm;refine qU (s_va 1 [(25,vb (decide (x7<(a1.Read.length:Int))))] ?_);refine q_sq (q_cq hm (λhm=>?_) (λhm=>?_))
  ·refine q_sk (q_sq ?_);refine q_bk 1 ?_;obtain⟨g9,hm⟩:=qJ hm;refine s_vu [qi 0 g9] 1 [25] [(4,vp 1 0)] [] [(1,bx 95 (qX (a1.Read.getD x7.toNat du)))] (q_sq ?_);refine q_jn (qP4 a1 x7) (λp=>FI a1 x7 (QV a1 n) p=some res) ?_ ?_
   ·rintro x16 hm;refine q_cq hm (λhm=>?_) (λhm=>?_)
    ·refine s_vn [] 2 ⟨[(2,vi 9)],[]⟩ ?_;obtain rfl:=oi hm;refine q_rt (zQ 9 ?_);exact q_rm
    ·refine q_sk (q_jn (qQY a1 x7) (λp=>IU x7 (QV a1 n) p=some res) ?_ ?_)
     ·rintro x19 hm;refine q_cq hm (λhm=>?_) (λhm=>?_)
      ·refine s_vn [] 2 ⟨[(2,vi 19)],[]⟩ ?_;obtain rfl:=oi hm;refine q_rt (zQ 19 ?_);exact q_rm
      ·refine q_sk (q_vv [] 2 [24,52] [(24,vi (w64 (x7+1)))] ?_);exact q_hl (qAd a1 (w64 (x7+1))) (ih (w64 (x7+1)) _ hm)
     ·rcases bif_c hm with⟨b18,hm⟩|⟨b18,hm⟩
      ·exact q_vu [qf 3 b18] 2 [4,43] [(52,vb (!(((((a1.Read.getD x7.toNat du).P).X)==0)&&(((((a1.Read.getD x7.toNat du).P).Y)==0)&&true))))] [1] [] (q_J (!(((((a1.Read.getD x7.toNat du).P).X)==0)&&(((((a1.Read.getD x7.toNat du).P).Y)==0)&&true))) hm)
      ·exact q_vu [qf 3 b18] 2 [4,43] [(52,vb false)] [1] [] (q_J (false) hm)
   ·rcases bif_c hm with⟨b10,hm⟩|⟨b10,hm⟩
    ·obtain⟨v11,h12,hm⟩:=qC hm;rcases bif_c hm with⟨b13,hm⟩|⟨b13,hm⟩
     ·exact q_vv [qf 2 b10,qk 6 [30,33] 2 ⟨[(30,vb true),(33,vi (((a1.Read.getD x7.toNat du).P).X))],[]⟩ (qBK (((a1.Read.getD x7.toNat du).P).X) v11 h12),qf 8 b13] 2 [] [(43,vb true)] (q_J (true) hm)
     ·obtain⟨v14,h15,hm⟩:=qC hm;exact q_vv [qf 2 b10,qk 6 [30,33] 2 ⟨[(30,vb true),(33,vi (((a1.Read.getD x7.toNat du).P).X))],[]⟩ (qBK (((a1.Read.getD x7.toNat du).P).X) v11 h12),qf 8 b13,qk 12 [36,39] 2 ⟨[(36,vb false),(39,vi (((a1.Read.getD x7.toNat du).P).Y))],[]⟩ (qBK (((a1.Read.getD x7.toNat du).P).Y) v14 h15)] 2 [] [(43,vb (!v14))] (q_J (!v14) hm)
    ·exact q_vv [qf 2 b10] 2 [] [(43,vb false)] (q_J (false) hm)
  ·refine q_ex 0 ?_;obtain rfl:=oi hm;exact q_l1 ()
theorem OB (a1:Ring) (r:Int) (hm:US a1=some r):CtX Tryz.prog globs 75 0 0 [.agg (zC a1)] [] (qFu r) (qFm r):=by
 unfold US at hm;refine q_E f75 54 λE=>?_;refine s_vn [] 0 ⟨[(1,vp 0 0)],[(0,bx 71 (zC a1))]⟩ (q_sq ?_);refine s_va 1 [(8,vb (decide ((a1.Read.length:Int)<8)))] (q_cq hm (λhm=>?_) (λhm=>?_))
 ·refine s_vn [] 1 ⟨[(2,vi 3)],[]⟩ ?_;obtain rfl:=oi hm;exact q_rt q_rm
 ·refine q_sk (q_sq ?_);refine s_vv [] 1 [8] [(12,vb (decide ((a1.Read.length:Int)>32)))] (q_cq hm (λhm=>?_) (λhm=>?_))
  ·refine s_vn [] 1 ⟨[(2,vi 4)],[]⟩ ?_;obtain rfl:=oi hm;exact q_rt q_rm
  ·refine q_sk (q_sq ?_);refine q_jn (qQo a1) (λp=>IP a1 p=some r) ?_ ?_
   ·rintro x5 hm;refine q_cq hm (λhm=>?_) (λhm=>?_)
    ·refine s_vn [] 1 ⟨[(2,vi 9)],[]⟩ ?_;obtain rfl:=oi hm;exact q_rt q_rm
    ·refine q_sk (q_sq ?_);refine s_vn [] 1 ⟨[(22,vc (tl qX du a1.Read)),(23,vi (a1.Read.length:Int)),(24,vi 0)],[]⟩ ?_;obtain⟨u23,h22,hm⟩:=qC hm;refine zY (nd f75 500) 0 (by kernel_rfl) FUEL (λo=>qGm) (λv st=>RetQ Tryz.prog f75 (qFu v) (qFm v) .ret st) u23 (q_hl (qAd a1 0) (qOs E a1 FUEL 0 u23 h22)) ?_ ?_
     ·rintro v24 rfl st hr;obtain rfl:=oi hm;exact hr
     ·rintro o21 rfl;replace hm:_=some r:=hm;refine s_vn [] 1 ⟨[(2,vi 0)],[]⟩ ?_;obtain rfl:=oi hm;exact q_rt q_rm
   ·rcases bif_c hm with⟨b4,hm⟩|⟨b4,hm⟩
    ·exact q_vv [qf 3 b4] 1 [12] [(20,vb true)] (q_J (true) hm)
    ·exact q_vv [qf 3 b4] 1 [12] [(20,vb (decide (a1.Z>20000)))] (q_J (decide (a1.Z>20000)) hm)
def qBy (r:Bool):V:=vb r
def qCi (r:Bool):List (Nat×(Nat×O)):=[]
def qMk (a1:List qA) (x2:Int) (x6:Bool):St:=
 ⟨[(5,vc (tl qF du a1)),(6,vi (a1.length:Int)),(7,vi x2),(18,vb x6)],[]⟩
def EW (a1:List qA) (x2:Int):St:=
 ⟨[(5,vc (tl qF du a1)),(6,vi (a1.length:Int)),(7,vi x2)],[]⟩
def qDZ :St:=
 ⟨[],[]⟩
theorem qK3 (E:Env 0) (a1:List qA):∀(n:Nat) (x2:Int) (res:Bool⊕Unit),ZO a1 n x2=some res->HL (kx E 20 0) (nd f143 52) (wY 0 (λo=>qDZ) (λv st=>RetQ Tryz.prog f143 (qBy v) (qCi v) .ret st) res) n (EW a1 x2):=by
 intro n
 induction n with
 |zero=>
  intro x2 res hm;cases hm
 |succ n ih=>
  intro x2 res hm;refine qU (s_va 0 [(8,vb (decide (x2<(a1.length:Int))))] ?_);refine q_sq (q_cq hm (λhm=>?_) (λhm=>?_))
  ·refine q_sk (q_sq ?_);refine q_bk 1 ?_;obtain⟨g4,hm⟩:=qJ hm;refine s_vu [qi 0 g4] 0 [8] [(4,vp 0 0)] [] [(0,bx 93 (qF (a1.getD x2.toNat du)))] (q_jn (qMk a1 x2) (λp=>LO x2 (ZO a1 n) p=some res) ?_ ?_)
   ·rintro x6 hm;refine q_cq hm (λhm=>?_) (λhm=>?_)
    ·refine s_vn [] 1 ⟨[(2,vb false)],[]⟩ ?_;obtain rfl:=oi hm;refine q_rt (zQ false ?_);exact q_rm
    ·refine q_sk (q_vv [] 1 [7,18] [(7,vi (w64 (x2+1)))] ?_);exact q_hl (EW a1 (w64 (x2+1))) (ih (w64 (x2+1)) _ hm)
   ·rcases bif_c hm with⟨b5,hm⟩|⟨b5,hm⟩
    ·exact q_vu [qf 3 b5] 1 [4] [(18,vb true)] [0] [] (q_J (true) hm)
    ·exact q_vu [qf 3 b5] 1 [4] [(18,vb (((a1.getD x2.toNat du).Y)==(-9223372036854775808)))] [0] [] (q_J (((a1.getD x2.toNat du).Y)==(-9223372036854775808)) hm)
  ·refine q_ex 0 ?_;obtain rfl:=oi hm;exact q_l1 ()
theorem qQD (a1:List qA) (r:Bool) (hm:MU a1=some r):CtX Tryz.prog globs 143 0 0 [.one (tl qF du a1)] [] (qBy r) (qCi r):=by
 unfold MU at hm;refine q_E f143 20 λE=>?_;refine s_vn [] 0 ⟨[(0,vc (tl qF du a1))],[]⟩ (q_sq ?_);refine s_vn [] 0 ⟨[(5,vc (tl qF du a1)),(6,vi (a1.length:Int)),(7,vi 0)],[]⟩ ?_;obtain⟨u10,h9,hm⟩:=qC hm;refine zY (nd f143 52) 0 (by kernel_rfl) FUEL (λo=>qDZ) (λv st=>RetQ Tryz.prog f143 (qBy v) (qCi v) .ret st) u10 (q_hl (EW a1 0) (qK3 E a1 FUEL 0 u10 h9)) ?_ ?_
 ·rintro v11 rfl st hr;obtain rfl:=oi hm;exact hr
 ·rintro o8 rfl;replace hm:_=some r:=hm;refine s_vn [] 0 ⟨[(2,vb true)],[]⟩ ?_;obtain rfl:=oi hm;exact q_rt q_rm
def qMS (r:(List qA)):V:=vo 0 0 2 r.length
def qCI (r:(List qA)):List (Nat×(Nat×O)):=[(0,ro 0 93 2 r.length (rf qF r))]
theorem qWP (r:(List qA)):QQ (qCI r):=by
 intro i k o h;unfold qCI at h;rw[look_cons] at h;split at h
 ·cases h;exact λ_ _=>rfl
 ·cases h
def qB3 (a1:List qA) (a2:Int) (l8:List qA) (l8n:Nat) (x9:Int):St:=
 ⟨[(5,vp 0 0),(6,vo 1 0 2 l8n),(21,vc (tl qF du a1)),(22,vi (a1.length:Int)),(23,vi x9)],[(0,bx 93 (qF (zM.getD (Int.tmod (w64 ((Int.tmod a2 4)+4)) 4).toNat du))),(1,ro 0 93 2 l8n (rf qF l8))]⟩
def qHS (l13:List qA):St:=
 ⟨[(6,vo 1 0 2 l13.length)],[(1,ro 0 93 2 l13.length (rf qF l13))]⟩
theorem qPG (E:Env 0) (a1:List qA) (a2:Int):∀(n:Nat) (l8:List qA) (l8n:Nat) (x9:Int) (res:(List qA)),l8.length=l8n->DO a1 a2 n l8 x9=some res->HL (kx E 56 0) (nd f80 500) (zN 0 qHS res) n (qB3 a1 a2 l8 l8n x9):=by
 intro n
 induction n with
 |zero=>
  intro l8 l8n x9 res hl0 hm;cases hm
 |succ n ih=>
  intro l8 l8n x9 res hl0 hm;subst hl0;refine qU (s_va 2 [(24,vb (decide (x9<(a1.length:Int))))] ?_);refine q_sq (q_cq hm (λhm=>?_) (λhm=>?_))
  ·refine q_sk (q_sq ?_);refine q_bk 1 ?_;obtain⟨g11,hm⟩:=qJ hm;refine s_vu [qi 1 g11] 2 [24] [(7,vi x9),(8,vp 2 0)] [] [(2,bx 93 (qF (a1.getD x9.toNat du)))] ?_;obtain⟨g12,hm⟩:=qJ hm
   refine q_vu [qi 25 g12,qd 26 (drw 0 0 (rf qF (l8.set x9.toNat (qA.mk (w64 ((w64 (((zM.getD (Int.tmod (w64 ((Int.tmod a2 4)+4)) 4).toNat du).X)*((a1.getD x9.toNat du).X)))-(w64 (((zM.getD (Int.tmod (w64 ((Int.tmod a2 4)+4)) 4).toNat du).Y)*((a1.getD x9.toNat du).Y))))) (w64 ((w64 (((zM.getD (Int.tmod (w64 ((Int.tmod a2 4)+4)) 4).toNat du).Y)*((a1.getD x9.toNat du).X)))+(w64 (((zM.getD (Int.tmod (w64 ((Int.tmod a2 4)+4)) 4).toNat du).X)*((a1.getD x9.toNat du).Y))))))))) (stP qF du (qA.mk (w64 ((w64 (((zM.getD (Int.tmod (w64 ((Int.tmod a2 4)+4)) 4).toNat du).X)*((a1.getD x9.toNat du).X)))-(w64 (((zM.getD (Int.tmod (w64 ((Int.tmod a2 4)+4)) 4).toNat du).Y)*((a1.getD x9.toNat du).Y))))) (w64 ((w64 (((zM.getD (Int.tmod (w64 ((Int.tmod a2 4)+4)) 4).toNat du).Y)*((a1.getD x9.toNat du).X)))+(w64 (((zM.getD (Int.tmod (w64 ((Int.tmod a2 4)+4)) 4).toNat du).X)*((a1.getD x9.toNat du).Y)))))) l8 l8.length x9.toNat 0 [ci (w64 ((w64 (((zM.getD (Int.tmod (w64 ((Int.tmod a2 4)+4)) 4).toNat du).X)*((a1.getD x9.toNat du).X)))-(w64 (((zM.getD (Int.tmod (w64 ((Int.tmod a2 4)+4)) 4).toNat du).Y)*((a1.getD x9.toNat du).Y))))),ci (w64 ((w64 (((zM.getD (Int.tmod (w64 ((Int.tmod a2 4)+4)) 4).toNat du).Y)*((a1.getD x9.toNat du).X)))+(w64 (((zM.getD (Int.tmod (w64 ((Int.tmod a2 4)+4)) 4).toNat du).X)*((a1.getD x9.toNat du).Y)))))] rfl (qT (zB g12)) rfl)] 3 [7,8] [] [1,2] [(1,ro 0 93 2 l8.length (rf qF (l8.set x9.toNat (qA.mk (w64 ((w64 (((zM.getD (Int.tmod (w64 ((Int.tmod a2 4)+4)) 4).toNat du).X)*((a1.getD x9.toNat du).X)))-(w64 (((zM.getD (Int.tmod (w64 ((Int.tmod a2 4)+4)) 4).toNat du).Y)*((a1.getD x9.toNat du).Y))))) (w64 ((w64 (((zM.getD (Int.tmod (w64 ((Int.tmod a2 4)+4)) 4).toNat du).Y)*((a1.getD x9.toNat du).X)))+(w64 (((zM.getD (Int.tmod (w64 ((Int.tmod a2 4)+4)) 4).toNat du).X)*((a1.getD x9.toNat du).Y)))))))))] ?_
   refine q_vv [] 3 [23] [(23,vi (w64 (x9+1)))] ?_
   exact q_hl (qB3 a1 a2 (l8.set x9.toNat (qA.mk (w64 ((w64 (((zM.getD (Int.tmod (w64 ((Int.tmod a2 4)+4)) 4).toNat du).X)*((a1.getD x9.toNat du).X)))-(w64 (((zM.getD (Int.tmod (w64 ((Int.tmod a2 4)+4)) 4).toNat du).Y)*((a1.getD x9.toNat du).Y))))) (w64 ((w64 (((zM.getD (Int.tmod (w64 ((Int.tmod a2 4)+4)) 4).toNat du).Y)*((a1.getD x9.toNat du).X)))+(w64 (((zM.getD (Int.tmod (w64 ((Int.tmod a2 4)+4)) 4).toNat du).X)*((a1.getD x9.toNat du).Y))))))) l8.length (w64 (x9+1))) (ih (l8.set x9.toNat (qA.mk (w64 ((w64 (((zM.getD (Int.tmod (w64 ((Int.tmod a2 4)+4)) 4).toNat du).X)*((a1.getD x9.toNat du).X)))-(w64 (((zM.getD (Int.tmod (w64 ((Int.tmod a2 4)+4)) 4).toNat du).Y)*((a1.getD x9.toNat du).Y))))) (w64 ((w64 (((zM.getD (Int.tmod (w64 ((Int.tmod a2 4)+4)) 4).toNat du).Y)*((a1.getD x9.toNat du).X)))+(w64 (((zM.getD (Int.tmod (w64 ((Int.tmod a2 4)+4)) 4).toNat du).X)*((a1.getD x9.toNat du).Y))))))) l8.length (w64 (x9+1)) _ (QE rfl) hm)
  ·refine q_ex 0 ?_;obtain rfl:=oi hm;exact q_l0
theorem qVI (a1:List qA) (a2:Int) (r:(List qA)) (hm:qC2 a1 a2=some r):CtX Tryz.prog globs 80 0 0 [.one (tl qF du a1),.one (ci a2)] [] (qMS r) (qCI r):=by
 unfold qC2 at hm;refine q_E f80 56 λE=>?_;refine s_vn [] 0 ⟨[(0,vc (tl qF du a1)),(1,vi a2)],[]⟩ (q_sq ?_);obtain⟨v3,h4,hm⟩:=qC hm;refine s_vv [qc 1 [9] 0 (qQD a1 v3 h4)] 0 [] [(11,vb (!v3))] (q_cq hm (λhm=>?_) (λhm=>?_))
 ·refine s_vn [] 0 ⟨[(4,vc (.emp))],[]⟩ (q_fn [.own 4 0 93 2 (rf qF [])] ⟨[(4,vo 0 0 2 0)],[(0,ro 0 93 2 0 (rf qF []))]⟩ o0 ?_);refine q_fn [.len 0 (([]:List qA).length)] ⟨[(4,vo 0 0 2 (([]:List qA).length))],[(0,ro 0 93 2 (([]:List qA).length) (rf qF []))]⟩ (o1 (And.intro (show 0=([]:List qA).length from rfl) (show 0=([]:List qA).length from rfl))) ?_;obtain rfl:=oi hm;exact q_rt q_rm
 ·refine q_sk ?_;obtain⟨g6,hm⟩:=qJ hm;refine s_vu [qd 1 dN (show(4:Int)≠0 by decide),qd 3 dN (show(4:Int)≠0 by decide),qi 4 g6] 0 [1,11] [(5,vp 0 0)] [] [(0,bx 93 (qF (zM.getD (Int.tmod (w64 ((Int.tmod a2 4)+4)) 4).toNat du)))] ?_;obtain⟨g7,hm⟩:=qJ hm;refine s_vu [qd 2 (drw 1 0 (rf qF (List.replicate ((a1.length:Int).toNat) (qA.mk 0 0)))) (mkP qF du (qA.mk 0 0) (a1.length:Int) 16 [ci 0,ci 0] (GH g7) rfl)] 1 [] [(6,vo 1 0 2 ((a1.length:Int).toNat))] [] [(1,ro 0 93 2 ((a1.length:Int).toNat) (rf qF (List.replicate ((a1.length:Int).toNat) (qA.mk 0 0))))] (q_sq ?_)
  refine s_vv [] 2 [0] [(21,vc (tl qF du a1)),(22,vi (a1.length:Int)),(23,vi 0)] ?_;obtain⟨o14,h15,hm⟩:=qC hm;refine zI (nd f80 500) 0 (by kernel_rfl) FUEL qHS o14 (q_hl (qB3 a1 a2 (List.replicate ((a1.length:Int).toNat) (qA.mk 0 0)) ((a1.length:Int).toNat) 0) (qPG E a1 a2 FUEL (List.replicate ((a1.length:Int).toNat) (qA.mk 0 0)) ((a1.length:Int).toNat) 0 o14 DS h15)) (s_vv [] 2 [6] [(4,vo 1 0 2 o14.length)] ?_);obtain rfl:=oi hm;exact q_sw 1 0 (q_rt q_rm)
def qWx (r:Ring):V:=va [ci r.Z,.own 0 0 3 r.Read.length]
def qWA (r:Ring):List (Nat×(Nat×O)):=[(0,ro 0 95 3 r.Read.length (rf qX r.Read))]
def qFg (a2:Int) (v3:Ring):St:=
 ⟨[(1,vi a2),(4,vp 1 0),(5,vp 3 0)],[(1,bx 71 [ci 0,.emp]),(2,ro 0 95 3 v3.Read.length (rf qX v3.Read)),(3,bx 71 [ci v3.Z,.own 2 0 3 v3.Read.length])]⟩
def qBC (a1:Ring) (a2:Int) (v3:Ring) (l9:List qA) (l9n:Nat) (x10:Int):St:=
 (qFg a2 v3).up [] [(6,vo 4 0 2 l9n),(22,vc (tl qX du a1.Read)),(23,vi (a1.Read.length:Int)),(24,vi x10)] [] [(4,ro 0 93 2 l9n (rf qF l9))]
def qH2 (a2:Int) (v3:Ring) (l14:List qA):St:=
 (qFg a2 v3).up [] [(6,vo 4 0 2 l14.length)] [] [(4,ro 0 93 2 l14.length (rf qF l14))]
def qCn (v3:Ring) (v17:(List qA)) (x19:Int) (l20:List qP) (l20n:Nat):St:=
 ⟨[(4,vp 1 0),(5,vp 3 0),(37,vo 5 0 2 v17.length),(38,vi (v17.length:Int)),(39,vi x19)],[(1,bx 71 [ci 0,.emp]),(2,ro 0 95 3 l20n (rf qX l20)),(3,bx 71 [ci v3.Z,.own 2 0 3 l20n]),(5,ro 0 93 2 v17.length (rf qF v17))]⟩
def qHu (v3:Ring) (l24:List qP):St:=
 ⟨[(4,vp 1 0),(5,vp 3 0)],[(1,bx 71 [ci 0,.emp]),(2,ro 0 95 3 l24.length (rf qX l24)),(3,bx 71 [ci v3.Z,.own 2 0 3 l24.length])]⟩
theorem qOQ (E:Env 0) (a1:Ring) (a2:Int) (v3:Ring):∀(n:Nat) (l9:List qA) (l9n:Nat) (x10:Int) (res:(List qA)),l9.length=l9n->DL a1 n l9 x10=some res->HL (kx E 52 0) (nd f40 500) (zN 0 (λo=>qH2 a2 v3 o) res) n (qBC a1 a2 v3 l9 l9n x10):=by
 intro n
 induction n with
 |zero=>
  intro l9 l9n x10 res hl0 hm;cases hm
 |succ n ih=>
  intro l9 l9n x10 res hl0 hm;subst hl0;refine qU (s_va 5 [(25,vb (decide (x10<(a1.Read.length:Int))))] ?_);refine q_sq (q_cq hm (λhm=>?_) (λhm=>?_))
  ·refine q_sk (q_sq ?_);refine q_bk 1 ?_;obtain⟨g12,hm⟩:=qJ hm;refine s_vu [qi 1 g12] 5 [25] [(7,vi x10),(8,vp 5 0)] [] [(5,bx 95 (qX (a1.Read.getD x10.toNat du)))] ?_;obtain⟨g13,hm⟩:=qJ hm
   refine q_vu [qi 4 g13,qd 5 (drw 0 0 (rf qF (l9.set x10.toNat ((a1.Read.getD x10.toNat du).P)))) (stP qF du ((a1.Read.getD x10.toNat du).P) l9 l9.length x10.toNat 0 [ci (((a1.Read.getD x10.toNat du).P).X),ci (((a1.Read.getD x10.toNat du).P).Y)] rfl (qT (zB g13)) rfl)] 6 [7,8] [] [4,5] [(4,ro 0 93 2 l9.length (rf qF (l9.set x10.toNat ((a1.Read.getD x10.toNat du).P))))] (q_vv [] 6 [24] [(24,vi (w64 (x10+1)))] ?_)
   exact q_hl (qBC a1 a2 v3 (l9.set x10.toNat ((a1.Read.getD x10.toNat du).P)) l9.length (w64 (x10+1))) (ih (l9.set x10.toNat ((a1.Read.getD x10.toNat du).P)) l9.length (w64 (x10+1)) _ (QE rfl) hm)
  ·refine q_ex 0 ?_;obtain rfl:=oi hm;exact q_l0
theorem qOK (E:Env 0) (v3:Ring) (v17:(List qA)):∀(n:Nat) (x19:Int) (l20:List qP) (l20n:Nat) (res:(List qP)),l20.length=l20n->GD v17 n x19 l20=some res->HL (kx E 52 0) (nd f40 1012) (zN 2 (λo=>qHu v3 o) res) n (qCn v3 v17 x19 l20 l20n):=by
 intro n
 induction n with
 |zero=>
  intro x19 l20 l20n res hl0 hm;cases hm
 |succ n ih=>
  intro x19 l20 l20n res hl0 hm;subst hl0;refine qU (s_va 6 [(40,vb (decide (x19<(v17.length:Int))))] ?_);refine q_sq (q_cq hm (λhm=>?_) (λhm=>?_))
  ·refine q_sk (q_sq ?_);refine q_bk 3 ?_;obtain⟨g22,hm⟩:=qJ hm;refine s_vu [qi 1 g22,qd 2 dN (qT (zB g22))] 6 [40] [(9,vi x19),(10,vp 6 0)] [] [(6,bx 93 (qF (v17.getD x19.toNat du)))] ?_;obtain⟨g23,hm⟩:=qJ hm
   refine q_vu [qi 4 g23,qd 6 (drw 0 0 (rf qX (l20.set x19.toNat (qP.mk (v17.getD x19.toNat du) ((l20.getD x19.toNat du).Ok))))) (stP qX du (qP.mk (v17.getD x19.toNat du) ((l20.getD x19.toNat du).Ok)) l20 l20.length x19.toNat 0 [ci ((v17.getD x19.toNat du).X),ci ((v17.getD x19.toNat du).Y)] rfl (qT (zB g23)) rfl)] 7 [9,10] [] [2,6] [(2,ro 0 95 3 l20.length (rf qX (l20.set x19.toNat (qP.mk (v17.getD x19.toNat du) ((l20.getD x19.toNat du).Ok)))))] (q_vv [] 7 [39] [(39,vi (w64 (x19+1)))] ?_)
   exact q_hl (qCn v3 v17 (w64 (x19+1)) (l20.set x19.toNat (qP.mk (v17.getD x19.toNat du) ((l20.getD x19.toNat du).Ok))) l20.length) (ih (w64 (x19+1)) (l20.set x19.toNat (qP.mk (v17.getD x19.toNat du) ((l20.getD x19.toNat du).Ok))) l20.length _ (QE rfl) hm)
  ·refine q_ex 2 ?_;obtain rfl:=oi hm;exact q_l0
theorem qVV (a1:Ring) (a2:Int) (r:Ring) (hm:yX a1 a2=some r):CtX Tryz.prog globs 40 0 0 [.agg (zC a1),.one (ci a2)] [] (qWx r) (qWA r):=by
 unfold yX at hm;refine q_E f40 52 λE=>?_;refine s_vn [] 0 ⟨[(1,vi a2),(2,vp 0 0),(4,vp 1 0)],[(0,bx 71 (zC a1)),(1,bx 71 [ci 0,.emp])]⟩ ?_;obtain⟨v3,h4,hm⟩:=qC hm;refine s_vu [qc 1 [11] 2 (qJK a1 v3 h4)] 2 [] [(5,vp 3 0)] [] [(2,ro 0 95 3 v3.Read.length (rf qX v3.Read)),(3,bx 71 [ci v3.Z,.own 2 0 3 v3.Read.length])] (q_sq ?_);obtain⟨v5,h6,hm⟩:=qC hm;refine s_vv [qc 1 [13] 4 (OB a1 v5 h6)] 4 [] [(15,vb (v5 !=0))] (q_cq hm (λhm=>?_) (λhm=>?_))
 ·refine s_vu [] 4 [1,2,5,15] [] [0,1,3] [(1,bx 71 [ci v3.Z,.own 2 0 3 v3.Read.length])] ?_;obtain rfl:=oi hm;exact q_sw 2 0 (q_rt q_rm)
 ·refine q_sk ?_;obtain⟨g8,hm⟩:=qJ hm;refine s_vu [qd 3 (drw 4 0 (rf qF (List.replicate ((a1.Read.length:Int).toNat) (qA.mk 0 0)))) (mkP qF du (qA.mk 0 0) (a1.Read.length:Int) 16 [ci 0,ci 0] (GH g8) rfl)] 4 [15] [(6,vo 4 0 2 ((a1.Read.length:Int).toNat))] [] [(4,ro 0 93 2 ((a1.Read.length:Int).toNat) (rf qF (List.replicate ((a1.Read.length:Int).toNat) (qA.mk 0 0))))] (q_sq ?_);refine s_vu [] 5 [2] [(22,vc (tl qX du a1.Read)),(23,vi (a1.Read.length:Int)),(24,vi 0)] [0] [] ?_;obtain⟨o15,h16,hm⟩:=qC hm
  refine zI (nd f40 500) 0 (by kernel_rfl) FUEL (λo=>qH2 a2 v3 o) o15 (q_hl (qBC a1 a2 v3 (List.replicate ((a1.Read.length:Int).toNat) (qA.mk 0 0)) ((a1.Read.length:Int).toNat) 0) (qOQ E a1 a2 v3 FUEL (List.replicate ((a1.Read.length:Int).toNat) (qA.mk 0 0)) ((a1.Read.length:Int).toNat) 0 o15 DS h16)) (q_sq ?_);obtain⟨v17,h18,hm⟩:=qC hm
  refine s_vu [qd 2 (dex (cen [] [] 5 0 (qMS v17) (qCI v17) [35,36] [4])) (wO (K:=(kx E 52 0)) (b:=false) ⟨[(35,vo 4 0 2 o15.length),(36,vi a2)],[(4,ro 0 93 2 o15.length (rf qF o15))]⟩ (opAt (rg f40 252) 2) [] [] 5 (o1 (ke o15.length)) rfl (qVI o15 a2 v17 h18) (.inr ⟨(by kernel_rfl),qWP v17⟩) (by kernel_rfl))] 5 [1,6] [(37,vo 5 0 2 v17.length),(38,vi (v17.length:Int)),(39,vi 0)] [4] [(5,ro 0 93 2 v17.length (rf qF v17))] ?_;obtain⟨o25,h26,hm⟩:=qC hm
  refine zI (nd f40 1012) 2 (by kernel_rfl) FUEL (λo=>qHu v3 o) o25 (q_hl (qCn v3 v17 0 v3.Read v3.Read.length) (qOK E v3 v17 FUEL 0 v3.Read v3.Read.length o25 rfl h26)) (s_vu [] 6 [5] [] [1,3] [(1,bx 71 [ci v3.Z,.own 2 0 3 o25.length])] ?_);obtain rfl:=oi hm;exact q_sw 2 0 (q_rt q_rm)
def qPE (r:Bool):V:=vb r
def qPR (r:Bool):List (Nat×(Nat×O)):=[]
def qLC (x5:Bool):St:=
 ⟨[(6,vb x5)],[]⟩
theorem YG (a1:Span) (a2:Int) (a3:Int) (r:Bool) (hm:PD a1 a2 a3=some r):CtX Tryz.prog globs 197 0 0 [.agg (qL a1),.one (ci a2),.one (ci a3)] [] (qPE r) (qPR r):=by
 unfold PD at hm;refine q_E f197 23 λE=>?_;refine s_vn [] 0 ⟨[(1,vi a2),(2,vi a3),(3,vp 0 0)],[(0,bx 53 (qL a1))]⟩ (q_jn (qLC) (λp=>BV p=some r) ?_ ?_)
 ·rintro x5 hm;obtain rfl:=oi hm;exact q_rt q_rm
 ·rcases bif_c hm with⟨b4,hm⟩|⟨b4,hm⟩
  ·exact q_vn [qf 7 b4] 1 ⟨[(6,vb (decide ((imax a1.A a1.B)<=a3)))],[]⟩ (q_J (decide ((imax a1.A a1.B)<=a3)) hm)
  ·exact q_vn [qf 7 b4] 1 ⟨[(6,vb false)],[]⟩ (q_J (false) hm)
def qNP (r:Bool):V:=vb r
def qOc (r:Bool):List (Nat×(Nat×O)):=[]
theorem wP (a1:Span) (r:Bool) (hm:QZ a1=some r):CtX Tryz.prog globs 196 0 0 [.agg (qL a1)] [] (qNP r) (qOc r):=by
 unfold QZ at hm;refine q_E f196 8 λE=>?_;refine s_vn [] 0 ⟨[(1,vp 0 0)],[(0,bx 53 (qL a1))]⟩ (s_vn [] 1 ⟨[(2,vb (decide (a1.A≥a1.B)))],[]⟩ ?_);obtain rfl:=oi hm;exact q_rt q_rm
def qRm (r:Int):V:=vi r
def qRU (r:Int):List (Nat×(Nat×O)):=[]
def qMe (x23:Bool):St:=
 ⟨[(29,vb x23)],[]⟩
def qMs (a1:qH) (x13:Bool):St:=
 ⟨[(3,vp 1 0),(15,vb x13)],[(1,bx 85 (JW a1.Box))]⟩
def qLU (a1:qH) (x3:Bool):St:=
 ⟨[(3,vp 1 0),(6,vb x3)],[(1,bx 85 (JW a1.Box))]⟩
theorem qPo (a1:qH) (r:Int) (hm:MZ a1=some r):CtX Tryz.prog globs 142 0 0 [.agg (qN a1)] [] (qRm r) (qRU r):=by
 unfold MZ at hm;refine q_E f142 46 λE=>?_;refine s_vn [] 0 ⟨[(1,vp 0 0)],[(0,bx 87 (qN a1))]⟩ (s_vu [] 1 [] [(3,vp 1 0)] [] [(1,bx 85 (JW a1.Box))] ?_);refine q_sq (q_bk 0 ?_);refine q_jn (qLU a1) (λp=>LN a1 p=some r) ?_ ?_
 ·rintro x3 hm;refine q_cq hm (λhm=>?_) (λhm=>?_)
  ·refine s_vn [] 2 ⟨[(2,vi 10)],[]⟩ ?_;obtain rfl:=oi hm;exact q_rt q_rm
  ·refine q_jn (qMs a1) (λp=>UL a1 p=some r) ?_ ?_
   ·rintro x13 hm;refine q_cq hm (λhm=>?_) (λhm=>?_)
    ·refine s_vn [] 2 ⟨[(2,vi 19)],[]⟩ ?_;obtain rfl:=oi hm;exact q_rt q_rm
    ·refine q_jn (qMe) (λp=>VP p=some r) ?_ ?_
     ·rintro x23 hm;refine q_cq hm (λhm=>?_) (λhm=>?_)
      ·refine s_vn [] 2 ⟨[(2,vi 9)],[]⟩ ?_;obtain rfl:=oi hm;exact q_rt q_rm
      ·refine q_sk (s_vn [] 2 ⟨[(2,vi 0)],[]⟩ ?_);obtain rfl:=oi hm;exact q_rt q_rm
     ·obtain⟨v15,h16,hm⟩:=qC hm;rcases bif_c hm with⟨b17,hm⟩|⟨b17,hm⟩
      ·exact q_vn [qk 2 [31] 2 ⟨[(31,va (qL a1.Box.X))],[]⟩ (YG a1.Box.X (-600) 600 v15 h16),qf 4 b17] 2 ⟨[(29,vb true)],[]⟩ (q_J (true) hm)
      ·obtain⟨v18,h19,hm⟩:=qC hm;rcases bif_c hm with⟨b20,hm⟩|⟨b20,hm⟩
       ·exact q_vn [qk 2 [31] 2 ⟨[(31,va (qL a1.Box.X))],[]⟩ (YG a1.Box.X (-600) 600 v15 h16),qf 4 b17,qk 7 [34,36] 2 ⟨[(34,vb false),(36,va (qL a1.Box.Y))],[]⟩ (YG a1.Box.Y (-600) 600 v18 h19),qf 10 b20] 2 ⟨[(29,vb true)],[]⟩ (q_J (true) hm)
       ·obtain⟨v21,h22,hm⟩:=qC hm;exact q_vn [qk 2 [31] 2 ⟨[(31,va (qL a1.Box.X))],[]⟩ (YG a1.Box.X (-600) 600 v15 h16),qf 4 b17,qk 7 [34,36] 2 ⟨[(34,vb false),(36,va (qL a1.Box.Y))],[]⟩ (YG a1.Box.Y (-600) 600 v18 h19),qf 10 b20,qk 13 [40,42] 2 ⟨[(40,vb false),(42,va (qL a1.Box.Z))],[]⟩ (YG a1.Box.Z 0 20000 v21 h22)] 2 ⟨[(29,vb (!v21))],[]⟩ (q_J (!v21) hm)
   ·obtain⟨v5,h6,hm⟩:=qC hm;rcases bif_c hm with⟨b7,hm⟩|⟨b7,hm⟩
    ·exact q_vv [qc 2 [17] 2 (wP a1.Box.X v5 h6),qf 3 b7] 2 [6] [(15,vb true)] (q_J (true) hm)
    ·obtain⟨v8,h9,hm⟩:=qC hm;rcases bif_c hm with⟨b10,hm⟩|⟨b10,hm⟩
     ·exact q_vv [qc 2 [17] 2 (wP a1.Box.X v5 h6),qf 3 b7,qk 6 [19,21] 2 ⟨[(19,vb false),(21,va (qL a1.Box.Y))],[]⟩ (wP a1.Box.Y v8 h9),qf 8 b10] 2 [6] [(15,vb true)] (q_J (true) hm)
     ·obtain⟨v11,h12,hm⟩:=qC hm;exact q_vv [qc 2 [17] 2 (wP a1.Box.X v5 h6),qf 3 b7,qk 6 [19,21] 2 ⟨[(19,vb false),(21,va (qL a1.Box.Y))],[]⟩ (wP a1.Box.Y v8 h9),qf 8 b10,qk 11 [24,26] 2 ⟨[(24,vb false),(26,va (qL a1.Box.Z))],[]⟩ (wP a1.Box.Z v11 h12)] 2 [6] [(15,vb v11)] (q_J (v11) hm)
 ·rcases bif_c hm with⟨b2,hm⟩|⟨b2,hm⟩
  ·exact q_vu [qf 3 b2] 2 [1] [(6,vb true)] [0] [] (q_J (true) hm)
  ·exact q_vu [qf 3 b2] 2 [1] [(6,vb (decide (a1.Kind>6)))] [0] [] (q_J (decide (a1.Kind>6)) hm)
def qCd (r:Int):V:=vi r
def qCt (r:Int):List (Nat×(Nat×O)):=[]
def AK (a1:List qH) (x3:Int):St:=
 ⟨[(9,vc (tl qN du a1)),(10,vi (a1.length:Int)),(11,vi x3)],[]⟩
def qDY :St:=
 ⟨[],[]⟩
theorem qKQ (E:Env 0) (a1:List qH):∀(n:Nat) (x3:Int) (res:Int⊕Unit),JH a1 n x3=some res->HL (kx E 21 0) (nd f76 116) (wY 0 (λo=>qDY) (λv st=>RetQ Tryz.prog f76 (qCd v) (qCt v) .ret st) res) n (AK a1 x3):=by
 intro n
 induction n with
 |zero=>
  intro x3 res hm;cases hm
 |succ n ih=>
  intro x3 res hm;refine qU (s_va 0 [(12,vb (decide (x3<(a1.length:Int))))] ?_);refine q_sq (q_cq hm (λhm=>?_) (λhm=>?_))
  ·refine q_sk (q_sq ?_);refine q_bk 1 ?_;obtain⟨g5,hm⟩:=qJ hm;refine s_vu [qi 0 g5] 0 [12] [(4,vp 0 0)] [] [(0,bx 87 (qN (a1.getD x3.toNat du)))] ?_;obtain⟨v6,h7,hm⟩:=qC hm;refine s_vu [qc 1 [15] 1 (qPo (a1.getD x3.toNat du) v6 h7)] 1 [4] [(5,vi v6)] [0] [] (s_va 1 [(18,vb (v6 !=0))] ?_);refine q_cq hm (λhm=>?_) (λhm=>?_)
   ·refine s_vn [] 1 ⟨[(2,vi v6)],[]⟩ ?_;obtain rfl:=oi hm;refine q_rt (zQ v6 ?_);exact q_rm
   ·refine q_sk (q_vv [] 1 [5,11,18] [(11,vi (w64 (x3+1)))] ?_);exact q_hl (AK a1 (w64 (x3+1))) (ih (w64 (x3+1)) _ hm)
  ·refine q_ex 0 ?_;obtain rfl:=oi hm;exact q_l1 ()
theorem JF (a1:List qH) (r:Int) (hm:JB a1=some r):CtX Tryz.prog globs 76 0 0 [.one (tl qN du a1)] [] (qCd r) (qCt r):=by
 unfold JB at hm;refine q_E f76 21 λE=>?_;refine s_vn [] 0 ⟨[(0,vc (tl qN du a1))],[]⟩ (q_sq ?_);refine s_va 0 [(8,vb (decide ((a1.length:Int)>64)))] (q_cq hm (λhm=>?_) (λhm=>?_))
 ·refine s_vn [] 0 ⟨[(2,vi 4)],[]⟩ ?_;obtain rfl:=oi hm;exact q_rt q_rm
 ·refine q_sk (q_sq ?_);refine s_vn [] 0 ⟨[(9,vc (tl qN du a1)),(10,vi (a1.length:Int)),(11,vi 0)],[]⟩ ?_;obtain⟨u11,h10,hm⟩:=qC hm;refine zY (nd f76 116) 0 (by kernel_rfl) FUEL (λo=>qDY) (λv st=>RetQ Tryz.prog f76 (qCd v) (qCt v) .ret st) u11 (q_hl (AK a1 0) (qKQ E a1 FUEL 0 u11 h10)) ?_ ?_
  ·rintro v12 rfl st hr;obtain rfl:=oi hm;exact hr
  ·rintro o9 rfl;replace hm:_=some r:=hm;refine s_vn [] 0 ⟨[(2,vi 0)],[]⟩ ?_;obtain rfl:=oi hm;exact q_rt q_rm
end Saw
end Go.SL

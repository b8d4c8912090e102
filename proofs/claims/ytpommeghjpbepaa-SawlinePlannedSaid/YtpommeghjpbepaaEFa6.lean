import Derived.Test.YtpommeghjpbepaaEBase
import Derived.Test.YtpommeghjpbepaaEFa1
import Derived.Test.YtpommeghjpbepaaEFa2
import Derived.Test.YtpommeghjpbepaaEFa5
set_option linter.unusedVariables false
set_option linter.unusedSimpArgs false
namespace Go.SL
namespace Saw
open Go.Proofs Go.Proofs.Try
set_option maxHeartbeats 4000000
set_option maxRecDepth 100000
def FR (r:Bool):V:=vb r
def FI (r:Bool):List (Nat×(Nat×O)):=[]
def qCk (a1:Rect) (x2:Int) (x7:Bool):St:=
 ⟨[(9,va (qK a1)),(10,vi x2),(27,vb x7)],[]⟩
def VF (a1:Rect) (x2:Int):St:=
 ⟨[(9,va (qK a1)),(10,vi x2)],[]⟩
def MZ :St:=
 ⟨[],[]⟩
theorem qBw (E:Env 0) (a1:Rect):∀(n:Nat) (x2:Int) (res:Bool⊕Unit),zZ a1 n x2=some res->HL (kx E 29 0) (nd f79 52) (WB 0 (λo=>MZ) (λv st=>RetQ Try.prog f79 (FR v) (FI v) .ret st) res) n (VF a1 x2):=by
 intro n
 induction n with
 |zero=>
  intro x2 res hm;cases hm
 |succ n ih=>
  intro x2 res hm;refine zF (s_va 1 [(11,vb (decide (x2<2)))] ?_);refine q_sq (q_cq hm (λhm=>?_) (λhm=>?_))
  ·refine q_sk (q_sq ?_);refine q_bk 1 ?_;obtain⟨g4,hm⟩:=qT hm;refine s_vu [qi 0 g4] 1 [11] [(4,vp 1 0)] [] [(1,bx 26 [ci (([a1.X.A,a1.X.B,a1.Y.A,a1.Y.B]:List Int).getD (x2.toNat*2+0) 0),ci (([a1.X.A,a1.X.B,a1.Y.A,a1.Y.B]:List Int).getD (x2.toNat*2+1) 0)])] (q_jn (qCk a1 x2) (λp=>jZ x2 (zZ a1 n) p=some res) ?_ ?_)
   ·rintro x7 hm;refine q_cq hm (λhm=>?_) (λhm=>?_)
    ·refine s_vn [] 2 ⟨[(2,vb false)],[]⟩ ?_;obtain rfl:=oi hm;refine q_rt (wS false ?_);exact q_rm
    ·refine q_sk (q_vv [] 2 [10,27] [(10,vi (w64 (x2+1)))] ?_);exact q_hl (VF a1 (w64 (x2+1))) (ih (w64 (x2+1)) _ hm)
   ·rcases bif_c hm with⟨b5,hm⟩|⟨b5,hm⟩
    ·exact q_vu [qf 3 b5] 2 [4] [(27,vb true)] [1] [] (q_J (true) hm)
    ·rcases bif_c hm with⟨b6,hm⟩|⟨b6,hm⟩
     ·exact q_vu [qf 3 b5,qf 8 b6] 2 [4] [(27,vb true)] [1] [] (q_J (true) hm)
     ·exact q_vu [qf 3 b5,qf 8 b6] 2 [4] [(27,vb (decide ((([a1.X.A,a1.X.B,a1.Y.A,a1.Y.B]:List Int).getD (x2.toNat*2+0) 0)≥(([a1.X.A,a1.X.B,a1.Y.A,a1.Y.B]:List Int).getD (x2.toNat*2+1) 0))))] [1] [] (q_J (decide ((([a1.X.A,a1.X.B,a1.Y.A,a1.Y.B]:List Int).getD (x2.toNat*2+0) 0)≥(([a1.X.A,a1.X.B,a1.Y.A,a1.Y.B]:List Int).getD (x2.toNat*2+1) 0))) hm)
  ·refine q_ex 0 ?_;obtain rfl:=oi hm;exact q_l1 ()
theorem EW (a1:Rect) (r:Bool) (hm:XE a1=some r):CtX Try.prog globs 79 0 0 [.agg (qK a1)] [] (FR r) (FI r):=by
 unfold XE at hm;refine q_E f79 29 λE=>?_;refine s_vn [] 0 ⟨[(1,vp 0 0)],[(0,bx 28 (qK a1))]⟩ (q_sq ?_);refine s_vn [] 1 ⟨[(9,va (qK a1)),(10,vi 0)],[]⟩ ?_;obtain⟨u11,h10,hm⟩:=qH hm;refine yA (nd f79 52) 0 (by kernel_rfl) FUEL (λo=>MZ) (λv st=>RetQ Try.prog f79 (FR v) (FI v) .ret st) u11 (q_hl (VF a1 0) (qBw E a1 FUEL 0 u11 h10)) ?_ ?_
 ·rintro v12 rfl st hr;obtain rfl:=oi hm;exact hr
 ·rintro o9 rfl;replace hm:_=some r:=hm;refine s_vn [] 1 ⟨[(2,vb true)],[]⟩ ?_;obtain rfl:=oi hm;exact q_rt q_rm
def qFK (r:Pattern×Int):V:=vc (.fn 81 [.bptr 0 0 0,.bptr 1 0 0])
def qFv (r:Pattern×Int):List (Nat×(Nat×O)):=[(0,bx 31 (qN r.1)),(1,bx 3 [ci r.2])]
theorem TQ (a1:Pattern) (a2:Int) (r:Pattern×Int) (hm:yT a1 a2=some r):CtX Try.prog globs 60 0 0 [.agg (qN a1),.one (ci a2)] [] (qFK r) (qFv r):=by
 unfold yT at hm;refine q_E f60 6 λE=>?_;refine s_vn [] 0 ⟨[(2,vp 0 0),(3,vp 1 0)],[(0,bx 31 (qN a1)),(1,bx 3 [ci a2])]⟩ (s_vv [] 2 [2,3] [(4,vc (.fn 81 [.bptr 0 0 0,.bptr 1 0 0]))] ?_);obtain rfl:=oi hm;exact q_rt q_rm
def qF8 (r:Bool):V:=vb r
def qFT (r:Bool):List (Nat×(Nat×O)):=[]
def qDq (x3:Bool):St:=
 ⟨[(2,vb x3)],[]⟩
theorem JV (a1:Int) (r:Bool) (hm:yQ a1=some r):CtX Try.prog globs 61 0 0 [.one (ci a1)] [] (qF8 r) (qFT r):=by
 unfold yQ at hm;refine q_E f61 9 λE=>?_;refine s_vn [] 0 ⟨[(0,vi a1)],[]⟩ (q_jn (qDq) (λp=>VZ p=some r) ?_ ?_)
 ·rintro x3 hm;obtain rfl:=oi hm;exact q_rt q_rm
 ·rcases bif_c hm with⟨b2,hm⟩|⟨b2,hm⟩
  ·exact q_vn [qf 2 b2] 0 ⟨[(2,vb true)],[]⟩ (q_J (true) hm)
  ·exact q_vn [qf 2 b2] 0 ⟨[(2,vb (a1==3))],[]⟩ (q_J (a1==3) hm)
open Go.Proofs Go.Proofs.Try
def qGM (r:Span):V:=va (qO r)
def qGj (r:Span):List (Nat×(Nat×O)):=[]
theorem CK (a1:Rect) (a2:Int) (r:Span) (hm:PZ a1 a2=some r):CtX Try.prog globs 82 0 0 [.agg (qK a1),.one (ci a2)] [] (qGM r) (qGj r):=by
 unfold PZ at hm;refine q_E f82 11 λE=>?_;refine s_vn [] 0 ⟨[(1,vi a2),(2,vp 0 0),(4,vp 1 0)],[(0,bx 28 (qK a1)),(1,bx 26 [ci 0,ci 0])]⟩ (q_sq ?_);refine s_vv [] 2 [1] [(6,vb (a2==2))] (q_cq hm (λhm=>?_) (λhm=>?_))
 ·refine s_vn [] 2 ⟨[(4,vp 1 0)],[(1,bx 26 (qO a1.X))]⟩ ?_;obtain rfl:=oi hm;exact q_rt q_rm
 ·refine q_sk (s_vn [] 2 ⟨[(4,vp 1 0)],[(1,bx 26 (qO a1.Y))]⟩ ?_);obtain rfl:=oi hm;exact q_rt q_rm
def qCT (r:Int):V:=vi r
def qCW (r:Int):List (Nat×(Nat×O)):=[]
def FX :St:=
 ⟨[],[]⟩
def qBb (x15:Bool):St:=
 ⟨[(46,vb x15)],[]⟩
def qA2 (a1:Node) (a2:qB) (x6:Bool):St:=
 ⟨[(2,vp 0 0),(3,vp 1 0),(23,vb x6)],[(0,bx 117 (jS a1)),(1,bx 142 (qM a2))]⟩
theorem HN (a1:Node) (a2:qB) (r:Int) (hm:WU a1 a2=some r):CtX Try.prog globs 80 0 0 [.agg (jS a1),.agg (qM a2)] [] (qCT r) (qCW r):=by
 unfold WU at hm;refine q_E f80 47 λE=>?_;refine s_vn [] 0 ⟨[(2,vp 0 0),(3,vp 1 0)],[(0,bx 117 (jS a1)),(1,bx 142 (qM a2))]⟩ (q_sq ?_);refine q_jn (qA2 a1 a2) (λp=>yK a1 a2 p=some r) ?_ ?_
 ·rintro x6 hm;refine q_cq hm (λhm=>?_) (λhm=>?_)
  ·refine s_vn [] 2 ⟨[(4,vi 10)],[]⟩ ?_;obtain rfl:=oi hm;exact q_rt q_rm
  ·refine q_sk (q_sq ?_);refine s_vv [] 2 [23] [(26,vb (decide (a2.level>64)))] (q_cq hm (λhm=>?_) (λhm=>?_))
   ·refine s_vn [] 2 ⟨[(4,vi 28)],[]⟩ ?_;obtain rfl:=oi hm;exact q_rt q_rm
   ·refine q_sk (q_jn (ι:=Unit) (λp=>FX) (λp=>WJ=some r) ?_ ?_)
    ·rintro _ hm;show H _ (FX) _ _;refine s_vn [] 3 ⟨[(4,vi 0)],[]⟩ ?_;obtain rfl:=oi hm;exact q_rt q_rm
    ·obtain⟨v9,h10,hm⟩:=qH hm;refine s_vv [qc 2 [28] 2 (JV a1.Kind v9 h10)] 2 [26] [(29,vb v9)] (q_cq hm (λhm=>?_) (λhm=>?_))
     ·obtain⟨v12,h13,hm⟩:=qH hm;refine s_vu [qc 4 [31,33] 2 (CK a2.rect a1.Kind v12 h13)] 2 [3,29] [(5,vp 2 0)] [1] [(2,bx 26 (qO v12))] (q_jn (qBb) (λp=>XZ p=some r) ?_ ?_)
      ·rintro x15 hm;refine q_cq hm (λhm=>?_) (λhm=>?_)
       ·refine s_vn [] 3 ⟨[(4,vi 20)],[]⟩ ?_;obtain rfl:=oi hm;exact q_rt q_rm
       ·exact q_sk (q_J () hm)
      ·rcases bif_c hm with⟨b14,hm⟩|⟨b14,hm⟩
       ·exact q_vn [qf 5 b14] 3 ⟨[(46,vb true)],[]⟩ (q_J (true) hm)
       ·exact q_vn [qf 5 b14] 3 ⟨[(46,vb (decide (a1.At≥v12.B)))],[]⟩ (q_J (decide (a1.At≥v12.B)) hm)
     ·exact q_sk (q_J () hm)
 ·rcases bif_c hm with⟨b3,hm⟩|⟨b3,hm⟩
  ·exact q_vv [qf 3 b3] 2 [] [(23,vb true)] (q_J (true) hm)
  ·rcases bif_c hm with⟨b4,hm⟩|⟨b4,hm⟩
   ·exact q_vv [qf 3 b3,qf 8 b4] 2 [] [(23,vb true)] (q_J (true) hm)
   ·rcases bif_c hm with⟨b5,hm⟩|⟨b5,hm⟩
    ·exact q_vv [qf 3 b3,qf 8 b4,qf 12 b5] 2 [] [(23,vb (a1.At !=0))] (q_J (a1.At !=0) hm)
    ·exact q_vv [qf 3 b3,qf 8 b4,qf 12 b5] 2 [] [(23,vb false)] (q_J (false) hm)
def IA (a1:Rect) (a2:Int) (a3:List Product) (r:Int):V:=vi r
def AV (a1:Rect) (a2:Int) (a3:List Product) (r:Int):List (Nat×(Nat×O)):=[(0,bx 24 [tl qC du a3])]
def qCu (a3:List Product) (x18:Bool):St:=
 ⟨[(49,vb x18)],[(0,bx 24 [tl qC du a3])]⟩
def qCf (a1:Rect) (a2:Int) (a3:List Product) (x5:Bool):St:=
 ⟨[(1,vi a2),(2,vp 0 0),(3,vp 1 0),(17,vb x5)],[(0,bx 24 [tl qC du a3]),(1,bx 28 (qK a1))]⟩
theorem qC8 (a1:Rect) (a2:Int) (a3:List Product) (r:Int) (hm:RF a1 a2 a3=some r):CtX Try.prog globs 77 1 1 [.agg (qK a1),.one (ci a2),.one (.bptr 0 0 0)] [(0,bx 24 [tl qC du a3])] (IA a1 a2 a3 r) (AV a1 a2 a3 r):=by
 unfold RF at hm;refine q_E f77 50 λE=>?_;refine s_vn [] 1 ⟨[(1,vi a2),(2,vp 0 0),(3,vp 1 0)],[(0,bx 24 [tl qC du a3]),(1,bx 28 (qK a1))]⟩ (q_sq ?_);refine q_jn (qCf a1 a2 a3) (λp=>ZV a1 a2 a3 p=some r) ?_ ?_
 ·rintro x5 hm;refine q_cq hm (λhm=>?_) (λhm=>?_)
  ·refine s_vu [] 2 [1,2,3,17] [(5,vi 8)] [1] [] ?_;obtain rfl:=oi hm;exact q_rt q_rm
  ·refine q_sk ?_;obtain⟨g7,hm⟩:=qT hm;obtain⟨v8,h9,hm⟩:=qH hm;refine s_vv [qi 2 g7,qc 4 [22] 2 (MB (a3.getD a2.toNat du) v8 h9)] 2 [1,2,17] [(6,vi v8.1),(7,vi v8.2)] ?_;obtain⟨v10,h11,hm⟩:=qH hm;obtain⟨v12,h13,hm⟩:=qH hm;refine s_du [qc 2 [27] 2 (GS a1.X v10 h11),qc 5 [30] 2 (GS a1.Y v12 h13)] [0,1,3,0,8,31,63,127] 2 [3] [(8,vi v10),(9,vi v12)] [1] [] (q_sq ?_);refine q_jn (qCu a3) (λp=>QJ p=some r) ?_ ?_
   ·rintro x18 hm;refine q_cq hm (λhm=>?_) (λhm=>?_)
    ·refine s_vv [] 2 [49] [(5,vi 20)] ?_;obtain rfl:=oi hm;exact q_rt q_rm
    ·refine q_sk (s_vv [] 2 [49] [(5,vi 0)] ?_);obtain rfl:=oi hm;exact q_rt q_rm
   ·rcases bif_c hm with⟨b14,hm⟩|⟨b14,hm⟩
    ·rcases bif_c hm with⟨b15,hm⟩|⟨b15,hm⟩
     ·exact q_vv [qf 3 b14,qf 12 b15] 2 [6,7,8,9] [(49,vb true)] (q_J (true) hm)
     ·exact q_vv [qf 3 b14,qf 12 b15] 2 [6,7,8,9] [(49,vb (v12 !=v8.1))] (q_J (v12 !=v8.1) hm)
    ·rcases bif_c hm with⟨b16,hm⟩|⟨b16,hm⟩
     ·rcases bif_c hm with⟨b17,hm⟩|⟨b17,hm⟩
      ·exact q_vv [qf 3 b14,qf 8 b16,qf 12 b17] 2 [6,7,8,9] [(49,vb true)] (q_J (true) hm)
      ·exact q_vv [qf 3 b14,qf 8 b16,qf 12 b17] 2 [6,7,8,9] [(49,vb (v12 !=v8.1))] (q_J (v12 !=v8.1) hm)
     ·exact q_vv [qf 3 b14,qf 8 b16] 2 [6,7,8,9] [(49,vb false)] (q_J (false) hm)
 ·rcases bif_c hm with⟨b4,hm⟩|⟨b4,hm⟩
  ·exact q_vv [qf 2 b4] 2 [] [(17,vb true)] (q_J (true) hm)
  ·exact q_vv [qf 2 b4] 2 [] [(17,vb (decide (a2≥(a3.length:Int))))] (q_J (decide (a2≥(a3.length:Int))) hm)
open Go.Proofs Go.Proofs.Try
noncomputable def UA (a1:Int) (a2:qB) (a3:Pattern) (a4:List Product) (a5:Int) (a6:Int) (ri:RI 67) (r:Nat×Int×Int):V:=vb (Nat.beq r.1 0)
noncomputable def UV (a1:Int) (a2:qB) (a3:Pattern) (a4:List Product) (a5:Int) (a6:Int) (ri:RI 67) (r:Nat×Int×Int):List (Nat×(Nat×O)):=[(0,lz (rc f58 506 ri) ri.b [.ret] r.1),(1,bx 31 (qN a3)),(2,bx 137 [.fn 77 [.bptr 3 0 0]]),(3,bx 24 [tl qC du a4]),(4,bx 42 [ci r.2.1]),(5,bx 3 [ci r.2.2])]
noncomputable def OE (ri:RI 67) (a1:Int) (a3:Pattern) (a4:List Product) (a5:Int) (a6:Int) (x16:Int):St:=
 ⟨[(6,vp 4 0),(7,vp 5 0),(8,vi a1),(11,vi x16)],[(0,ly (rc f58 506 ri) ri.b),(1,bx 31 (qN a3)),(2,bx 137 [.fn 77 [.bptr 3 0 0]]),(3,bx 24 [tl qC du a4]),(4,bx 42 [ci a5]),(5,bx 3 [ci a6])]⟩
noncomputable def OY (ri:RI 67) (a1:Int) (a2:qB) (a3:Pattern) (a4:List Product) (a5:Int) (a6:Int) (v9:Int) (x12:Bool):St:=
 ⟨[(5,vp 2 0),(6,vp 4 0),(7,vp 5 0),(8,vi a1),(9,vp 6 0),(10,vp 7 0),(11,vi v9),(50,vb x12)],[(0,ly (rc f58 506 ri) ri.b),(1,bx 31 (qN a3)),(2,bx 137 [.fn 77 [.bptr 3 0 0]]),(3,bx 24 [tl qC du a4]),(4,bx 42 [ci a5]),(5,bx 3 [ci a6]),(6,bx 142 (qM a2)),(7,bx 117 (jS (a3.Nodes.getD a1.toNat du)))]⟩
theorem FT (a1:Int) (a2:qB) (a3:Pattern) (a4:List Product) (a5:Int) (a6:Int) (ri:RI 67) (r:Nat×Int×Int) (hm:yY a1 a2 a3 a4 a5 a6=some r):CtR Try.prog globs (rc f58 506 ri) ri.b [3,5,6,7] 6 6 [.one (ci a1),.agg (qM a2),.one (.bptr 1 0 0),.one (.bptr 2 0 0),.one (.bptr 4 0 0),.one (.bptr 5 0 0)] [(0,lq (rc f58 506 ri) ri.b),(1,bx 31 (qN a3)),(2,bx 137 [.fn 77 [.bptr 3 0 0]]),(3,bx 24 [tl qC du a4]),(4,bx 42 [ci a5]),(5,bx 3 [ci a6])] (UA a1 a2 a3 a4 a5 a6 ri r) (UV a1 a2 a3 a4 a5 a6 ri r):=by
 unfold yY at hm;refine q_R f58 506 67 ri λE=>?_;refine q_sq (q_vn [] 6 ⟨[(3,vp 1 0),(5,vp 2 0),(6,vp 4 0),(7,vp 5 0),(8,vi a1),(30,va (qM a2))],[(0,lq (rc f58 506 ri) ri.b),(1,bx 31 (qN a3)),(2,bx 137 [.fn 77 [.bptr 3 0 0]]),(3,bx 24 [tl qC du a4]),(4,bx 42 [ci a5]),(5,bx 3 [ci a6])]⟩ ?_);refine q_vu [] 6 [30] [(9,vp 6 0)] [] [(6,bx 142 (qM a2))] (q_rd ⟨[(3,vp 1 0),(5,vp 2 0),(6,vp 4 0),(7,vp 5 0),(8,vi a1),(9,vp 6 0)],[(0,ly (rc f58 506 ri) ri.b),(1,bx 31 (qN a3)),(2,bx 137 [.fn 77 [.bptr 3 0 0]]),(3,bx 24 [tl qC du a4]),(4,bx 42 [ci a5]),(5,bx 3 [ci a6]),(6,bx 142 (qM a2))]⟩ ?_)
 refine q_bk 1 (q_sq ?_);refine q_sq (q_va 7 [(35,vb (decide (a1≥(a3.Nodes.length:Int))))] ?_);refine q_cq hm (λhm=>?_) (λhm=>?_)
 ·refine q_sq (q_vu [] 7 [3,5,6,7,8,9,35] [] [4,6] [(4,bx 42 [ci 3])] ?_);obtain rfl:=oi hm;exact q_rt q_rq
 ·refine q_sk (q_sq ?_);obtain⟨g8,hm⟩:=qT hm;refine q_vu [qi 3 g8] 7 [3,35] [(10,vp 7 0)] [] [(7,bx 117 (jS (a3.Nodes.getD a1.toNat du)))] (q_sq ?_);obtain⟨v9,h10,hm⟩:=qH hm;refine q_vv [qc 2 [41,42] 8 (HN (a3.Nodes.getD a1.toNat du) a2 v9 h10)] 8 [] [(11,vi v9)] (q_jn (OE ri a1 a3 a4 a5 a6) (λp=>YM a1 a5 a6 p=some r) ?_ ?_)
  ·rintro x16 hm;refine q_sq (q_sq ?_);refine q_va 8 [(58,vb (x16 !=0))] (q_cq hm (λhm=>?_) (λhm=>?_))
   ·refine q_sq (q_vu [] 8 [6,7,8,11,58] [] [4] [(4,bx 42 [ci x16])] ?_);obtain rfl:=oi hm;exact q_rt q_rq
   ·refine q_sk (q_vu [] 8 [6,7,8,11,58] [] [5] [(5,bx 3 [ci (w64 (a1+1))])] ?_);obtain rfl:=oi hm;exact q_rq
  ·refine q_jn (OY ri a1 a2 a3 a4 a5 a6 v9) (λp=>YJ a1 a2 a3 a4 a5 a6 v9 p=some r) ?_ ?_
   ·rintro x12 hm;refine q_cq hm (λhm=>?_) (λhm=>?_)
    ·obtain⟨v14,h15,hm⟩:=qH hm;exact q_vu [qd 5 (dex (cen [(3,0)] [0] 7 1 (IA a2.rect ((a3.Nodes.getD a1.toNat du).At) a4 v14) (AV a2.rect ((a3.Nodes.getD a1.toNat du).At) a4 v14) [51,53,55] [3])) (zA (K:=(kr E 67 6 ri.b)) ⟨[(51,vc (.fn 77 [.bptr 3 0 0])),(53,va (qK a2.rect)),(55,vi ((a3.Nodes.getD a1.toNat du).At))],[(3,bx 24 [tl qC du a4])]⟩ (opAt (rg f58 129722) 5) [(3,0)] [0] 7 o0 rfl (qC8 a2.rect ((a3.Nodes.getD a1.toNat du).At) a4 v14 h15) (.inl rfl) (by kernel_rfl))] 8 [5,9,10,11,50] [(11,vi v14)] [6,7] [] (q_J (v14) hm)
    ·exact q_sk (q_J (v9) hm)
   ·rcases bif_c hm with⟨b11,hm⟩|⟨b11,hm⟩
    ·exact q_vv [qf 2 b11] 8 [] [(50,vb (((a3.Nodes.getD a1.toNat du).Kind)==1))] (q_J (((a3.Nodes.getD a1.toNat du).Kind)==1) hm)
    ·exact q_vv [qf 2 b11] 8 [] [(50,vb false)] (q_J (false) hm)
def qH2 (r:Rect):V:=va (qK r)
def qHj (r:Rect):List (Nat×(Nat×O)):=[]
def qEl (x5:Rect):St:=
 ⟨[(3,vp 0 0),(6,vp 2 0)],[(0,bx 28 (qK x5)),(2,bx 28 [ci 0,ci 0,ci 0,ci 0])]⟩
theorem HF (a1:Rect) (a2:Int) (a3:Span) (r:Rect) (hm:PD a1 a2 a3=some r):CtX Try.prog globs 83 0 0 [.agg (qK a1),.one (ci a2),.agg (qO a3)] [] (qH2 r) (qHj r):=by
 unfold PD at hm;refine q_E f83 14 λE=>?_;refine s_vn [] 0 ⟨[(1,vi a2),(3,vp 0 0),(5,vp 1 0),(6,vp 2 0)],[(0,bx 28 (qK a1)),(1,bx 26 (qO a3)),(2,bx 28 [ci 0,ci 0,ci 0,ci 0])]⟩ (q_jn (qEl) (λp=>DC p=some r) ?_ ?_)
 ·rintro x5 hm;refine s_vu [] 3 [3] [] [0,2] [(2,bx 28 (qK x5))] ?_;obtain rfl:=oi hm;exact q_rt q_rm
 ·refine s_vv [] 3 [1] [(8,vb (a2==2))] (q_cq hm (λhm=>?_) (λhm=>?_))
  ·exact q_vu [] 3 [5,8] [] [0,1] [(0,bx 28 [ci a3.A,ci a3.B,ci a1.Y.A,ci a1.Y.B])] (q_J ((Rect.mk a3 a1.Y)) hm)
  ·exact q_vu [] 3 [5,8] [] [0,1] [(0,bx 28 [ci a1.X.A,ci a1.X.B,ci a3.A,ci a3.B])] (q_J ((Rect.mk a1.X a3)) hm)
def qGB (r:Rect×Rect×Rect):V:= .tup [.agg (qK r.1),.agg (qK r.2.1),.agg (qK r.2.2)]
def qGH (r:Rect×Rect×Rect):List (Nat×(Nat×O)):=[]
theorem KS (a1:Rect) (a2:Node) (a3:Int) (r:Rect×Rect×Rect) (hm:QK a1 a2 a3=some r):CtX Try.prog globs 62 0 0 [.agg (qK a1),.agg (jS a2),.one (ci a3)] [] (qGB r) (qGH r):=by
 unfold QK at hm;refine q_E f62 50 λE=>?_;refine s_vn [] 0 ⟨[(2,vi a3),(3,vp 0 0),(4,vp 1 0),(6,vp 2 0),(7,vp 3 0),(8,vp 4 0)],[(0,bx 28 (qK a1)),(1,bx 117 (jS a2)),(2,bx 28 [ci 0,ci 0,ci 0,ci 0]),(3,bx 28 [ci 0,ci 0,ci 0,ci 0]),(4,bx 28 [ci 0,ci 0,ci 0,ci 0])]⟩ ?_;obtain⟨v4,h5,hm⟩:=qH hm;refine s_vu [qc 3 [11,13] 5 (CK a1 a2.Kind v4 h5)] 5 [] [(9,vp 5 0)] [] [(5,bx 26 (qO v4))] (s_vv [] 6 [2] [(10,vi (imin (w64 (a2.At+a3)) v4.B))] ?_);obtain⟨v6,h7,hm⟩:=qH hm;refine s_vu [qc 8 [22,24,29] 6 (HF a1 a2.Kind (Span.mk v4.A a2.At) v6 h7)] 6 [] [] [2] [(2,bx 28 (qK v6))] ?_;obtain⟨v8,h9,hm⟩:=qH hm
 refine s_vu [qc 7 [31,33,37] 6 (HF a1 a2.Kind (Span.mk a2.At (imin (w64 (a2.At+a3)) v4.B)) v8 h9)] 6 [] [] [3] [(3,bx 28 (qK v8))] ?_;obtain⟨v10,h11,hm⟩:=qH hm;refine s_vu [qc 7 [39,41,45] 6 (HF a1 a2.Kind (Span.mk (imin (w64 (a2.At+a3)) v4.B) v4.B) v10 h11)] 6 [3,4,9,10] [] [0,1,4,5] [(4,bx 28 (qK v10))] (s_du [] [0,0,0,1,11,31] 6 [] [] [] [] ?_);obtain rfl:=oi hm;exact q_rt q_rm
open Go.Proofs Go.Proofs.Try
noncomputable def DV (a1:Pattern) (a2:List Product) (a3:Int) (a4:Int) (a5:Pattern) (a6:Int) (ri:RI 67) (r:Nat×Int×Int):V:= .undef
noncomputable def BE (a1:Pattern) (a2:List Product) (a3:Int) (a4:Int) (a5:Pattern) (a6:Int) (ri:RI 67) (r:Nat×Int×Int):List (Nat×(Nat×O)):=[(0,lz (rc f58 506 ri) ri.b [.ret] r.1),(1,bx 31 (qN a1)),(2,bx 137 [.fn 77 [.bptr 3 0 0]]),(3,bx 24 [tl qC du a2]),(4,bx 42 [ci r.2.1]),(5,bx 3 [ci r.2.2]),(6,bx 31 (qN a5)),(7,bx 3 [ci a6])]
noncomputable def MH (ri:RI 67) (a1:Pattern) (a2:List Product) (a5:Pattern) (a6:Int) (x8:Int) (l25:List qB) (l25n:Nat) (x26:Int) (x27:Int):St:=
 ⟨[(0,vc (.yl (rc f58 506 ri) ri.b [3,5,6,7] [.bptr 1 0 0,.bptr 2 0 0,.bptr 4 0 0,.bptr 5 0 0])),(1,vp 6 0),(2,vp 7 0),(4,vo 8 0 5 l25n),(5,vi x8)],[(0,lq (rc f58 506 ri) ri.b),(1,bx 31 (qN a1)),(2,bx 137 [.fn 77 [.bptr 3 0 0]]),(3,bx 24 [tl qC du a2]),(4,bx 42 [ci x27]),(5,bx 3 [ci x26]),(6,bx 31 (qN a5)),(7,bx 3 [ci a6]),(8,ro 0 142 5 l25n (rf qM l25))]⟩
noncomputable def TV (ri:RI 67) (a1:Pattern) (a2:List Product) (a5:Pattern) (a6:Int) (l7:List qB) (l7n:Nat) (x8:Int) (x9:Int) (x10:Int):St:=
 ⟨[(0,vc (.yl (rc f58 506 ri) ri.b [3,5,6,7] [.bptr 1 0 0,.bptr 2 0 0,.bptr 4 0 0,.bptr 5 0 0])),(1,vp 6 0),(2,vp 7 0),(4,vo 8 0 5 l7n),(5,vi x8)],[(0,lq (rc f58 506 ri) ri.b),(1,bx 31 (qN a1)),(2,bx 137 [.fn 77 [.bptr 3 0 0]]),(3,bx 24 [tl qC du a2]),(4,bx 42 [ci x9]),(5,bx 3 [ci x10]),(6,bx 31 (qN a5)),(7,bx 3 [ci a6]),(8,ro 0 142 5 l7n (rf qM l7))]⟩
noncomputable def MF (ri:RI 67) (a1:Pattern) (a2:List Product) (a5:Pattern) (a6:Int) (x28:Int) (x29:Int):St:=
 ⟨[],[(0,lq (rc f58 506 ri) ri.b),(1,bx 31 (qN a1)),(2,bx 137 [.fn 77 [.bptr 3 0 0]]),(3,bx 24 [tl qC du a2]),(4,bx 42 [ci x29]),(5,bx 3 [ci x28]),(6,bx 31 (qN a5)),(7,bx 3 [ci a6])]⟩
theorem qAW (E:Env 8) (ri:RI 67) (a1:Pattern) (a2:List Product) (a3:Int) (a4:Int) (a5:Pattern) (a6:Int):∀(n:Nat) (l7:List qB) (l7n:Nat) (x8:Int) (x9:Int) (x10:Int) (res:(Nat×Int×Int)⊕(Int×Int)),l7.length=l7n->yX a1 a2 a5 a6 n l7 x8 x9 x10=some res->HL (kx E 73 8) (nd f81 28) (WB 0 (λo=>MF ri a1 a2 a5 a6 o.1 o.2) (λv st=>RetQ Try.prog f81 (DV a1 a2 a3 a4 a5 a6 ri v) (BE a1 a2 a3 a4 a5 a6 ri v) .ret st) res) n (TV ri a1 a2 a5 a6 l7 l7n x8 x9 x10):=by
 intro n
 induction n with
 |zero=>
  intro l7 l7n x8 x9 x10 res hl0 hm;cases hm
 |succ n ih=>
  intro l7 l7n x8 x9 x10 res hl0 hm;subst hl0;refine zF (q_sq ?_);refine s_va 9 [(17,vb (decide ((l7.length:Int)>0)))] (q_cq hm (λhm=>?_) (λhm=>?_))
  ·refine q_sk (q_jn (ι:=(List qB)×Nat×Int×Int) (λp=>MH ri a1 a2 a5 a6 x8 p.1 p.2.1 p.2.2.1 p.2.2.2) (λp=>p.1.length=p.2.1/\PK x8 (yX a1 a2 a5 a6 n) p.1 p.2.2.1 p.2.2.2=some res) ?_ ?_)
   ·rintro⟨l25,l25n,x26,x27⟩ ⟨el25,hm⟩;replace el25:l25.length=l25n:=el25;subst el25;show H _ (MH ri a1 a2 a5 a6 x8 l25 l25.length x26 x27) _ _;exact q_vv [] 15 [5] [(5,vi (w64 (x8+1)))] (q_hl (TV ri a1 a2 a5 a6 l25 l25.length (w64 (x8+1)) x27 x26) (ih l25 l25.length (w64 (x8+1)) x27 x26 _ rfl hm))
   ·refine q_bk 1 ?_;obtain⟨g12,hm⟩:=qT hm;refine s_vu [qi 4 g12,qd 5 dN (qX (zG g12))] 9 [17] [(6,vp 9 0)] [] [(9,bx 142 (qM (l7.getD ((w64 ((l7.length:Int)-1)).toNat) du)))] ?_;obtain⟨g13,hm⟩:=qT hm
    refine s_wu [qd 4 dN (And.intro (wG g13).2.1 (wG g13).2.2)] [.row 8 ((w64 ((l7.length:Int)-1)).toNat) (rf qM (l7.take ((w64 ((l7.length:Int)-1)).toNat)))] (o1 (tkP qM du l7 l7.length ((w64 ((l7.length:Int)-1)).toNat) (show(w64 ((l7.length:Int)-1)).toNat<=l7.length by have:=(wG g13);omega))) 10 [4] [(4,vo 8 0 5 ((w64 ((l7.length:Int)-1)).toNat))] [8] [(8,ro 0 142 5 ((w64 ((l7.length:Int)-1)).toNat) (rf qM (l7.take ((w64 ((l7.length:Int)-1)).toNat))))] (q_sq ?_);refine q_sq ?_;obtain⟨v14,h15,hm⟩:=qH hm;rcases bif_c hm with⟨b16,hm⟩|⟨b16,hm⟩
    ·refine q_vu [qd 3 (dex (cen [(0,0),(1,0),(2,0),(3,0),(4,0),(5,0)] [0,0,0,0,0,0] 4 6 (UA x8 (l7.getD ((w64 ((l7.length:Int)-1)).toNat) du) a1 a2 x9 x10 ri v14) (UV x8 (l7.getD ((w64 ((l7.length:Int)-1)).toNat) du) a1 a2 x9 x10 ri v14) [31,32,33] [0,1,2,3,4,5])) (IT (K:=(kx E 73 8)) ⟨[(31,vc (.yl (rc f58 506 ri) ri.b [3,5,6,7] [.bptr 1 0 0,.bptr 2 0 0,.bptr 4 0 0,.bptr 5 0 0])),(32,vi x8),(33,va [ci ((((l7.getD ((w64 ((l7.length:Int)-1)).toNat) du).rect).X).A),ci ((((l7.getD ((w64 ((l7.length:Int)-1)).toNat) du).rect).X).B),ci ((((l7.getD ((w64 ((l7.length:Int)-1)).toNat) du).rect).Y).A),ci ((((l7.getD ((w64 ((l7.length:Int)-1)).toNat) du).rect).Y).B),ci ((l7.getD ((w64 ((l7.length:Int)-1)).toNat) du).level)])],[(0,lq (rc f58 506 ri) ri.b),(1,bx 31 (qN a1)),(2,bx 137 [.fn 77 [.bptr 3 0 0]]),(3,bx 24 [tl qC du a2]),(4,bx 42 [ci x9]),(5,bx 3 [ci x10])]⟩ (opAt (rg f81 3660) 3) [(0,0),(1,0),(2,0),(3,0),(4,0),(5,0)] [0,0,0,0,0,0] 4 0 o0 rfl (FT x8 (l7.getD ((w64 ((l7.length:Int)-1)).toNat) du) a1 a2 x9 x10 ri v14 h15) (.inl rfl) (by kernel_rfl)),qf 5 b16] 10 [] [(42,vb true)] [0,4,5] [(0,lz (rc f58 506 ri) ri.b [.ret] v14.1),(4,bx 42 [ci v14.2.1]),(5,bx 3 [ci v14.2.2])] ?_
     refine EC f81 (.tmp 42) 7322 7323 (by kernel_rfl) (by kernel_rfl) ?_;obtain rfl:=oi hm;refine q_rt (wS (v14.1,v14.2.1,v14.2.2) ?_);exact q_rm
    ·refine q_wu [qd 3 (dex (cen [(0,0),(1,0),(2,0),(3,0),(4,0),(5,0)] [0,0,0,0,0,0] 4 6 (UA x8 (l7.getD ((w64 ((l7.length:Int)-1)).toNat) du) a1 a2 x9 x10 ri v14) (UV x8 (l7.getD ((w64 ((l7.length:Int)-1)).toNat) du) a1 a2 x9 x10 ri v14) [31,32,33] [0,1,2,3,4,5])) (IT (K:=(kx E 73 8)) ⟨[(31,vc (.yl (rc f58 506 ri) ri.b [3,5,6,7] [.bptr 1 0 0,.bptr 2 0 0,.bptr 4 0 0,.bptr 5 0 0])),(32,vi x8),(33,va [ci ((((l7.getD ((w64 ((l7.length:Int)-1)).toNat) du).rect).X).A),ci ((((l7.getD ((w64 ((l7.length:Int)-1)).toNat) du).rect).X).B),ci ((((l7.getD ((w64 ((l7.length:Int)-1)).toNat) du).rect).Y).A),ci ((((l7.getD ((w64 ((l7.length:Int)-1)).toNat) du).rect).Y).B),ci ((l7.getD ((w64 ((l7.length:Int)-1)).toNat) du).level)])],[(0,lq (rc f58 506 ri) ri.b),(1,bx 31 (qN a1)),(2,bx 137 [.fn 77 [.bptr 3 0 0]]),(3,bx 24 [tl qC du a2]),(4,bx 42 [ci x9]),(5,bx 3 [ci x10])]⟩ (opAt (rg f81 3660) 3) [(0,0),(1,0),(2,0),(3,0),(4,0),(5,0)] [0,0,0,0,0,0] 4 0 o0 rfl (FT x8 (l7.getD ((w64 ((l7.length:Int)-1)).toNat) du) a1 a2 x9 x10 ri v14 h15) (.inl rfl) (by kernel_rfl)),qf 5 b16] [.lpn 0 .ready none] (o1 (qG3 (js:=[.ret]) b16)) 10 [] [(42,vb (decide (x8≥(a5.Nodes.length:Int))))] [4,5] [(4,bx 42 [ci v14.2.1]),(5,bx 3 [ci v14.2.2])] ?_
     refine q_cq hm (λhm=>?_) (λhm=>?_)
     ·obtain rfl:=oi hm;refine q_rt (wS (0,v14.2.1,v14.2.2) ?_);exact q_rm
     ·refine q_sk ?_;obtain⟨g18,hm⟩:=qT hm;refine s_vu [qi 3 g18] 10 [42] [(7,vp 10 0)] [] [(10,bx 117 (jS (a5.Nodes.getD x8.toNat du)))] ?_;obtain⟨v19,h20,hm⟩:=qH hm;refine s_vv [qc 2 [49] 11 (JV ((a5.Nodes.getD x8.toNat du).Kind) v19 h20)] 11 [] [(50,vb v19)] (q_cq hm (λhm=>?_) (λhm=>?_))
      ·obtain⟨v22,h23,hm⟩:=qH hm;refine s_vu [qc 4 [53,54,55] 11 (KS ((l7.getD ((w64 ((l7.length:Int)-1)).toNat) du).rect) (a5.Nodes.getD x8.toNat du) a6 v22 h23)] 11 [7,50] [(8,vp 11 0),(10,vp 13 0)] [10] [(11,bx 28 (qK v22.1)),(13,bx 28 (qK v22.2.2))] ?_;obtain⟨g24,hm⟩:=qT hm
       refine q_vu [qd 11 (drw 14 0 (rf qM [(qB.mk v22.2.2 (w64 (((l7.getD ((w64 ((l7.length:Int)-1)).toNat) du).level)+1))),(qB.mk v22.1 (w64 (((l7.getD ((w64 ((l7.length:Int)-1)).toNat) du).level)+1)))])) (litP qM du 5 (λ_=>rfl) ([(qB.mk v22.2.2 (w64 (((l7.getD ((w64 ((l7.length:Int)-1)).toNat) du).level)+1))),(qB.mk v22.1 (w64 (((l7.getD ((w64 ((l7.length:Int)-1)).toNat) du).level)+1)))]:List qB) 2 rfl),qd 12 (drw 8 1 (rf qM ((l7.take ((w64 ((l7.length:Int)-1)).toNat))++[(qB.mk v22.2.2 (w64 (((l7.getD ((w64 ((l7.length:Int)-1)).toNat) du).level)+1))),(qB.mk v22.1 (w64 (((l7.getD ((w64 ((l7.length:Int)-1)).toNat) du).level)+1)))]))) (apP qM du (l7.take ((w64 ((l7.length:Int)-1)).toNat)) ([(qB.mk v22.2.2 (w64 (((l7.getD ((w64 ((l7.length:Int)-1)).toNat) du).level)+1))),(qB.mk v22.1 (w64 (((l7.getD ((w64 ((l7.length:Int)-1)).toNat) du).level)+1)))]:List qB) ((w64 ((l7.length:Int)-1)).toNat) 2 5 40 (2<=2) (kf _) (XJ rfl (show(w64 ((l7.length:Int)-1)).toNat<=l7.length by have:=(wG g13);omega)) rfl (λ_=>rfl) (jQ g24))] 14 [4,6,8,10] [(4,vo 8 1 5 ((w64 ((l7.length:Int)-1)).toNat+2))] [8,9,11,13] [(8,ro 1 142 5 ((w64 ((l7.length:Int)-1)).toNat+2) (rf qM ((l7.take ((w64 ((l7.length:Int)-1)).toNat))++[(qB.mk v22.2.2 (w64 (((l7.getD ((w64 ((l7.length:Int)-1)).toNat) du).level)+1))),(qB.mk v22.1 (w64 (((l7.getD ((w64 ((l7.length:Int)-1)).toNat) du).level)+1)))])))] ?_
       exact q_J (((l7.take ((w64 ((l7.length:Int)-1)).toNat))++[(qB.mk v22.2.2 (w64 (((l7.getD ((w64 ((l7.length:Int)-1)).toNat) du).level)+1))),(qB.mk v22.1 (w64 (((l7.getD ((w64 ((l7.length:Int)-1)).toNat) du).level)+1)))]),((w64 ((l7.length:Int)-1)).toNat+2),v14.2.2,v14.2.1) ⟨(wR (XJ rfl (show(w64 ((l7.length:Int)-1)).toNat<=l7.length by have:=(wG g13);omega)) rfl),hm⟩
      ·exact q_sk (q_J ((l7.take ((w64 ((l7.length:Int)-1)).toNat)),(w64 ((l7.length:Int)-1)).toNat,v14.2.2,v14.2.1) ⟨(XJ rfl (show(w64 ((l7.length:Int)-1)).toNat<=l7.length by have:=(wG g13);omega)),hm⟩)
  ·refine q_ex 0 ?_;obtain rfl:=oi hm;exact qJr (x10,x9) (by kernel_rfl) (by kernel_rfl)
theorem qCX (a1:Pattern) (a2:List Product) (a3:Int) (a4:Int) (a5:Pattern) (a6:Int) (ri:RI 67) (r:Nat×Int×Int) (hm:PA a1 a2 a3 a4 a5 a6=some r):CtX Try.prog globs 81 8 8 [.one (.yl (rc f58 506 ri) ri.b [3,5,6,7] [.bptr 1 0 0,.bptr 2 0 0,.bptr 4 0 0,.bptr 5 0 0]),.one (.bptr 6 0 0),.one (.bptr 7 0 0)] [(0,lq (rc f58 506 ri) ri.b),(1,bx 31 (qN a1)),(2,bx 137 [.fn 77 [.bptr 3 0 0]]),(3,bx 24 [tl qC du a2]),(4,bx 42 [ci a3]),(5,bx 3 [ci a4]),(6,bx 31 (qN a5)),(7,bx 3 [ci a6])] (DV a1 a2 a3 a4 a5 a6 ri r) (BE a1 a2 a3 a4 a5 a6 ri r):=by
 unfold PA at hm;refine q_E f81 73 λE=>?_;refine s_vn [qd 3 (drw 8 0 (rf qM [(qB.mk a5.Frame 1)])) (litP qM du 5 (λ_=>rfl) ([(qB.mk a5.Frame 1)]:List qB) 1 rfl)] 8 ⟨[(0,vc (.yl (rc f58 506 ri) ri.b [3,5,6,7] [.bptr 1 0 0,.bptr 2 0 0,.bptr 4 0 0,.bptr 5 0 0])),(1,vp 6 0),(2,vp 7 0),(4,vo 8 0 5 1)],[(0,lq (rc f58 506 ri) ri.b),(1,bx 31 (qN a1)),(2,bx 137 [.fn 77 [.bptr 3 0 0]]),(3,bx 24 [tl qC du a2]),(4,bx 42 [ci a3]),(5,bx 3 [ci a4]),(6,bx 31 (qN a5)),(7,bx 3 [ci a6]),(8,ro 0 142 5 1 (rf qM [(qB.mk a5.Frame 1)]))]⟩ (s_va 9 [(5,vi 0)] ?_);obtain⟨u32,h31,hm⟩:=qH hm
 refine yA (nd f81 28) 0 (by kernel_rfl) FUEL (λo=>MF ri a1 a2 a5 a6 o.1 o.2) (λv st=>RetQ Try.prog f81 (DV a1 a2 a3 a4 a5 a6 ri v) (BE a1 a2 a3 a4 a5 a6 ri v) .ret st) u32 (q_hl (TV ri a1 a2 a5 a6 ([(qB.mk a5.Frame 1)]:List qB) 1 0 a3 a4) (qAW E ri a1 a2 a3 a4 a5 a6 FUEL ([(qB.mk a5.Frame 1)]:List qB) 1 0 a3 a4 u32 rfl h31)) ?_ ?_
 ·rintro v33 rfl st hr;obtain rfl:=oi hm;exact hr
 ·rintro o30 rfl;replace hm:_=some r:=hm;obtain rfl:=oi hm;exact q_rm
def qAi (a1:Pattern) (a2:Int) (a3:List Product) (r:Int):V:=vi r
def qAD (a1:Pattern) (a2:Int) (a3:List Product) (r:Int):List (Nat×(Nat×O)):=[(0,bx 24 [tl qC du a3])]
def qDa (a1:Pattern) (a2:Int) (a3:List Product) (x8:Bool):St:=
 ⟨[(1,vi a2),(3,vp 1 0),(5,vp 2 0),(6,vp 3 0),(21,vb x8)],[(0,bx 24 [tl qC du a3]),(1,bx 31 (qN a1)),(2,bx 137 [.fn 77 [.bptr 0 0 0]]),(3,bx 42 [ci 0])]⟩
theorem qFg (a1:Pattern) (a2:Int) (a3:List Product) (r:Int) (hm:LL a1 a2 a3=some r):CtX Try.prog globs 58 1 1 [.agg (qN a1),.one (ci a2),.one (.fn 77 [.bptr 0 0 0])] [(0,bx 24 [tl qC du a3])] (qAi a1 a2 a3 r) (qAD a1 a2 a3 r):=by
 unfold LL at hm;refine q_E f58 67 λE=>?_;refine s_vn [] 1 ⟨[(1,vi a2),(3,vp 1 0),(5,vp 2 0),(6,vp 3 0)],[(0,bx 24 [tl qC du a3]),(1,bx 31 (qN a1)),(2,bx 137 [.fn 77 [.bptr 0 0 0]]),(3,bx 42 [ci 0])]⟩ (q_sq ?_);obtain⟨v4,h5,hm⟩:=qH hm;refine s_vv [qc 2 [13] 4 (EW a1.Frame v4 h5)] 4 [] [(15,vb (!v4))] (q_cq hm (λhm=>?_) (λhm=>?_))
 ·refine s_vu [] 4 [1,3,5,15] [] [1,2,3] [(3,bx 42 [ci 19])] ?_;obtain rfl:=oi hm;exact q_rt q_rm
 ·refine q_sk (q_sq ?_);refine q_jn (qDa a1 a2 a3) (λp=>JU a1 a2 a3 p=some r) ?_ ?_
  ·rintro x8 hm;refine q_cq hm (λhm=>?_) (λhm=>?_)
   ·refine s_vu [] 4 [1,3,5,21] [] [1,2,3] [(3,bx 42 [ci 9])] ?_;obtain rfl:=oi hm;exact q_rt q_rm
   ·refine q_sk (q_sq ?_);refine s_vv [] 4 [21] [(25,vb (decide ((a1.Nodes.length:Int)>127)))] (q_cq hm (λhm=>?_) (λhm=>?_))
    ·refine s_vu [] 4 [1,3,5,25] [] [1,2,3] [(3,bx 42 [ci 4])] ?_;obtain rfl:=oi hm;exact q_rt q_rm
    ·refine q_sk (s_vu [] 4 [25] [(7,vp 4 0)] [] [(4,bx 3 [ci 0])] ?_);refine q_sq ?_;obtain⟨v11,h12,hm⟩:=qH hm;refine s_vu [qc 2 [26,27] 5 (TQ a1 a2 v11 h12)] 5 [1] [(28,vc (.fn 81 [.bptr 5 0 0,.bptr 6 0 0]))] [] [(5,bx 31 (qN v11.1)),(6,bx 3 [ci v11.2])] (q_bk 0 ?_);obtain⟨v13,h14,hm⟩:=qH hm;refine q_rf (.tmp 28) [3,5,6,7] 7 [(7,0),(1,0),(2,0),(0,0),(3,0),(4,0),(5,0),(6,0)] [0,0,0,0,0,0,0,0] 0 8 [.ret] v13.1 0 ⟨[(3,vp 1 0),(6,vp 3 0),(7,vp 4 0)],[(0,bx 24 [tl qC du a3]),(1,bx 31 (qN a1)),(3,bx 42 [ci v13.2.1]),(4,bx 3 [ci v13.2.2])]⟩ (λri=>qCX a1 a3 0 0 v11.1 v11.2 ri v13 h14) ?_
     rcases bif_c hm with⟨b15,hm⟩|⟨b15,hm⟩
     ·refine JQ_n b15 (q_sq ?_);refine s_vu [] 8 [3,7] [(66,vb (decide (v13.2.2<(a1.Nodes.length:Int))))] [1,4] [] (q_cq hm (λhm=>?_) (λhm=>?_))
      ·refine s_vu [] 8 [66] [] [3] [(3,bx 42 [ci 4])] ?_;obtain rfl:=oi hm;exact q_rt q_rm
      ·refine q_sk (s_vu [] 8 [66] [] [3] [(3,bx 42 [ci 0])] ?_);obtain rfl:=oi hm;exact q_rt q_rm
     ·rcases bif_c hm with⟨b16,hm⟩|⟨b16,hm⟩
      ·refine JQ_j 0 .ret b16 (by kernel_rfl) ?_;obtain rfl:=oi hm;exact q_rt q_rm
      ·cases hm
  ·rcases bif_c hm with⟨b7,hm⟩|⟨b7,hm⟩
   ·exact q_vv [qf 2 b7] 4 [15] [(21,vb true)] (q_J (true) hm)
   ·exact q_vv [qf 2 b7] 4 [15] [(21,vb (decide (a2>20)))] (q_J (decide (a2>20)) hm)
def qGF (r:Int):V:=vi r
def qGS (r:Int):List (Nat×(Nat×O)):=[]
theorem OV (a1:Pattern) (a2:List Product) (a3:Int) (r:Int) (hm:PW a1 a2 a3=some r):CtX Try.prog globs 57 0 0 [.agg (qN a1),.one (tl qC du a2),.one (ci a3)] [] (qGF r) (qGS r):=by
 unfold PW at hm;refine q_E f57 11 λE=>?_;refine s_vn [] 0 ⟨[(2,vi a3),(3,vp 0 0),(4,vp 1 0)],[(0,bx 31 (qN a1)),(1,bx 24 [tl qC du a2])]⟩ ?_;obtain⟨v4,h5,hm⟩:=qH hm;refine s_vn [qd 3 (dex (cen [(1,0)] [0] 1 1 (qAi a1 a3 a2 v4) (qAD a1 a3 a2 v4) [7,8,9] [1])) (zA (K:=(kx E 11 0)) ⟨[(7,va (qN a1)),(8,vi a3),(9,vc (.fn 77 [.bptr 1 0 0]))],[(1,bx 24 [tl qC du a2])]⟩ (opAt (rg f57 6) 3) [(1,0)] [0] 1 o0 rfl (qFg a1 a3 a2 v4 h5) (.inl rfl) (by kernel_rfl))] 2 ⟨[(6,vi v4)],[]⟩ ?_;obtain rfl:=oi hm;exact q_rt q_rm
open Go.Proofs Go.Proofs.Try
def qGq (r:Int):V:=vi r
def qFX (r:Int):List (Nat×(Nat×O)):=[]
theorem qFC (a1:List qG) (a2:List qJ) (a3:List Product) (a4:Pattern) (a5:Saw) (a6:Rates) (r:Int) (hm:LJ a1 a2 a3 a4 a5 a6=some r):CtX Try.prog globs 44 0 0 [.one (tl qF du a1),.one (tl qE du a2),.one (tl qC du a3),.agg (qN a4),.agg (ZG a5),.agg (JO a6)] [] (qGq r) (qFX r):=by
 unfold LJ at hm;refine q_E f44 43 λE=>?_;refine s_vn [] 0 ⟨[(0,vc (tl qF du a1)),(1,vc (tl qE du a2)),(2,vc (tl qC du a3)),(9,vp 0 0),(10,vp 1 0),(11,vp 2 0)],[(0,bx 31 (qN a4)),(1,bx 33 (ZG a5)),(2,bx 35 (JO a6))]⟩ (q_sq ?_);obtain⟨v7,h8,hm⟩:=qH hm;refine s_vv [qc 1 [17] 3 (JY a1 v7 h8)] 3 [0] [(13,vi v7)] (s_va 3 [(20,vb (v7 !=0))] ?_);refine q_cq hm (λhm=>?_) (λhm=>?_)
 ·refine s_vn [] 3 ⟨[(12,vi v7)],[]⟩ ?_;obtain rfl:=oi hm;exact q_rt q_rm
 ·refine q_sk (q_sq ?_);obtain⟨v10,h11,hm⟩:=qH hm;refine s_vv [qc 1 [22] 3 (RR a2 v10 h11)] 3 [1,13,20] [(14,vi v10)] (s_va 3 [(25,vb (v10 !=0))] ?_);refine q_cq hm (λhm=>?_) (λhm=>?_)
  ·refine s_vn [] 3 ⟨[(12,vi v10)],[]⟩ ?_;obtain rfl:=oi hm;exact q_rt q_rm
  ·refine q_sk (q_sq ?_);obtain⟨v13,h14,hm⟩:=qH hm;refine s_vv [qc 1 [27] 3 (VV a3 v13 h14)] 3 [14,25] [(15,vi v13)] (s_va 3 [(30,vb (v13 !=0))] ?_);refine q_cq hm (λhm=>?_) (λhm=>?_)
   ·refine s_vn [] 3 ⟨[(12,vi v13)],[]⟩ ?_;obtain rfl:=oi hm;exact q_rt q_rm
   ·refine q_sk (q_sq ?_);obtain⟨v16,h17,hm⟩:=qH hm;refine s_vu [qc 2 [32,33] 3 (qBE a5 a6 v16 h17)] 3 [11,15,30] [(16,vi v16)] [2] [] (s_va 3 [(36,vb (v16 !=0))] ?_);refine q_cq hm (λhm=>?_) (λhm=>?_)
    ·refine s_vn [] 3 ⟨[(12,vi v16)],[]⟩ ?_;obtain rfl:=oi hm;exact q_rt q_rm
    ·refine q_sk ?_;obtain⟨v19,h20,hm⟩:=qH hm;refine s_vn [qc 4 [38,39,41] 3 (OV a4 a3 a5.Kerf v19 h20)] 3 ⟨[(12,vi v19)],[]⟩ ?_;obtain rfl:=oi hm;exact q_rt q_rm
def qDS (r:Int):V:=vi r
def qDu (r:Int):List (Nat×(Nat×O)):=[]
def qBs (x4:Bool):St:=
 ⟨[(10,vb x4)],[]⟩
theorem qCZ (a1:Rect) (a2:Int) (r:Int) (hm:KW a1 a2=some r):CtX Try.prog globs 59 0 0 [.agg (qK a1),.one (ci a2)] [] (qDS r) (qDu r):=by
 unfold KW at hm;refine q_E f59 11 λE=>?_;refine s_vn [] 0 ⟨[(1,vi a2)],[]⟩ (q_sq ?_);refine q_jn (qBs) (λp=>PI p=some r) ?_ ?_
 ·rintro x4 hm;refine q_cq hm (λhm=>?_) (λhm=>?_)
  ·refine s_vn [] 1 ⟨[(4,vi 8)],[]⟩ ?_;obtain rfl:=oi hm;exact q_rt q_rm
  ·refine q_sk (s_vn [] 1 ⟨[(4,vi 0)],[]⟩ ?_);obtain rfl:=oi hm;exact q_rt q_rm
 ·rcases bif_c hm with⟨b3,hm⟩|⟨b3,hm⟩
  ·exact q_vn [qf 2 b3] 1 ⟨[(10,vb true)],[]⟩ (q_J (true) hm)
  ·exact q_vn [qf 2 b3] 1 ⟨[(10,vb (decide (a2≥16)))],[]⟩ (q_J (decide (a2≥16)) hm)
noncomputable def KU (a1:Int) (a2:qB) (a3:Pattern) (a4:Int) (a5:Int) (ri:RI 67) (r:Nat×Int×Int):V:=vb (Nat.beq r.1 0)
noncomputable def KQ (a1:Int) (a2:qB) (a3:Pattern) (a4:Int) (a5:Int) (ri:RI 67) (r:Nat×Int×Int):List (Nat×(Nat×O)):=[(0,lz (rc f58 506 ri) ri.b [.ret] r.1),(1,bx 31 (qN a3)),(2,bx 137 [.fn 59 []]),(3,bx 42 [ci r.2.1]),(4,bx 3 [ci r.2.2])]
noncomputable def EH (ri:RI 67) (a1:Int) (a3:Pattern) (a4:Int) (a5:Int) (x15:Int):St:=
 ⟨[(6,vp 3 0),(7,vp 4 0),(8,vi a1),(11,vi x15)],[(0,ly (rc f58 506 ri) ri.b),(1,bx 31 (qN a3)),(2,bx 137 [.fn 59 []]),(3,bx 42 [ci a4]),(4,bx 3 [ci a5])]⟩
noncomputable def EV (ri:RI 67) (a1:Int) (a2:qB) (a3:Pattern) (a4:Int) (a5:Int) (v8:Int) (x11:Bool):St:=
 ⟨[(5,vp 2 0),(6,vp 3 0),(7,vp 4 0),(8,vi a1),(9,vp 5 0),(10,vp 6 0),(11,vi v8),(50,vb x11)],[(0,ly (rc f58 506 ri) ri.b),(1,bx 31 (qN a3)),(2,bx 137 [.fn 59 []]),(3,bx 42 [ci a4]),(4,bx 3 [ci a5]),(5,bx 142 (qM a2)),(6,bx 117 (jS (a3.Nodes.getD a1.toNat du)))]⟩
theorem DJ (a1:Int) (a2:qB) (a3:Pattern) (a4:Int) (a5:Int) (ri:RI 67) (r:Nat×Int×Int) (hm:jH a1 a2 a3 a4 a5=some r):CtR Try.prog globs (rc f58 506 ri) ri.b [3,5,6,7] 5 5 [.one (ci a1),.agg (qM a2),.one (.bptr 1 0 0),.one (.bptr 2 0 0),.one (.bptr 3 0 0),.one (.bptr 4 0 0)] [(0,lq (rc f58 506 ri) ri.b),(1,bx 31 (qN a3)),(2,bx 137 [.fn 59 []]),(3,bx 42 [ci a4]),(4,bx 3 [ci a5])] (KU a1 a2 a3 a4 a5 ri r) (KQ a1 a2 a3 a4 a5 ri r):=by
 unfold jH at hm;refine q_R f58 506 67 ri λE=>?_;refine q_sq (q_vn [] 5 ⟨[(3,vp 1 0),(5,vp 2 0),(6,vp 3 0),(7,vp 4 0),(8,vi a1),(30,va (qM a2))],[(0,lq (rc f58 506 ri) ri.b),(1,bx 31 (qN a3)),(2,bx 137 [.fn 59 []]),(3,bx 42 [ci a4]),(4,bx 3 [ci a5])]⟩ ?_);refine q_vu [] 5 [30] [(9,vp 5 0)] [] [(5,bx 142 (qM a2))] (q_rd ⟨[(3,vp 1 0),(5,vp 2 0),(6,vp 3 0),(7,vp 4 0),(8,vi a1),(9,vp 5 0)],[(0,ly (rc f58 506 ri) ri.b),(1,bx 31 (qN a3)),(2,bx 137 [.fn 59 []]),(3,bx 42 [ci a4]),(4,bx 3 [ci a5]),(5,bx 142 (qM a2))]⟩ ?_);refine q_bk 1 (q_sq ?_)
 refine q_sq (q_va 6 [(35,vb (decide (a1≥(a3.Nodes.length:Int))))] ?_);refine q_cq hm (λhm=>?_) (λhm=>?_)
 ·refine q_sq (q_vu [] 6 [3,5,6,7,8,9,35] [] [3,5] [(3,bx 42 [ci 3])] ?_);obtain rfl:=oi hm;exact q_rt q_rq
 ·refine q_sk (q_sq ?_);obtain⟨g7,hm⟩:=qT hm;refine q_vu [qi 3 g7] 6 [3,35] [(10,vp 6 0)] [] [(6,bx 117 (jS (a3.Nodes.getD a1.toNat du)))] (q_sq ?_);obtain⟨v8,h9,hm⟩:=qH hm;refine q_vv [qc 2 [41,42] 7 (HN (a3.Nodes.getD a1.toNat du) a2 v8 h9)] 7 [] [(11,vi v8)] (q_jn (EH ri a1 a3 a4 a5) (λp=>ZX a1 a4 a5 p=some r) ?_ ?_)
  ·rintro x15 hm;refine q_sq (q_sq ?_);refine q_va 7 [(58,vb (x15 !=0))] (q_cq hm (λhm=>?_) (λhm=>?_))
   ·refine q_sq (q_vu [] 7 [6,7,8,11,58] [] [3] [(3,bx 42 [ci x15])] ?_);obtain rfl:=oi hm;exact q_rt q_rq
   ·refine q_sk (q_vu [] 7 [6,7,8,11,58] [] [4] [(4,bx 3 [ci (w64 (a1+1))])] ?_);obtain rfl:=oi hm;exact q_rq
  ·refine q_jn (EV ri a1 a2 a3 a4 a5 v8) (λp=>ZY a1 a2 a3 a4 a5 v8 p=some r) ?_ ?_
   ·rintro x11 hm;refine q_cq hm (λhm=>?_) (λhm=>?_)
    ·obtain⟨v13,h14,hm⟩:=qH hm;exact q_vu [qk 5 [51,53,55] 7 ⟨[(51,vc (.fn 59 [])),(53,va (qK a2.rect)),(55,vi ((a3.Nodes.getD a1.toNat du).At))],[]⟩ (qCZ a2.rect ((a3.Nodes.getD a1.toNat du).At) v13 h14)] 7 [5,9,10,11,50] [(11,vi v13)] [5,6] [] (q_J (v13) hm)
    ·exact q_sk (q_J (v8) hm)
   ·rcases bif_c hm with⟨b10,hm⟩|⟨b10,hm⟩
    ·exact q_vv [qf 2 b10] 7 [] [(50,vb (((a3.Nodes.getD a1.toNat du).Kind)==1))] (q_J (((a3.Nodes.getD a1.toNat du).Kind)==1) hm)
    ·exact q_vv [qf 2 b10] 7 [] [(50,vb false)] (q_J (false) hm)
end Saw
end Go.SL

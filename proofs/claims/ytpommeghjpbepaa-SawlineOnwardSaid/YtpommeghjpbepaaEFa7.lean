import Derived.Test.YtpommeghjpbepaaEBase
import Derived.Test.YtpommeghjpbepaaEFa3
import Derived.Test.YtpommeghjpbepaaEFa1
import Derived.Test.YtpommeghjpbepaaEFa4
import Derived.Test.YtpommeghjpbepaaEFa6
set_option linter.unusedVariables false
set_option linter.unusedSimpArgs false
namespace Go.SL
namespace Saw
open Go.Proofs Go.Proofs.Try
set_option maxHeartbeats 4000000
set_option maxRecDepth 100000
def NB (r:Bool):V:=vb r
def NG (r:Bool):List (Nat×(Nat×O)):=[]
def qAX (a1:Rect) (x2:Int) (x7:Bool):St:=
 ⟨[(9,va (qK a1)),(10,vi x2),(27,vb x7)],[]⟩
def TZ (a1:Rect) (x2:Int):St:=
 ⟨[(9,va (qK a1)),(10,vi x2)],[]⟩
def LI :St:=
 ⟨[],[]⟩
theorem qAx (E:Env 0) (a1:Rect):∀(n:Nat) (x2:Int) (res:Bool⊕Unit),zX a1 n x2=some res->HL (kx E 29 0) (nd f79 52) (JJ 0 (λo=>LI) (λv st=>RetQ Try.prog f79 (NB v) (NG v) .ret st) res) n (TZ a1 x2):=by
 intro n
 induction n with
 |zero=>
  intro x2 res hm;cases hm
 |succ n ih=>
  intro x2 res hm;refine zE (s_va 1 [(11,vb (decide (x2<2)))] ?_);refine q_sq (q_cq hm (λhm=>?_) (λhm=>?_))
  ·refine q_sk (q_sq ?_);refine q_bk 1 ?_;obtain⟨g4,hm⟩:=qU hm;refine s_vu [qi 0 g4] 1 [11] [(4,vp 1 0)] [] [(1,bx 26 [ci (([a1.X.A,a1.X.B,a1.Y.A,a1.Y.B]:List Int).getD (x2.toNat*2+0) 0),ci (([a1.X.A,a1.X.B,a1.Y.A,a1.Y.B]:List Int).getD (x2.toNat*2+1) 0)])] (q_jn (qAX a1 x2) (λp=>jT x2 (zX a1 n) p=some res) ?_ ?_)
   ·rintro x7 hm;refine q_cq hm (λhm=>?_) (λhm=>?_)
    ·refine s_vn [] 2 ⟨[(2,vb false)],[]⟩ ?_;obtain rfl:=oi hm;refine q_rt (wT false ?_);exact q_rm
    ·refine q_sk (q_vv [] 2 [10,27] [(10,vi (w64 (x2+1)))] ?_);exact q_hl (TZ a1 (w64 (x2+1))) (ih (w64 (x2+1)) _ hm)
   ·rcases bif_c hm with⟨b5,hm⟩|⟨b5,hm⟩
    ·exact q_vu [qf 3 b5] 2 [4] [(27,vb true)] [1] [] (q_J (true) hm)
    ·rcases bif_c hm with⟨b6,hm⟩|⟨b6,hm⟩
     ·exact q_vu [qf 3 b5,qf 8 b6] 2 [4] [(27,vb true)] [1] [] (q_J (true) hm)
     ·exact q_vu [qf 3 b5,qf 8 b6] 2 [4] [(27,vb (decide ((([a1.X.A,a1.X.B,a1.Y.A,a1.Y.B]:List Int).getD (x2.toNat*2+0) 0)≥(([a1.X.A,a1.X.B,a1.Y.A,a1.Y.B]:List Int).getD (x2.toNat*2+1) 0))))] [1] [] (q_J (decide ((([a1.X.A,a1.X.B,a1.Y.A,a1.Y.B]:List Int).getD (x2.toNat*2+0) 0)≥(([a1.X.A,a1.X.B,a1.Y.A,a1.Y.B]:List Int).getD (x2.toNat*2+1) 0))) hm)
  ·refine q_ex 0 ?_;obtain rfl:=oi hm;exact q_l1 ()
theorem HS (a1:Rect) (r:Bool) (hm:YA a1=some r):CtX Try.prog globs 79 0 0 [.agg (qK a1)] [] (NB r) (NG r):=by
 unfold YA at hm;refine q_E f79 29 λE=>?_;refine s_vn [] 0 ⟨[(1,vp 0 0)],[(0,bx 28 (qK a1))]⟩ (q_sq ?_);refine s_vn [] 1 ⟨[(9,va (qK a1)),(10,vi 0)],[]⟩ ?_;obtain⟨u11,h10,hm⟩:=qI hm;refine yO (nd f79 52) 0 (by kernel_rfl) FUEL (λo=>LI) (λv st=>RetQ Try.prog f79 (NB v) (NG v) .ret st) u11 (q_hl (TZ a1 0) (qAx E a1 FUEL 0 u11 h10)) ?_ ?_
 ·rintro v12 rfl st hr;obtain rfl:=oi hm;exact hr
 ·rintro o9 rfl;replace hm:_=some r:=hm;refine s_vn [] 1 ⟨[(2,vb true)],[]⟩ ?_;obtain rfl:=oi hm;exact q_rt q_rm
def qEz (r:Pattern×Int):V:=vc (.fn 81 [.bptr 0 0 0,.bptr 1 0 0])
def qDT (r:Pattern×Int):List (Nat×(Nat×O)):=[(0,bx 31 (qO r.1)),(1,bx 3 [ci r.2])]
theorem BX (a1:Pattern) (a2:Int) (r:Pattern×Int) (hm:ZE a1 a2=some r):CtX Try.prog globs 60 0 0 [.agg (qO a1),.one (ci a2)] [] (qEz r) (qDT r):=by
 unfold ZE at hm;refine q_E f60 6 λE=>?_;refine s_vn [] 0 ⟨[(2,vp 0 0),(3,vp 1 0)],[(0,bx 31 (qO a1)),(1,bx 3 [ci a2])]⟩ (s_vv [] 2 [2,3] [(4,vc (.fn 81 [.bptr 0 0 0,.bptr 1 0 0]))] ?_);obtain rfl:=oi hm;exact q_rt q_rm
def qFc (r:Bool):V:=vb r
def qEZ (r:Bool):List (Nat×(Nat×O)):=[]
def qB1 (x3:Bool):St:=
 ⟨[(2,vb x3)],[]⟩
theorem TS (a1:Int) (r:Bool) (hm:ZA a1=some r):CtX Try.prog globs 61 0 0 [.one (ci a1)] [] (qFc r) (qEZ r):=by
 unfold ZA at hm;refine q_E f61 9 λE=>?_;refine s_vn [] 0 ⟨[(0,vi a1)],[]⟩ (q_jn (qB1) (λp=>UB p=some r) ?_ ?_)
 ·rintro x3 hm;obtain rfl:=oi hm;exact q_rt q_rm
 ·rcases bif_c hm with⟨b2,hm⟩|⟨b2,hm⟩
  ·exact q_vn [qf 2 b2] 0 ⟨[(2,vb true)],[]⟩ (q_J (true) hm)
  ·exact q_vn [qf 2 b2] 0 ⟨[(2,vb (a1==3))],[]⟩ (q_J (a1==3) hm)
open Go.Proofs Go.Proofs.Try
def qFm (r:Span):V:=va (qN r)
def qFB (r:Span):List (Nat×(Nat×O)):=[]
theorem AO (a1:Rect) (a2:Int) (r:Span) (hm:PC a1 a2=some r):CtX Try.prog globs 82 0 0 [.agg (qK a1),.one (ci a2)] [] (qFm r) (qFB r):=by
 unfold PC at hm;refine q_E f82 11 λE=>?_;refine s_vn [] 0 ⟨[(1,vi a2),(2,vp 0 0),(4,vp 1 0)],[(0,bx 28 (qK a1)),(1,bx 26 [ci 0,ci 0])]⟩ (q_sq ?_);refine s_vv [] 2 [1] [(6,vb (a2==2))] (q_cq hm (λhm=>?_) (λhm=>?_))
 ·refine s_vn [] 2 ⟨[(4,vp 1 0)],[(1,bx 26 (qN a1.X))]⟩ ?_;obtain rfl:=oi hm;exact q_rt q_rm
 ·refine q_sk (s_vn [] 2 ⟨[(4,vp 1 0)],[(1,bx 26 (qN a1.Y))]⟩ ?_);obtain rfl:=oi hm;exact q_rt q_rm
def qBM (r:Int):V:=vi r
def qBS (r:Int):List (Nat×(Nat×O)):=[]
def NQ :St:=
 ⟨[],[]⟩
def CR (x15:Bool):St:=
 ⟨[(46,vb x15)],[]⟩
def CS (a1:Node) (a2:qB) (x6:Bool):St:=
 ⟨[(2,vp 0 0),(3,vp 1 0),(23,vb x6)],[(0,bx 117 (yH a1)),(1,bx 142 (qM a2))]⟩
theorem LW (a1:Node) (a2:qB) (r:Int) (hm:WE a1 a2=some r):CtX Try.prog globs 80 0 0 [.agg (yH a1),.agg (qM a2)] [] (qBM r) (qBS r):=by
 unfold WE at hm;refine q_E f80 47 λE=>?_;refine s_vn [] 0 ⟨[(2,vp 0 0),(3,vp 1 0)],[(0,bx 117 (yH a1)),(1,bx 142 (qM a2))]⟩ (q_sq ?_);refine q_jn (CS a1 a2) (λp=>jX a1 a2 p=some r) ?_ ?_
 ·rintro x6 hm;refine q_cq hm (λhm=>?_) (λhm=>?_)
  ·refine s_vn [] 2 ⟨[(4,vi 10)],[]⟩ ?_;obtain rfl:=oi hm;exact q_rt q_rm
  ·refine q_sk (q_sq ?_);refine s_vv [] 2 [23] [(26,vb (decide (a2.level>64)))] (q_cq hm (λhm=>?_) (λhm=>?_))
   ·refine s_vn [] 2 ⟨[(4,vi 28)],[]⟩ ?_;obtain rfl:=oi hm;exact q_rt q_rm
   ·refine q_sk (q_jn (ι:=Unit) (λp=>NQ) (λp=>WA=some r) ?_ ?_)
    ·rintro _ hm;show H _ (NQ) _ _;refine s_vn [] 3 ⟨[(4,vi 0)],[]⟩ ?_;obtain rfl:=oi hm;exact q_rt q_rm
    ·obtain⟨v9,h10,hm⟩:=qI hm;refine s_vv [qc 2 [28] 2 (TS a1.Kind v9 h10)] 2 [26] [(29,vb v9)] (q_cq hm (λhm=>?_) (λhm=>?_))
     ·obtain⟨v12,h13,hm⟩:=qI hm;refine s_vu [qc 4 [31,33] 2 (AO a2.rect a1.Kind v12 h13)] 2 [3,29] [(5,vp 2 0)] [1] [(2,bx 26 (qN v12))] (q_jn (CR) (λp=>YZ p=some r) ?_ ?_)
      ·rintro x15 hm;refine q_cq hm (λhm=>?_) (λhm=>?_)
       ·refine s_vn [] 3 ⟨[(4,vi 20)],[]⟩ ?_;obtain rfl:=oi hm;exact q_rt q_rm
       ·exact q_sk (q_J () hm)
      ·rcases bif_c hm with⟨b14,hm⟩|⟨b14,hm⟩
       ·exact q_vn [qf 5 b14] 3 ⟨[(46,vb true)],[]⟩ (q_J (true) hm)
       ·exact q_vn [qf 5 b14] 3 ⟨[(46,vb (decide (a1.At≥v12.B)))],[]⟩ (q_J (decide (a1.At≥v12.B)) hm)
     ·exact q_sk (q_J () hm)
 ·rcases bif_c hm with⟨b3,hm⟩|⟨b3,hm⟩
  ·exact q_vv [qf 3 b3] 2 [] [(23,vb true)] (q_J (true) hm)
  ·rcases bif_c hm with⟨b4,hm⟩|⟨b4,hm⟩
   ·exact q_vv [qf 3 b3,qf 8 b4] 2 [] [(23,vb true)] (q_J (true) hm)
   ·rcases bif_c hm with⟨b5,hm⟩|⟨b5,hm⟩
    ·exact q_vv [qf 3 b3,qf 8 b4,qf 12 b5] 2 [] [(23,vb (a1.At !=0))] (q_J (a1.At !=0) hm)
    ·exact q_vv [qf 3 b3,qf 8 b4,qf 12 b5] 2 [] [(23,vb false)] (q_J (false) hm)
def SV (a1:Rect) (a2:Int) (a3:List Product) (r:Int):V:=vi r
def SS (a1:Rect) (a2:Int) (a3:List Product) (r:Int):List (Nat×(Nat×O)):=[(0,bx 24 [tl qD du a3])]
def qBD (a3:List Product) (x18:Bool):St:=
 ⟨[(49,vb x18)],[(0,bx 24 [tl qD du a3])]⟩
def qAY (a1:Rect) (a2:Int) (a3:List Product) (x5:Bool):St:=
 ⟨[(1,vi a2),(2,vp 0 0),(3,vp 1 0),(17,vb x5)],[(0,bx 24 [tl qD du a3]),(1,bx 28 (qK a1))]⟩
theorem qCC (a1:Rect) (a2:Int) (a3:List Product) (r:Int) (hm:PJ a1 a2 a3=some r):CtX Try.prog globs 77 1 1 [.agg (qK a1),.one (ci a2),.one (.bptr 0 0 0)] [(0,bx 24 [tl qD du a3])] (SV a1 a2 a3 r) (SS a1 a2 a3 r):=by
 unfold PJ at hm;refine q_E f77 50 λE=>?_;refine s_vn [] 1 ⟨[(1,vi a2),(2,vp 0 0),(3,vp 1 0)],[(0,bx 24 [tl qD du a3]),(1,bx 28 (qK a1))]⟩ (q_sq ?_);refine q_jn (qAY a1 a2 a3) (λp=>ZG a1 a2 a3 p=some r) ?_ ?_
 ·rintro x5 hm;refine q_cq hm (λhm=>?_) (λhm=>?_)
  ·refine s_vu [] 2 [1,2,3,17] [(5,vi 8)] [1] [] ?_;obtain rfl:=oi hm;exact q_rt q_rm
  ·refine q_sk ?_;obtain⟨g7,hm⟩:=qU hm;obtain⟨v8,h9,hm⟩:=qI hm;refine s_vv [qi 2 g7,qc 4 [22] 2 (FF (a3.getD a2.toNat du) v8 h9)] 2 [1,2,17] [(6,vi v8.1),(7,vi v8.2)] ?_;obtain⟨v10,h11,hm⟩:=qI hm;obtain⟨v12,h13,hm⟩:=qI hm;refine s_du [qc 2 [27] 2 (UY a1.X v10 h11),qc 5 [30] 2 (UY a1.Y v12 h13)] [0,1,3,0,8,31,63,127] 2 [3] [(8,vi v10),(9,vi v12)] [1] [] (q_sq ?_);refine q_jn (qBD a3) (λp=>yV p=some r) ?_ ?_
   ·rintro x18 hm;refine q_cq hm (λhm=>?_) (λhm=>?_)
    ·refine s_vv [] 2 [49] [(5,vi 20)] ?_;obtain rfl:=oi hm;exact q_rt q_rm
    ·refine q_sk (s_vv [] 2 [49] [(5,vi 0)] ?_);obtain rfl:=oi hm;exact q_rt q_rm
   ·rcases bif_c hm with⟨b14,hm⟩|⟨b14,hm⟩
    ·rcases bif_c hm with⟨b15,hm⟩|⟨b15,hm⟩
     ·exact q_vv [qf 3 b14,qf 12 b15] 2 [6,7,8,9] [(49,vb true)] (q_J (true) hm)
     ·exact q_vv [qf 3 b14,qf 12 b15] 2 [6,7,8,9] [(49,vb (v12 !=v8.1))] (q_J (v12 !=v8.1) hm)
    ·rcases bif_c hm with⟨b16,hm⟩|⟨b16,hm⟩
     ·rcases bif_c hm with⟨b17,hm⟩|⟨b17,hm⟩
      ·exact q_vv [qf 3 b14,qf 8 b16,qf 12 b17] 2 [6,7,8,9] [(49,vb true)] (q_J (true) hm)
      ·exact q_vv [qf 3 b14,qf 8 b16,qf 12 b17] 2 [6,7,8,9] [(49,vb (v12 !=v8.1))] (q_J (v12 !=v8.1) hm)
     ·exact q_vv [qf 3 b14,qf 8 b16] 2 [6,7,8,9] [(49,vb false)] (q_J (false) hm)
 ·rcases bif_c hm with⟨b4,hm⟩|⟨b4,hm⟩
  ·exact q_vv [qf 2 b4] 2 [] [(17,vb true)] (q_J (true) hm)
  ·exact q_vv [qf 2 b4] 2 [] [(17,vb (decide (a2≥(a3.length:Int))))] (q_J (decide (a2≥(a3.length:Int))) hm)
open Go.Proofs Go.Proofs.Try
noncomputable def TP (a1:Int) (a2:qB) (a3:Pattern) (a4:List Product) (a5:Int) (a6:Int) (ri:RI 67) (r:Nat×Int×Int):V:=vb (Nat.beq r.1 0)
noncomputable def TA (a1:Int) (a2:qB) (a3:Pattern) (a4:List Product) (a5:Int) (a6:Int) (ri:RI 67) (r:Nat×Int×Int):List (Nat×(Nat×O)):=[(0,lz (rc f58 506 ri) ri.b [.ret] r.1),(1,bx 31 (qO a3)),(2,bx 137 [.fn 77 [.bptr 3 0 0]]),(3,bx 24 [tl qD du a4]),(4,bx 42 [ci r.2.1]),(5,bx 3 [ci r.2.2])]
noncomputable def AC (ri:RI 67) (a1:Int) (a3:Pattern) (a4:List Product) (a5:Int) (a6:Int) (x16:Int):St:=
 ⟨[(6,vp 4 0),(7,vp 5 0),(8,vi a1),(11,vi x16)],[(0,ly (rc f58 506 ri) ri.b),(1,bx 31 (qO a3)),(2,bx 137 [.fn 77 [.bptr 3 0 0]]),(3,bx 24 [tl qD du a4]),(4,bx 42 [ci a5]),(5,bx 3 [ci a6])]⟩
noncomputable def AJ (ri:RI 67) (a1:Int) (a2:qB) (a3:Pattern) (a4:List Product) (a5:Int) (a6:Int) (v9:Int) (x12:Bool):St:=
 ⟨[(5,vp 2 0),(6,vp 4 0),(7,vp 5 0),(8,vi a1),(9,vp 6 0),(10,vp 7 0),(11,vi v9),(50,vb x12)],[(0,ly (rc f58 506 ri) ri.b),(1,bx 31 (qO a3)),(2,bx 137 [.fn 77 [.bptr 3 0 0]]),(3,bx 24 [tl qD du a4]),(4,bx 42 [ci a5]),(5,bx 3 [ci a6]),(6,bx 142 (qM a2)),(7,bx 117 (yH (a3.Nodes.getD a1.toNat du)))]⟩
theorem NP (a1:Int) (a2:qB) (a3:Pattern) (a4:List Product) (a5:Int) (a6:Int) (ri:RI 67) (r:Nat×Int×Int) (hm:yL a1 a2 a3 a4 a5 a6=some r):CtR Try.prog globs (rc f58 506 ri) ri.b [3,5,6,7] 6 6 [.one (ci a1),.agg (qM a2),.one (.bptr 1 0 0),.one (.bptr 2 0 0),.one (.bptr 4 0 0),.one (.bptr 5 0 0)] [(0,lq (rc f58 506 ri) ri.b),(1,bx 31 (qO a3)),(2,bx 137 [.fn 77 [.bptr 3 0 0]]),(3,bx 24 [tl qD du a4]),(4,bx 42 [ci a5]),(5,bx 3 [ci a6])] (TP a1 a2 a3 a4 a5 a6 ri r) (TA a1 a2 a3 a4 a5 a6 ri r):=by
 unfold yL at hm;refine q_R f58 506 67 ri λE=>?_;refine q_sq (q_vn [] 6 ⟨[(3,vp 1 0),(5,vp 2 0),(6,vp 4 0),(7,vp 5 0),(8,vi a1),(30,va (qM a2))],[(0,lq (rc f58 506 ri) ri.b),(1,bx 31 (qO a3)),(2,bx 137 [.fn 77 [.bptr 3 0 0]]),(3,bx 24 [tl qD du a4]),(4,bx 42 [ci a5]),(5,bx 3 [ci a6])]⟩ ?_);refine q_vu [] 6 [30] [(9,vp 6 0)] [] [(6,bx 142 (qM a2))] (q_rd ⟨[(3,vp 1 0),(5,vp 2 0),(6,vp 4 0),(7,vp 5 0),(8,vi a1),(9,vp 6 0)],[(0,ly (rc f58 506 ri) ri.b),(1,bx 31 (qO a3)),(2,bx 137 [.fn 77 [.bptr 3 0 0]]),(3,bx 24 [tl qD du a4]),(4,bx 42 [ci a5]),(5,bx 3 [ci a6]),(6,bx 142 (qM a2))]⟩ ?_)
 refine q_bk 1 (q_sq ?_);refine q_sq (q_va 7 [(35,vb (decide (a1≥(a3.Nodes.length:Int))))] ?_);refine q_cq hm (λhm=>?_) (λhm=>?_)
 ·refine q_sq (q_vu [] 7 [3,5,6,7,8,9,35] [] [4,6] [(4,bx 42 [ci 3])] ?_);obtain rfl:=oi hm;exact q_rt q_rq
 ·refine q_sk (q_sq ?_);obtain⟨g8,hm⟩:=qU hm;refine q_vu [qi 3 g8] 7 [3,35] [(10,vp 7 0)] [] [(7,bx 117 (yH (a3.Nodes.getD a1.toNat du)))] (q_sq ?_);obtain⟨v9,h10,hm⟩:=qI hm;refine q_vv [qc 2 [41,42] 8 (LW (a3.Nodes.getD a1.toNat du) a2 v9 h10)] 8 [] [(11,vi v9)] (q_jn (AC ri a1 a3 a4 a5 a6) (λp=>JU a1 a5 a6 p=some r) ?_ ?_)
  ·rintro x16 hm;refine q_sq (q_sq ?_);refine q_va 8 [(58,vb (x16 !=0))] (q_cq hm (λhm=>?_) (λhm=>?_))
   ·refine q_sq (q_vu [] 8 [6,7,8,11,58] [] [4] [(4,bx 42 [ci x16])] ?_);obtain rfl:=oi hm;exact q_rt q_rq
   ·refine q_sk (q_vu [] 8 [6,7,8,11,58] [] [5] [(5,bx 3 [ci (w64 (a1+1))])] ?_);obtain rfl:=oi hm;exact q_rq
  ·refine q_jn (AJ ri a1 a2 a3 a4 a5 a6 v9) (λp=>JL a1 a2 a3 a4 a5 a6 v9 p=some r) ?_ ?_
   ·rintro x12 hm;refine q_cq hm (λhm=>?_) (λhm=>?_)
    ·obtain⟨v14,h15,hm⟩:=qI hm;exact q_vu [qd 5 (dex (cen [(3,0)] [0] 7 1 (SV a2.rect ((a3.Nodes.getD a1.toNat du).At) a4 v14) (SS a2.rect ((a3.Nodes.getD a1.toNat du).At) a4 v14) [51,53,55] [3])) (zF (K:=(kr E 67 6 ri.b)) ⟨[(51,vc (.fn 77 [.bptr 3 0 0])),(53,va (qK a2.rect)),(55,vi ((a3.Nodes.getD a1.toNat du).At))],[(3,bx 24 [tl qD du a4])]⟩ (opAt (rg f58 129722) 5) [(3,0)] [0] 7 o0 rfl (qCC a2.rect ((a3.Nodes.getD a1.toNat du).At) a4 v14 h15) (.inl rfl) (by kernel_rfl))] 8 [5,9,10,11,50] [(11,vi v14)] [6,7] [] (q_J (v14) hm)
    ·exact q_sk (q_J (v9) hm)
   ·rcases bif_c hm with⟨b11,hm⟩|⟨b11,hm⟩
    ·exact q_vv [qf 2 b11] 8 [] [(50,vb (((a3.Nodes.getD a1.toNat du).Kind)==1))] (q_J (((a3.Nodes.getD a1.toNat du).Kind)==1) hm)
    ·exact q_vv [qf 2 b11] 8 [] [(50,vb false)] (q_J (false) hm)
def qGs (r:Rect):V:=va (qK r)
def qGy (r:Rect):List (Nat×(Nat×O)):=[]
def qDl (x5:Rect):St:=
 ⟨[(3,vp 0 0),(6,vp 2 0)],[(0,bx 28 (qK x5)),(2,bx 28 [ci 0,ci 0,ci 0,ci 0])]⟩
theorem LO (a1:Rect) (a2:Int) (a3:Span) (r:Rect) (hm:XZ a1 a2 a3=some r):CtX Try.prog globs 83 0 0 [.agg (qK a1),.one (ci a2),.agg (qN a3)] [] (qGs r) (qGy r):=by
 unfold XZ at hm;refine q_E f83 14 λE=>?_;refine s_vn [] 0 ⟨[(1,vi a2),(3,vp 0 0),(5,vp 1 0),(6,vp 2 0)],[(0,bx 28 (qK a1)),(1,bx 26 (qN a3)),(2,bx 28 [ci 0,ci 0,ci 0,ci 0])]⟩ (q_jn (qDl) (λp=>VU p=some r) ?_ ?_)
 ·rintro x5 hm;refine s_vu [] 3 [3] [] [0,2] [(2,bx 28 (qK x5))] ?_;obtain rfl:=oi hm;exact q_rt q_rm
 ·refine s_vv [] 3 [1] [(8,vb (a2==2))] (q_cq hm (λhm=>?_) (λhm=>?_))
  ·exact q_vu [] 3 [5,8] [] [0,1] [(0,bx 28 [ci a3.A,ci a3.B,ci a1.Y.A,ci a1.Y.B])] (q_J ((Rect.mk a3 a1.Y)) hm)
  ·exact q_vu [] 3 [5,8] [] [0,1] [(0,bx 28 [ci a1.X.A,ci a1.X.B,ci a3.A,ci a3.B])] (q_J ((Rect.mk a1.X a3)) hm)
def qFQ (r:Rect×Rect×Rect):V:= .tup [.agg (qK r.1),.agg (qK r.2.1),.agg (qK r.2.2)]
def qE2 (r:Rect×Rect×Rect):List (Nat×(Nat×O)):=[]
theorem FO (a1:Rect) (a2:Node) (a3:Int) (r:Rect×Rect×Rect) (hm:WF a1 a2 a3=some r):CtX Try.prog globs 62 0 0 [.agg (qK a1),.agg (yH a2),.one (ci a3)] [] (qFQ r) (qE2 r):=by
 unfold WF at hm;refine q_E f62 50 λE=>?_;refine s_vn [] 0 ⟨[(2,vi a3),(3,vp 0 0),(4,vp 1 0),(6,vp 2 0),(7,vp 3 0),(8,vp 4 0)],[(0,bx 28 (qK a1)),(1,bx 117 (yH a2)),(2,bx 28 [ci 0,ci 0,ci 0,ci 0]),(3,bx 28 [ci 0,ci 0,ci 0,ci 0]),(4,bx 28 [ci 0,ci 0,ci 0,ci 0])]⟩ ?_;obtain⟨v4,h5,hm⟩:=qI hm;refine s_vu [qc 3 [11,13] 5 (AO a1 a2.Kind v4 h5)] 5 [] [(9,vp 5 0)] [] [(5,bx 26 (qN v4))] (s_vv [] 6 [2] [(10,vi (imin (w64 (a2.At+a3)) v4.B))] ?_);obtain⟨v6,h7,hm⟩:=qI hm;refine s_vu [qc 8 [22,24,29] 6 (LO a1 a2.Kind (Span.mk v4.A a2.At) v6 h7)] 6 [] [] [2] [(2,bx 28 (qK v6))] ?_;obtain⟨v8,h9,hm⟩:=qI hm
 refine s_vu [qc 7 [31,33,37] 6 (LO a1 a2.Kind (Span.mk a2.At (imin (w64 (a2.At+a3)) v4.B)) v8 h9)] 6 [] [] [3] [(3,bx 28 (qK v8))] ?_;obtain⟨v10,h11,hm⟩:=qI hm;refine s_vu [qc 7 [39,41,45] 6 (LO a1 a2.Kind (Span.mk (imin (w64 (a2.At+a3)) v4.B) v4.B) v10 h11)] 6 [3,4,9,10] [] [0,1,4,5] [(4,bx 28 (qK v10))] (s_du [] [0,0,0,1,11,31] 6 [] [] [] [] ?_);obtain rfl:=oi hm;exact q_rt q_rm
open Go.Proofs Go.Proofs.Try
noncomputable def GL (a1:Pattern) (a2:List Product) (a3:Int) (a4:Int) (a5:Pattern) (a6:Int) (ri:RI 67) (r:Nat×Int×Int):V:= .undef
noncomputable def GZ (a1:Pattern) (a2:List Product) (a3:Int) (a4:Int) (a5:Pattern) (a6:Int) (ri:RI 67) (r:Nat×Int×Int):List (Nat×(Nat×O)):=[(0,lz (rc f58 506 ri) ri.b [.ret] r.1),(1,bx 31 (qO a1)),(2,bx 137 [.fn 77 [.bptr 3 0 0]]),(3,bx 24 [tl qD du a2]),(4,bx 42 [ci r.2.1]),(5,bx 3 [ci r.2.2]),(6,bx 31 (qO a5)),(7,bx 3 [ci a6])]
noncomputable def FW (ri:RI 67) (a1:Pattern) (a2:List Product) (a5:Pattern) (a6:Int) (x8:Int) (l25:List qB) (l25n:Nat) (x26:Int) (x27:Int):St:=
 ⟨[(0,vc (.yl (rc f58 506 ri) ri.b [3,5,6,7] [.bptr 1 0 0,.bptr 2 0 0,.bptr 4 0 0,.bptr 5 0 0])),(1,vp 6 0),(2,vp 7 0),(4,vo 8 0 5 l25n),(5,vi x8)],[(0,lq (rc f58 506 ri) ri.b),(1,bx 31 (qO a1)),(2,bx 137 [.fn 77 [.bptr 3 0 0]]),(3,bx 24 [tl qD du a2]),(4,bx 42 [ci x27]),(5,bx 3 [ci x26]),(6,bx 31 (qO a5)),(7,bx 3 [ci a6]),(8,ro 0 142 5 l25n (rf qM l25))]⟩
noncomputable def TC (ri:RI 67) (a1:Pattern) (a2:List Product) (a5:Pattern) (a6:Int) (l7:List qB) (l7n:Nat) (x8:Int) (x9:Int) (x10:Int):St:=
 ⟨[(0,vc (.yl (rc f58 506 ri) ri.b [3,5,6,7] [.bptr 1 0 0,.bptr 2 0 0,.bptr 4 0 0,.bptr 5 0 0])),(1,vp 6 0),(2,vp 7 0),(4,vo 8 0 5 l7n),(5,vi x8)],[(0,lq (rc f58 506 ri) ri.b),(1,bx 31 (qO a1)),(2,bx 137 [.fn 77 [.bptr 3 0 0]]),(3,bx 24 [tl qD du a2]),(4,bx 42 [ci x9]),(5,bx 3 [ci x10]),(6,bx 31 (qO a5)),(7,bx 3 [ci a6]),(8,ro 0 142 5 l7n (rf qM l7))]⟩
noncomputable def FX (ri:RI 67) (a1:Pattern) (a2:List Product) (a5:Pattern) (a6:Int) (x28:Int) (x29:Int):St:=
 ⟨[],[(0,lq (rc f58 506 ri) ri.b),(1,bx 31 (qO a1)),(2,bx 137 [.fn 77 [.bptr 3 0 0]]),(3,bx 24 [tl qD du a2]),(4,bx 42 [ci x29]),(5,bx 3 [ci x28]),(6,bx 31 (qO a5)),(7,bx 3 [ci a6])]⟩
theorem CX (E:Env 8) (ri:RI 67) (a1:Pattern) (a2:List Product) (a3:Int) (a4:Int) (a5:Pattern) (a6:Int):∀(n:Nat) (l7:List qB) (l7n:Nat) (x8:Int) (x9:Int) (x10:Int) (res:(Nat×Int×Int)⊕(Int×Int)),l7.length=l7n->yM a1 a2 a5 a6 n l7 x8 x9 x10=some res->HL (kx E 73 8) (nd f81 28) (JJ 0 (λo=>FX ri a1 a2 a5 a6 o.1 o.2) (λv st=>RetQ Try.prog f81 (GL a1 a2 a3 a4 a5 a6 ri v) (GZ a1 a2 a3 a4 a5 a6 ri v) .ret st) res) n (TC ri a1 a2 a5 a6 l7 l7n x8 x9 x10):=by
 intro n
 induction n with
 |zero=>
  intro l7 l7n x8 x9 x10 res hl0 hm;cases hm
 |succ n ih=>
  intro l7 l7n x8 x9 x10 res hl0 hm;subst hl0;refine zE (q_sq ?_);refine s_va 9 [(17,vb (decide ((l7.length:Int)>0)))] (q_cq hm (λhm=>?_) (λhm=>?_))
  ·refine q_sk (q_jn (ι:=(List qB)×Nat×Int×Int) (λp=>FW ri a1 a2 a5 a6 x8 p.1 p.2.1 p.2.2.1 p.2.2.2) (λp=>p.1.length=p.2.1/\KQ x8 (yM a1 a2 a5 a6 n) p.1 p.2.2.1 p.2.2.2=some res) ?_ ?_)
   ·rintro⟨l25,l25n,x26,x27⟩ ⟨el25,hm⟩;replace el25:l25.length=l25n:=el25;subst el25;show H _ (FW ri a1 a2 a5 a6 x8 l25 l25.length x26 x27) _ _;exact q_vv [] 15 [5] [(5,vi (w64 (x8+1)))] (q_hl (TC ri a1 a2 a5 a6 l25 l25.length (w64 (x8+1)) x27 x26) (ih l25 l25.length (w64 (x8+1)) x27 x26 _ rfl hm))
   ·refine q_bk 1 ?_;obtain⟨g12,hm⟩:=qU hm;refine s_vu [qi 4 g12,qd 5 dN (qW (zD g12))] 9 [17] [(6,vp 9 0)] [] [(9,bx 142 (qM (l7.getD ((w64 ((l7.length:Int)-1)).toNat) du)))] ?_;obtain⟨g13,hm⟩:=qU hm
    refine s_wu [qd 4 dN (And.intro (jE g13).2.1 (jE g13).2.2)] [.row 8 ((w64 ((l7.length:Int)-1)).toNat) (rf qM (l7.take ((w64 ((l7.length:Int)-1)).toNat)))] (o1 (tkP qM du l7 l7.length ((w64 ((l7.length:Int)-1)).toNat) (show(w64 ((l7.length:Int)-1)).toNat<=l7.length by have:=(jE g13);omega))) 10 [4] [(4,vo 8 0 5 ((w64 ((l7.length:Int)-1)).toNat))] [8] [(8,ro 0 142 5 ((w64 ((l7.length:Int)-1)).toNat) (rf qM (l7.take ((w64 ((l7.length:Int)-1)).toNat))))] (q_sq ?_);refine q_sq ?_;obtain⟨v14,h15,hm⟩:=qI hm;rcases bif_c hm with⟨b16,hm⟩|⟨b16,hm⟩
    ·refine q_vu [qd 3 (dex (cen [(0,0),(1,0),(2,0),(3,0),(4,0),(5,0)] [0,0,0,0,0,0] 4 6 (TP x8 (l7.getD ((w64 ((l7.length:Int)-1)).toNat) du) a1 a2 x9 x10 ri v14) (TA x8 (l7.getD ((w64 ((l7.length:Int)-1)).toNat) du) a1 a2 x9 x10 ri v14) [31,32,33] [0,1,2,3,4,5])) (qC0 (K:=(kx E 73 8)) ⟨[(31,vc (.yl (rc f58 506 ri) ri.b [3,5,6,7] [.bptr 1 0 0,.bptr 2 0 0,.bptr 4 0 0,.bptr 5 0 0])),(32,vi x8),(33,va [ci ((((l7.getD ((w64 ((l7.length:Int)-1)).toNat) du).rect).X).A),ci ((((l7.getD ((w64 ((l7.length:Int)-1)).toNat) du).rect).X).B),ci ((((l7.getD ((w64 ((l7.length:Int)-1)).toNat) du).rect).Y).A),ci ((((l7.getD ((w64 ((l7.length:Int)-1)).toNat) du).rect).Y).B),ci ((l7.getD ((w64 ((l7.length:Int)-1)).toNat) du).level)])],[(0,lq (rc f58 506 ri) ri.b),(1,bx 31 (qO a1)),(2,bx 137 [.fn 77 [.bptr 3 0 0]]),(3,bx 24 [tl qD du a2]),(4,bx 42 [ci x9]),(5,bx 3 [ci x10])]⟩ (opAt (rg f81 3660) 3) [(0,0),(1,0),(2,0),(3,0),(4,0),(5,0)] [0,0,0,0,0,0] 4 0 o0 rfl (NP x8 (l7.getD ((w64 ((l7.length:Int)-1)).toNat) du) a1 a2 x9 x10 ri v14 h15) (.inl rfl) (by kernel_rfl)),qf 5 b16] 10 [] [(42,vb true)] [0,4,5] [(0,lz (rc f58 506 ri) ri.b [.ret] v14.1),(4,bx 42 [ci v14.2.1]),(5,bx 3 [ci v14.2.2])] ?_
     refine EN f81 (.tmp 42) 7322 7323 (by kernel_rfl) (by kernel_rfl) ?_;obtain rfl:=oi hm;refine q_rt (wT (v14.1,v14.2.1,v14.2.2) ?_);exact q_rm
    ·refine q_wu [qd 3 (dex (cen [(0,0),(1,0),(2,0),(3,0),(4,0),(5,0)] [0,0,0,0,0,0] 4 6 (TP x8 (l7.getD ((w64 ((l7.length:Int)-1)).toNat) du) a1 a2 x9 x10 ri v14) (TA x8 (l7.getD ((w64 ((l7.length:Int)-1)).toNat) du) a1 a2 x9 x10 ri v14) [31,32,33] [0,1,2,3,4,5])) (qC0 (K:=(kx E 73 8)) ⟨[(31,vc (.yl (rc f58 506 ri) ri.b [3,5,6,7] [.bptr 1 0 0,.bptr 2 0 0,.bptr 4 0 0,.bptr 5 0 0])),(32,vi x8),(33,va [ci ((((l7.getD ((w64 ((l7.length:Int)-1)).toNat) du).rect).X).A),ci ((((l7.getD ((w64 ((l7.length:Int)-1)).toNat) du).rect).X).B),ci ((((l7.getD ((w64 ((l7.length:Int)-1)).toNat) du).rect).Y).A),ci ((((l7.getD ((w64 ((l7.length:Int)-1)).toNat) du).rect).Y).B),ci ((l7.getD ((w64 ((l7.length:Int)-1)).toNat) du).level)])],[(0,lq (rc f58 506 ri) ri.b),(1,bx 31 (qO a1)),(2,bx 137 [.fn 77 [.bptr 3 0 0]]),(3,bx 24 [tl qD du a2]),(4,bx 42 [ci x9]),(5,bx 3 [ci x10])]⟩ (opAt (rg f81 3660) 3) [(0,0),(1,0),(2,0),(3,0),(4,0),(5,0)] [0,0,0,0,0,0] 4 0 o0 rfl (NP x8 (l7.getD ((w64 ((l7.length:Int)-1)).toNat) du) a1 a2 x9 x10 ri v14 h15) (.inl rfl) (by kernel_rfl)),qf 5 b16] [.lpn 0 .ready none] (o1 (lpz_f (js:=[.ret]) b16)) 10 [] [(42,vb (decide (x8≥(a5.Nodes.length:Int))))] [4,5] [(4,bx 42 [ci v14.2.1]),(5,bx 3 [ci v14.2.2])] ?_
     refine q_cq hm (λhm=>?_) (λhm=>?_)
     ·obtain rfl:=oi hm;refine q_rt (wT (0,v14.2.1,v14.2.2) ?_);exact q_rm
     ·refine q_sk ?_;obtain⟨g18,hm⟩:=qU hm;refine s_vu [qi 3 g18] 10 [42] [(7,vp 10 0)] [] [(10,bx 117 (yH (a5.Nodes.getD x8.toNat du)))] ?_;obtain⟨v19,h20,hm⟩:=qI hm;refine s_vv [qc 2 [49] 11 (TS ((a5.Nodes.getD x8.toNat du).Kind) v19 h20)] 11 [] [(50,vb v19)] (q_cq hm (λhm=>?_) (λhm=>?_))
      ·obtain⟨v22,h23,hm⟩:=qI hm;refine s_vu [qc 4 [53,54,55] 11 (FO ((l7.getD ((w64 ((l7.length:Int)-1)).toNat) du).rect) (a5.Nodes.getD x8.toNat du) a6 v22 h23)] 11 [7,50] [(8,vp 11 0),(10,vp 13 0)] [10] [(11,bx 28 (qK v22.1)),(13,bx 28 (qK v22.2.2))] ?_;obtain⟨g24,hm⟩:=qU hm
       refine q_vu [qd 11 (drw 14 0 (rf qM [(qB.mk v22.2.2 (w64 (((l7.getD ((w64 ((l7.length:Int)-1)).toNat) du).level)+1))),(qB.mk v22.1 (w64 (((l7.getD ((w64 ((l7.length:Int)-1)).toNat) du).level)+1)))])) (litP qM du 5 (λ_=>rfl) ([(qB.mk v22.2.2 (w64 (((l7.getD ((w64 ((l7.length:Int)-1)).toNat) du).level)+1))),(qB.mk v22.1 (w64 (((l7.getD ((w64 ((l7.length:Int)-1)).toNat) du).level)+1)))]:List qB) 2 rfl),qd 12 (drw 8 1 (rf qM ((l7.take ((w64 ((l7.length:Int)-1)).toNat))++[(qB.mk v22.2.2 (w64 (((l7.getD ((w64 ((l7.length:Int)-1)).toNat) du).level)+1))),(qB.mk v22.1 (w64 (((l7.getD ((w64 ((l7.length:Int)-1)).toNat) du).level)+1)))]))) (apP qM du (l7.take ((w64 ((l7.length:Int)-1)).toNat)) ([(qB.mk v22.2.2 (w64 (((l7.getD ((w64 ((l7.length:Int)-1)).toNat) du).level)+1))),(qB.mk v22.1 (w64 (((l7.getD ((w64 ((l7.length:Int)-1)).toNat) du).level)+1)))]:List qB) ((w64 ((l7.length:Int)-1)).toNat) 2 5 40 (2<=2) (ko _) (UF rfl (show(w64 ((l7.length:Int)-1)).toNat<=l7.length by have:=(jE g13);omega)) rfl (λ_=>rfl) (yZ g24))] 14 [4,6,8,10] [(4,vo 8 1 5 ((w64 ((l7.length:Int)-1)).toNat+2))] [8,9,11,13] [(8,ro 1 142 5 ((w64 ((l7.length:Int)-1)).toNat+2) (rf qM ((l7.take ((w64 ((l7.length:Int)-1)).toNat))++[(qB.mk v22.2.2 (w64 (((l7.getD ((w64 ((l7.length:Int)-1)).toNat) du).level)+1))),(qB.mk v22.1 (w64 (((l7.getD ((w64 ((l7.length:Int)-1)).toNat) du).level)+1)))])))] ?_
       exact q_J (((l7.take ((w64 ((l7.length:Int)-1)).toNat))++[(qB.mk v22.2.2 (w64 (((l7.getD ((w64 ((l7.length:Int)-1)).toNat) du).level)+1))),(qB.mk v22.1 (w64 (((l7.getD ((w64 ((l7.length:Int)-1)).toNat) du).level)+1)))]),((w64 ((l7.length:Int)-1)).toNat+2),v14.2.2,v14.2.1) ⟨(yN (UF rfl (show(w64 ((l7.length:Int)-1)).toNat<=l7.length by have:=(jE g13);omega)) rfl),hm⟩
      ·exact q_sk (q_J ((l7.take ((w64 ((l7.length:Int)-1)).toNat)),(w64 ((l7.length:Int)-1)).toNat,v14.2.2,v14.2.1) ⟨(UF rfl (show(w64 ((l7.length:Int)-1)).toNat<=l7.length by have:=(jE g13);omega)),hm⟩)
  ·refine q_ex 0 ?_;obtain rfl:=oi hm;exact L1_mk (x10,x9) (by kernel_rfl) (by kernel_rfl)
theorem qBU (a1:Pattern) (a2:List Product) (a3:Int) (a4:Int) (a5:Pattern) (a6:Int) (ri:RI 67) (r:Nat×Int×Int) (hm:KF a1 a2 a3 a4 a5 a6=some r):CtX Try.prog globs 81 8 8 [.one (.yl (rc f58 506 ri) ri.b [3,5,6,7] [.bptr 1 0 0,.bptr 2 0 0,.bptr 4 0 0,.bptr 5 0 0]),.one (.bptr 6 0 0),.one (.bptr 7 0 0)] [(0,lq (rc f58 506 ri) ri.b),(1,bx 31 (qO a1)),(2,bx 137 [.fn 77 [.bptr 3 0 0]]),(3,bx 24 [tl qD du a2]),(4,bx 42 [ci a3]),(5,bx 3 [ci a4]),(6,bx 31 (qO a5)),(7,bx 3 [ci a6])] (GL a1 a2 a3 a4 a5 a6 ri r) (GZ a1 a2 a3 a4 a5 a6 ri r):=by
 unfold KF at hm;refine q_E f81 73 λE=>?_;refine s_vn [qd 3 (drw 8 0 (rf qM [(qB.mk a5.Frame 1)])) (litP qM du 5 (λ_=>rfl) ([(qB.mk a5.Frame 1)]:List qB) 1 rfl)] 8 ⟨[(0,vc (.yl (rc f58 506 ri) ri.b [3,5,6,7] [.bptr 1 0 0,.bptr 2 0 0,.bptr 4 0 0,.bptr 5 0 0])),(1,vp 6 0),(2,vp 7 0),(4,vo 8 0 5 1)],[(0,lq (rc f58 506 ri) ri.b),(1,bx 31 (qO a1)),(2,bx 137 [.fn 77 [.bptr 3 0 0]]),(3,bx 24 [tl qD du a2]),(4,bx 42 [ci a3]),(5,bx 3 [ci a4]),(6,bx 31 (qO a5)),(7,bx 3 [ci a6]),(8,ro 0 142 5 1 (rf qM [(qB.mk a5.Frame 1)]))]⟩ (s_va 9 [(5,vi 0)] ?_);obtain⟨u32,h31,hm⟩:=qI hm
 refine yO (nd f81 28) 0 (by kernel_rfl) FUEL (λo=>FX ri a1 a2 a5 a6 o.1 o.2) (λv st=>RetQ Try.prog f81 (GL a1 a2 a3 a4 a5 a6 ri v) (GZ a1 a2 a3 a4 a5 a6 ri v) .ret st) u32 (q_hl (TC ri a1 a2 a5 a6 ([(qB.mk a5.Frame 1)]:List qB) 1 0 a3 a4) (CX E ri a1 a2 a3 a4 a5 a6 FUEL ([(qB.mk a5.Frame 1)]:List qB) 1 0 a3 a4 u32 rfl h31)) ?_ ?_
 ·rintro v33 rfl st hr;obtain rfl:=oi hm;exact hr
 ·rintro o30 rfl;replace hm:_=some r:=hm;obtain rfl:=oi hm;exact q_rm
def CC (a1:Pattern) (a2:Int) (a3:List Product) (r:Int):V:=vi r
def ON (a1:Pattern) (a2:Int) (a3:List Product) (r:Int):List (Nat×(Nat×O)):=[(0,bx 24 [tl qD du a3])]
def qB4 (a1:Pattern) (a2:Int) (a3:List Product) (x8:Bool):St:=
 ⟨[(1,vi a2),(3,vp 1 0),(5,vp 2 0),(6,vp 3 0),(21,vb x8)],[(0,bx 24 [tl qD du a3]),(1,bx 31 (qO a1)),(2,bx 137 [.fn 77 [.bptr 0 0 0]]),(3,bx 42 [ci 0])]⟩
theorem qEa (a1:Pattern) (a2:Int) (a3:List Product) (r:Int) (hm:NZ a1 a2 a3=some r):CtX Try.prog globs 58 1 1 [.agg (qO a1),.one (ci a2),.one (.fn 77 [.bptr 0 0 0])] [(0,bx 24 [tl qD du a3])] (CC a1 a2 a3 r) (ON a1 a2 a3 r):=by
 unfold NZ at hm;refine q_E f58 67 λE=>?_;refine s_vn [] 1 ⟨[(1,vi a2),(3,vp 1 0),(5,vp 2 0),(6,vp 3 0)],[(0,bx 24 [tl qD du a3]),(1,bx 31 (qO a1)),(2,bx 137 [.fn 77 [.bptr 0 0 0]]),(3,bx 42 [ci 0])]⟩ (q_sq ?_);obtain⟨v4,h5,hm⟩:=qI hm;refine s_vv [qc 2 [13] 4 (HS a1.Frame v4 h5)] 4 [] [(15,vb (!v4))] (q_cq hm (λhm=>?_) (λhm=>?_))
 ·refine s_vu [] 4 [1,3,5,15] [] [1,2,3] [(3,bx 42 [ci 19])] ?_;obtain rfl:=oi hm;exact q_rt q_rm
 ·refine q_sk (q_sq ?_);refine q_jn (qB4 a1 a2 a3) (λp=>JA a1 a2 a3 p=some r) ?_ ?_
  ·rintro x8 hm;refine q_cq hm (λhm=>?_) (λhm=>?_)
   ·refine s_vu [] 4 [1,3,5,21] [] [1,2,3] [(3,bx 42 [ci 9])] ?_;obtain rfl:=oi hm;exact q_rt q_rm
   ·refine q_sk (q_sq ?_);refine s_vv [] 4 [21] [(25,vb (decide ((a1.Nodes.length:Int)>127)))] (q_cq hm (λhm=>?_) (λhm=>?_))
    ·refine s_vu [] 4 [1,3,5,25] [] [1,2,3] [(3,bx 42 [ci 4])] ?_;obtain rfl:=oi hm;exact q_rt q_rm
    ·refine q_sk (s_vu [] 4 [25] [(7,vp 4 0)] [] [(4,bx 3 [ci 0])] ?_);refine q_sq ?_;obtain⟨v11,h12,hm⟩:=qI hm;refine s_vu [qc 2 [26,27] 5 (BX a1 a2 v11 h12)] 5 [1] [(28,vc (.fn 81 [.bptr 5 0 0,.bptr 6 0 0]))] [] [(5,bx 31 (qO v11.1)),(6,bx 3 [ci v11.2])] (q_bk 0 ?_);obtain⟨v13,h14,hm⟩:=qI hm;refine q_rf (.tmp 28) [3,5,6,7] 7 [(7,0),(1,0),(2,0),(0,0),(3,0),(4,0),(5,0),(6,0)] [0,0,0,0,0,0,0,0] 0 8 [.ret] v13.1 0 ⟨[(3,vp 1 0),(6,vp 3 0),(7,vp 4 0)],[(0,bx 24 [tl qD du a3]),(1,bx 31 (qO a1)),(3,bx 42 [ci v13.2.1]),(4,bx 3 [ci v13.2.2])]⟩ (λri=>qBU a1 a3 0 0 v11.1 v11.2 ri v13 h14) ?_
     rcases bif_c hm with⟨b15,hm⟩|⟨b15,hm⟩
     ·refine JQ_n b15 (q_sq ?_);refine s_vu [] 8 [3,7] [(66,vb (decide (v13.2.2<(a1.Nodes.length:Int))))] [1,4] [] (q_cq hm (λhm=>?_) (λhm=>?_))
      ·refine s_vu [] 8 [66] [] [3] [(3,bx 42 [ci 4])] ?_;obtain rfl:=oi hm;exact q_rt q_rm
      ·refine q_sk (s_vu [] 8 [66] [] [3] [(3,bx 42 [ci 0])] ?_);obtain rfl:=oi hm;exact q_rt q_rm
     ·rcases bif_c hm with⟨b16,hm⟩|⟨b16,hm⟩
      ·refine JQ_j 0 .ret b16 (by kernel_rfl) ?_;obtain rfl:=oi hm;exact q_rt q_rm
      ·cases hm
  ·rcases bif_c hm with⟨b7,hm⟩|⟨b7,hm⟩
   ·exact q_vv [qf 2 b7] 4 [15] [(21,vb true)] (q_J (true) hm)
   ·exact q_vv [qf 2 b7] 4 [15] [(21,vb (decide (a2>20)))] (q_J (decide (a2>20)) hm)
def qFX (r:Int):V:=vi r
def qF1 (r:Int):List (Nat×(Nat×O)):=[]
theorem qD1 (a1:Pattern) (a2:List Product) (a3:Int) (r:Int) (hm:PD a1 a2 a3=some r):CtX Try.prog globs 57 0 0 [.agg (qO a1),.one (tl qD du a2),.one (ci a3)] [] (qFX r) (qF1 r):=by
 unfold PD at hm;refine q_E f57 11 λE=>?_;refine s_vn [] 0 ⟨[(2,vi a3),(3,vp 0 0),(4,vp 1 0)],[(0,bx 31 (qO a1)),(1,bx 24 [tl qD du a2])]⟩ ?_;obtain⟨v4,h5,hm⟩:=qI hm;refine s_vn [qd 3 (dex (cen [(1,0)] [0] 1 1 (CC a1 a3 a2 v4) (ON a1 a3 a2 v4) [7,8,9] [1])) (zF (K:=(kx E 11 0)) ⟨[(7,va (qO a1)),(8,vi a3),(9,vc (.fn 77 [.bptr 1 0 0]))],[(1,bx 24 [tl qD du a2])]⟩ (opAt (rg f57 6) 3) [(1,0)] [0] 1 o0 rfl (qEa a1 a3 a2 v4 h5) (.inl rfl) (by kernel_rfl))] 2 ⟨[(6,vi v4)],[]⟩ ?_;obtain rfl:=oi hm;exact q_rt q_rm
open Go.Proofs Go.Proofs.Try
def qFo (r:Int):V:=vi r
def qFv (r:Int):List (Nat×(Nat×O)):=[]
theorem qEq (a1:List qG) (a2:List qH) (a3:List Product) (a4:Pattern) (a5:Saw) (a6:Rates) (r:Int) (hm:FB a1 a2 a3 a4 a5 a6=some r):CtX Try.prog globs 44 0 0 [.one (tl qF du a1),.one (tl qE du a2),.one (tl qD du a3),.agg (qO a4),.agg (OU a5),.agg (DZ a6)] [] (qFo r) (qFv r):=by
 unfold FB at hm;refine q_E f44 43 λE=>?_;refine s_vn [] 0 ⟨[(0,vc (tl qF du a1)),(1,vc (tl qE du a2)),(2,vc (tl qD du a3)),(9,vp 0 0),(10,vp 1 0),(11,vp 2 0)],[(0,bx 31 (qO a4)),(1,bx 33 (OU a5)),(2,bx 35 (DZ a6))]⟩ (q_sq ?_);obtain⟨v7,h8,hm⟩:=qI hm;refine s_vv [qc 1 [17] 3 (XI a1 v7 h8)] 3 [0] [(13,vi v7)] (s_va 3 [(20,vb (v7 !=0))] ?_);refine q_cq hm (λhm=>?_) (λhm=>?_)
 ·refine s_vn [] 3 ⟨[(12,vi v7)],[]⟩ ?_;obtain rfl:=oi hm;exact q_rt q_rm
 ·refine q_sk (q_sq ?_);obtain⟨v10,h11,hm⟩:=qI hm;refine s_vv [qc 1 [22] 3 (VV a2 v10 h11)] 3 [1,13,20] [(14,vi v10)] (s_va 3 [(25,vb (v10 !=0))] ?_);refine q_cq hm (λhm=>?_) (λhm=>?_)
  ·refine s_vn [] 3 ⟨[(12,vi v10)],[]⟩ ?_;obtain rfl:=oi hm;exact q_rt q_rm
  ·refine q_sk (q_sq ?_);obtain⟨v13,h14,hm⟩:=qI hm;refine s_vv [qc 1 [27] 3 (FN a3 v13 h14)] 3 [14,25] [(15,vi v13)] (s_va 3 [(30,vb (v13 !=0))] ?_);refine q_cq hm (λhm=>?_) (λhm=>?_)
   ·refine s_vn [] 3 ⟨[(12,vi v13)],[]⟩ ?_;obtain rfl:=oi hm;exact q_rt q_rm
   ·refine q_sk (q_sq ?_);obtain⟨v16,h17,hm⟩:=qI hm;refine s_vu [qc 2 [32,33] 3 (qGg a5 a6 v16 h17)] 3 [11,15,30] [(16,vi v16)] [2] [] (s_va 3 [(36,vb (v16 !=0))] ?_);refine q_cq hm (λhm=>?_) (λhm=>?_)
    ·refine s_vn [] 3 ⟨[(12,vi v16)],[]⟩ ?_;obtain rfl:=oi hm;exact q_rt q_rm
    ·refine q_sk ?_;obtain⟨v19,h20,hm⟩:=qI hm;refine s_vn [qc 4 [38,39,41] 3 (qD1 a4 a3 a5.Kerf v19 h20)] 3 ⟨[(12,vi v19)],[]⟩ ?_;obtain rfl:=oi hm;exact q_rt q_rm
def qCi (r:Int):V:=vi r
def qCm (r:Int):List (Nat×(Nat×O)):=[]
def qAI (x4:Bool):St:=
 ⟨[(10,vb x4)],[]⟩
theorem qBZ (a1:Rect) (a2:Int) (r:Int) (hm:KE a1 a2=some r):CtX Try.prog globs 59 0 0 [.agg (qK a1),.one (ci a2)] [] (qCi r) (qCm r):=by
 unfold KE at hm;refine q_E f59 11 λE=>?_;refine s_vn [] 0 ⟨[(1,vi a2)],[]⟩ (q_sq ?_);refine q_jn (qAI) (λp=>KH p=some r) ?_ ?_
 ·rintro x4 hm;refine q_cq hm (λhm=>?_) (λhm=>?_)
  ·refine s_vn [] 1 ⟨[(4,vi 8)],[]⟩ ?_;obtain rfl:=oi hm;exact q_rt q_rm
  ·refine q_sk (s_vn [] 1 ⟨[(4,vi 0)],[]⟩ ?_);obtain rfl:=oi hm;exact q_rt q_rm
 ·rcases bif_c hm with⟨b3,hm⟩|⟨b3,hm⟩
  ·exact q_vn [qf 2 b3] 1 ⟨[(10,vb true)],[]⟩ (q_J (true) hm)
  ·exact q_vn [qf 2 b3] 1 ⟨[(10,vb (decide (a2≥16)))],[]⟩ (q_J (decide (a2≥16)) hm)
noncomputable def XT (a1:Int) (a2:qB) (a3:Pattern) (a4:Int) (a5:Int) (ri:RI 67) (r:Nat×Int×Int):V:=vb (Nat.beq r.1 0)
noncomputable def XW (a1:Int) (a2:qB) (a3:Pattern) (a4:Int) (a5:Int) (ri:RI 67) (r:Nat×Int×Int):List (Nat×(Nat×O)):=[(0,lz (rc f58 506 ri) ri.b [.ret] r.1),(1,bx 31 (qO a3)),(2,bx 137 [.fn 59 []]),(3,bx 42 [ci r.2.1]),(4,bx 3 [ci r.2.2])]
noncomputable def HP (ri:RI 67) (a1:Int) (a3:Pattern) (a4:Int) (a5:Int) (x15:Int):St:=
 ⟨[(6,vp 3 0),(7,vp 4 0),(8,vi a1),(11,vi x15)],[(0,ly (rc f58 506 ri) ri.b),(1,bx 31 (qO a3)),(2,bx 137 [.fn 59 []]),(3,bx 42 [ci a4]),(4,bx 3 [ci a5])]⟩
noncomputable def HO (ri:RI 67) (a1:Int) (a2:qB) (a3:Pattern) (a4:Int) (a5:Int) (v8:Int) (x11:Bool):St:=
 ⟨[(5,vp 2 0),(6,vp 3 0),(7,vp 4 0),(8,vi a1),(9,vp 5 0),(10,vp 6 0),(11,vi v8),(50,vb x11)],[(0,ly (rc f58 506 ri) ri.b),(1,bx 31 (qO a3)),(2,bx 137 [.fn 59 []]),(3,bx 42 [ci a4]),(4,bx 3 [ci a5]),(5,bx 142 (qM a2)),(6,bx 117 (yH (a3.Nodes.getD a1.toNat du)))]⟩
theorem VX (a1:Int) (a2:qB) (a3:Pattern) (a4:Int) (a5:Int) (ri:RI 67) (r:Nat×Int×Int) (hm:wZ a1 a2 a3 a4 a5=some r):CtR Try.prog globs (rc f58 506 ri) ri.b [3,5,6,7] 5 5 [.one (ci a1),.agg (qM a2),.one (.bptr 1 0 0),.one (.bptr 2 0 0),.one (.bptr 3 0 0),.one (.bptr 4 0 0)] [(0,lq (rc f58 506 ri) ri.b),(1,bx 31 (qO a3)),(2,bx 137 [.fn 59 []]),(3,bx 42 [ci a4]),(4,bx 3 [ci a5])] (XT a1 a2 a3 a4 a5 ri r) (XW a1 a2 a3 a4 a5 ri r):=by
 unfold wZ at hm;refine q_R f58 506 67 ri λE=>?_;refine q_sq (q_vn [] 5 ⟨[(3,vp 1 0),(5,vp 2 0),(6,vp 3 0),(7,vp 4 0),(8,vi a1),(30,va (qM a2))],[(0,lq (rc f58 506 ri) ri.b),(1,bx 31 (qO a3)),(2,bx 137 [.fn 59 []]),(3,bx 42 [ci a4]),(4,bx 3 [ci a5])]⟩ ?_);refine q_vu [] 5 [30] [(9,vp 5 0)] [] [(5,bx 142 (qM a2))] (q_rd ⟨[(3,vp 1 0),(5,vp 2 0),(6,vp 3 0),(7,vp 4 0),(8,vi a1),(9,vp 5 0)],[(0,ly (rc f58 506 ri) ri.b),(1,bx 31 (qO a3)),(2,bx 137 [.fn 59 []]),(3,bx 42 [ci a4]),(4,bx 3 [ci a5]),(5,bx 142 (qM a2))]⟩ ?_);refine q_bk 1 (q_sq ?_)
 refine q_sq (q_va 6 [(35,vb (decide (a1≥(a3.Nodes.length:Int))))] ?_);refine q_cq hm (λhm=>?_) (λhm=>?_)
 ·refine q_sq (q_vu [] 6 [3,5,6,7,8,9,35] [] [3,5] [(3,bx 42 [ci 3])] ?_);obtain rfl:=oi hm;exact q_rt q_rq
 ·refine q_sk (q_sq ?_);obtain⟨g7,hm⟩:=qU hm;refine q_vu [qi 3 g7] 6 [3,35] [(10,vp 6 0)] [] [(6,bx 117 (yH (a3.Nodes.getD a1.toNat du)))] (q_sq ?_);obtain⟨v8,h9,hm⟩:=qI hm;refine q_vv [qc 2 [41,42] 7 (LW (a3.Nodes.getD a1.toNat du) a2 v8 h9)] 7 [] [(11,vi v8)] (q_jn (HP ri a1 a3 a4 a5) (λp=>ZQ a1 a4 a5 p=some r) ?_ ?_)
  ·rintro x15 hm;refine q_sq (q_sq ?_);refine q_va 7 [(58,vb (x15 !=0))] (q_cq hm (λhm=>?_) (λhm=>?_))
   ·refine q_sq (q_vu [] 7 [6,7,8,11,58] [] [3] [(3,bx 42 [ci x15])] ?_);obtain rfl:=oi hm;exact q_rt q_rq
   ·refine q_sk (q_vu [] 7 [6,7,8,11,58] [] [4] [(4,bx 3 [ci (w64 (a1+1))])] ?_);obtain rfl:=oi hm;exact q_rq
  ·refine q_jn (HO ri a1 a2 a3 a4 a5 v8) (λp=>ZR a1 a2 a3 a4 a5 v8 p=some r) ?_ ?_
   ·rintro x11 hm;refine q_cq hm (λhm=>?_) (λhm=>?_)
    ·obtain⟨v13,h14,hm⟩:=qI hm;exact q_vu [qk 5 [51,53,55] 7 ⟨[(51,vc (.fn 59 [])),(53,va (qK a2.rect)),(55,vi ((a3.Nodes.getD a1.toNat du).At))],[]⟩ (qBZ a2.rect ((a3.Nodes.getD a1.toNat du).At) v13 h14)] 7 [5,9,10,11,50] [(11,vi v13)] [5,6] [] (q_J (v13) hm)
    ·exact q_sk (q_J (v8) hm)
   ·rcases bif_c hm with⟨b10,hm⟩|⟨b10,hm⟩
    ·exact q_vv [qf 2 b10] 7 [] [(50,vb (((a3.Nodes.getD a1.toNat du).Kind)==1))] (q_J (((a3.Nodes.getD a1.toNat du).Kind)==1) hm)
    ·exact q_vv [qf 2 b10] 7 [] [(50,vb false)] (q_J (false) hm)
end Saw
end Go.SL

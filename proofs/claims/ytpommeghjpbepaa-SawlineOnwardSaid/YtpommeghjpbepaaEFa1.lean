import Derived.Test.YtpommeghjpbepaaEBase
set_option linter.unusedVariables false
set_option linter.unusedSimpArgs false
namespace Go.SL
namespace Saw
open Go.Proofs Go.Proofs.Try
set_option maxHeartbeats 4000000
set_option maxRecDepth 100000
def qJZ (r:Span):V:=va (qN r)
def qJW (r:Span):List (Nat×(Nat×O)):=[]
theorem RP (a1:Span) (a2:Span) (r:Span) (hm:XD a1 a2=some r):CtX Try.prog globs 33 0 0 [.agg (qN a1),.agg (qN a2)] [] (qJZ r) (qJW r):=by
 unfold XD at hm;refine q_E f33 24 λE=>?_;refine s_vn [] 0 ⟨[(2,vp 0 0),(3,vp 1 0),(4,vp 2 0)],[(0,bx 26 (qN a1)),(1,bx 26 (qN a2)),(2,bx 26 [ci 0,ci 0])]⟩ (s_vu [] 3 [2,3] [(5,vp 3 0)] [0,1] [(3,bx 26 [ci (imax a1.A a2.A),ci (imin a1.B a2.B)])] ?_);refine q_sq (s_va 4 [(21,vb (decide ((imax a1.A a2.A)≥(imin a1.B a2.B))))] ?_);refine q_cq hm (λhm=>?_) (λhm=>?_)
 ·refine s_vu [] 4 [5,21] [] [3] [] ?_;obtain rfl:=oi hm;exact q_rt q_rm
 ·refine q_sk (s_vn [] 4 ⟨[(4,vp 2 0)],[(2,bx 26 [ci (imax a1.A a2.A),ci (imin a1.B a2.B)])]⟩ ?_);obtain rfl:=oi hm;exact q_rt q_rm
def qJJ (r:Int):V:=vc (.val (.int .u64 r))
def qJK (r:Int):List (Nat×(Nat×O)):=[]
theorem qJD (a1:Span) (r:Int) (hm:CH a1=some r):CtX Try.prog globs 52 0 0 [.agg (qN a1)] [] (qJJ r) (qJK r):=by
 unfold CH at hm;refine q_E f52 15 λE=>?_;refine s_vn [] 0 ⟨[(1,vp 0 0)],[(0,bx 26 (qN a1))]⟩ (q_sq ?_);refine s_va 1 [(7,vb (decide (a1.A≥a1.B)))] (q_cq hm (λhm=>?_) (λhm=>?_))
 ·refine s_vn [] 1 ⟨[(2,vc (.val (.int .u64 0)))],[]⟩ ?_;obtain rfl:=oi hm;exact q_rt q_rm
 ·refine q_sk (s_vn [] 1 ⟨[(2,vc (.val (.int .u64 (IntKind.u64.wrap ((IntKind.u64.wrap (a1.B))-(IntKind.u64.wrap (a1.A)))))))],[]⟩ ?_);obtain rfl:=oi hm;exact q_rt q_rm
def qGe (r:Int):V:=vi r
def qGS (r:Int):List (Nat×(Nat×O)):=[]
theorem qFh (a1:Int) (r:Int) (hm:LY a1=some r):CtX Try.prog globs 51 0 0 [.one (.val (.int .u64 a1))] [] (qGe r) (qGS r):=by
 unfold LY at hm;refine q_E f51 6 λE=>?_;refine s_vn [] 0 ⟨[(0,vc (.val (.int .u64 a1)))],[]⟩ (s_vn [] 0 ⟨[(2,vi (w64 (imin a1 9223372036854775807)))],[]⟩ ?_);obtain rfl:=oi hm;exact q_rt q_rm
open Go.Proofs Go.Proofs.Try
def qKL (r:Int):V:=vi r
def qKM (r:Int):List (Nat×(Nat×O)):=[]
theorem UY (a1:Span) (r:Int) (hm:YO a1=some r):CtX Try.prog globs 32 0 0 [.agg (qN a1)] [] (qKL r) (qKM r):=by
 unfold YO at hm;refine q_E f32 6 λE=>?_;refine s_vn [] 0 ⟨[(1,vp 0 0)],[(0,bx 26 (qN a1))]⟩ ?_;obtain⟨v2,h3,hm⟩:=qI hm;obtain⟨v4,h5,hm⟩:=qI hm;refine s_vn [qc 1 [3] 1 (qJD a1 v2 h3),qc 2 [4] 1 (qFh v2 v4 h5)] 1 ⟨[(2,vi v4)],[]⟩ ?_;obtain rfl:=oi hm;exact q_rt q_rm
def qDn (r:Span):V:=va (qN r)
def qDu (r:Span):List (Nat×(Nat×O)):=[]
theorem qCP (a1:Int) (a2:Int) (r:Span) (hm:PV a1 a2=some r):CtX Try.prog globs 53 0 0 [.one (ci a1),.one (ci a2)] [] (qDn r) (qDu r):=by
 unfold PV at hm;refine q_E f53 10 λE=>?_;refine s_vn [] 0 ⟨[(0,vi a1),(1,vi a2),(4,vp 0 0)],[(0,bx 26 [ci 0,ci 0])]⟩ (s_vu [] 1 [0,1] [] [0] [(0,bx 26 [ci (w64 (10*a1)),ci (w64 (10*a2))])] ?_);obtain rfl:=oi hm;exact q_rt q_rm
def qDA (r:Bool):V:=vb r
def qDp (r:Bool):List (Nat×(Nat×O)):=[]
def qBl (x3:Bool):St:=
 ⟨[(2,vb x3)],[]⟩
theorem qCG (a1:Span) (r:Bool) (hm:PM a1=some r):CtX Try.prog globs 91 0 0 [.agg (qN a1)] [] (qDA r) (qDp r):=by
 unfold PM at hm;refine q_E f91 17 λE=>?_;refine s_vn [] 0 ⟨[(1,vp 0 0)],[(0,bx 26 (qN a1))]⟩ (q_jn (qBl) (λp=>PG p=some r) ?_ ?_)
 ·rintro x3 hm;obtain rfl:=oi hm;exact q_rt q_rm
 ·rcases bif_c hm with⟨b2,hm⟩|⟨b2,hm⟩
  ·exact q_vn [qf 6 b2] 1 ⟨[(2,vb (decide ((imax a1.A a1.B)<=600)))],[]⟩ (q_J (decide ((imax a1.A a1.B)<=600)) hm)
  ·exact q_vn [qf 6 b2] 1 ⟨[(2,vb false)],[]⟩ (q_J (false) hm)
open Go.Proofs Go.Proofs.Try
def qDr (r:Bool):V:=vb r
def qDe (r:Bool):List (Nat×(Nat×O)):=[]
theorem JX (a1:Span) (r:Bool) (hm:YJ a1=some r):CtX Try.prog globs 92 0 0 [.agg (qN a1)] [] (qDr r) (qDe r):=by
 unfold YJ at hm;refine q_E f92 8 λE=>?_;refine s_vn [] 0 ⟨[(1,vp 0 0)],[(0,bx 26 (qN a1))]⟩ (s_vn [] 1 ⟨[(2,vb (decide (a1.A≥a1.B)))],[]⟩ ?_);obtain rfl:=oi hm;exact q_rt q_rm
def PQ (r:Int):V:=vi r
def PK (r:Int):List (Nat×(Nat×O)):=[]
def GM (a1:qP) (x6:Int):St:=
 ⟨[(1,vp 0 0),(3,vi (a1.Rows.length:Int)),(24,vc (tl qN du a1.Rows)),(25,vi (a1.Rows.length:Int)),(26,vi x6)],[(0,bx 91 (jR a1))]⟩
def HV (a1:qP):St:=
 ⟨[(1,vp 0 0),(3,vi (a1.Rows.length:Int))],[(0,bx 91 (jR a1))]⟩
def qCV (a1:qP) (x27:Int) (x33:Bool):St:=
 ⟨[(54,vc (tl qN du a1.Rows)),(55,vi (a1.Rows.length:Int)),(56,vi x27),(66,vb x33)],[]⟩
def DJ (a1:qP) (x27:Int):St:=
 ⟨[(54,vc (tl qN du a1.Rows)),(55,vi (a1.Rows.length:Int)),(56,vi x27)],[]⟩
def SC :St:=
 ⟨[],[]⟩
def qCI (a1:qP) (x25:Bool):St:=
 ⟨[(1,vp 0 0),(52,vb x25)],[(0,bx 91 (jR a1))]⟩
def qB6 (a1:qP) (x4:Bool):St:=
 ⟨[(1,vp 0 0),(3,vi (a1.Rows.length:Int)),(22,vb x4)],[(0,bx 91 (jR a1))]⟩
theorem qBN (E:Env 0) (a1:qP):∀(n:Nat) (x6:Int) (res:Int⊕Unit),ZB a1 n x6=some res->HL (kx E 68 0) (nd f72 500) (JJ 0 (λo=>HV a1) (λv st=>RetQ Try.prog f72 (PQ v) (PK v) .ret st) res) n (GM a1 x6):=by
 intro n
 induction n with
 |zero=>
  intro x6 res hm;cases hm
 |succ n ih=>
  intro x6 res hm;refine zE (s_va 1 [(27,vb (decide (x6<(a1.Rows.length:Int))))] ?_);refine q_sq (q_cq hm (λhm=>?_) (λhm=>?_))
  ·refine q_sk (q_sq ?_);refine q_bk 1 ?_;obtain⟨g8,hm⟩:=qU hm;refine s_vu [qi 0 g8] 1 [27] [(5,vp 1 0)] [] [(1,bx 26 (qN (a1.Rows.getD x6.toNat du)))] ?_;obtain⟨v9,h10,hm⟩:=qI hm;refine s_vu [qc 1 [30] 2 (qCG (a1.Rows.getD x6.toNat du) v9 h10)] 2 [5] [(32,vb (!v9))] [1] [] (q_cq hm (λhm=>?_) (λhm=>?_))
   ·refine s_vn [] 2 ⟨[(2,vi 9)],[]⟩ ?_;obtain rfl:=oi hm;refine q_rt (wT 9 ?_);exact q_rm
   ·refine q_sk (q_vv [] 2 [26,32] [(26,vi (w64 (x6+1)))] ?_);exact q_hl (GM a1 (w64 (x6+1))) (ih (w64 (x6+1)) _ hm)
  ·refine q_ex 0 ?_;obtain rfl:=oi hm;exact q_l1 ()
theorem qBP (E:Env 0) (a1:qP):∀(n:Nat) (x27:Int) (res:Int⊕Unit),yA a1 n x27=some res->HL (kx E 68 0) (nd f72 4084) (JJ 2 (λo=>SC) (λv st=>RetQ Try.prog f72 (PQ v) (PK v) .ret st) res) n (DJ a1 x27):=by
 intro n
 induction n with
 |zero=>
  intro x27 res hm;cases hm
 |succ n ih=>
  intro x27 res hm;refine zE (s_va 1 [(57,vb (decide (x27<(a1.Rows.length:Int))))] ?_);refine q_sq (q_cq hm (λhm=>?_) (λhm=>?_))
  ·refine q_sk (q_sq ?_);refine q_bk 3 ?_;obtain⟨g29,hm⟩:=qU hm;refine s_vu [qi 0 g29] 1 [57] [(7,vp 1 0)] [] [(1,bx 26 (qN (a1.Rows.getD x27.toNat du)))] (q_jn (qCV a1 x27) (λp=>UA x27 (yA a1 n) p=some res) ?_ ?_)
   ·rintro x33 hm;refine q_cq hm (λhm=>?_) (λhm=>?_)
    ·refine s_vn [] 2 ⟨[(2,vi 19)],[]⟩ ?_;obtain rfl:=oi hm;refine q_rt (wT 19 ?_);exact q_rm
    ·refine q_sk (q_vv [] 2 [56,66] [(56,vi (w64 (x27+1)))] ?_);exact q_hl (DJ a1 (w64 (x27+1))) (ih (w64 (x27+1)) _ hm)
   ·obtain⟨v30,h31,hm⟩:=qI hm;rcases bif_c hm with⟨b32,hm⟩|⟨b32,hm⟩
    ·exact q_vu [qc 1 [60] 2 (JX (a1.Rows.getD x27.toNat du) v30 h31),qf 2 b32] 2 [7] [(66,vb (!((((a1.Rows.getD x27.toNat du).A)==0)&&((((a1.Rows.getD x27.toNat du).B)==0)&&true))))] [1] [] (q_J (!((((a1.Rows.getD x27.toNat du).A)==0)&&((((a1.Rows.getD x27.toNat du).B)==0)&&true))) hm)
    ·exact q_vu [qc 1 [60] 2 (JX (a1.Rows.getD x27.toNat du) v30 h31),qf 2 b32] 2 [7] [(66,vb false)] [1] [] (q_J (false) hm)
  ·refine q_ex 2 ?_;obtain rfl:=oi hm;exact q_l1 ()
theorem AS (a1:qP) (r:Int) (hm:KZ a1=some r):CtX Try.prog globs 72 0 0 [.agg (jR a1)] [] (PQ r) (PK r):=by
 unfold KZ at hm;refine q_E f72 68 λE=>?_;refine s_vn [] 0 ⟨[(1,vp 0 0)],[(0,bx 91 (jR a1))]⟩ (s_va 1 [(3,vi (a1.Rows.length:Int))] ?_);refine q_sq (s_va 1 [(12,vb (decide ((a1.Rows.length:Int)>120)))] ?_);refine q_cq hm (λhm=>?_) (λhm=>?_)
 ·refine s_vn [] 1 ⟨[(2,vi 4)],[]⟩ ?_;obtain rfl:=oi hm;exact q_rt q_rm
 ·refine q_sk (q_sq ?_);refine q_jn (qB6 a1) (λp=>TV a1 p=some r) ?_ ?_
  ·rintro x4 hm;refine q_cq hm (λhm=>?_) (λhm=>?_)
   ·refine s_vn [] 1 ⟨[(2,vi 9)],[]⟩ ?_;obtain rfl:=oi hm;exact q_rt q_rm
   ·refine q_sk (q_sq ?_);refine s_vv [] 1 [22] [(24,vc (tl qN du a1.Rows)),(25,vi (a1.Rows.length:Int)),(26,vi 0)] ?_;obtain⟨u14,h13,hm⟩:=qI hm;refine yO (nd f72 500) 0 (by kernel_rfl) FUEL (λo=>HV a1) (λv st=>RetQ Try.prog f72 (PQ v) (PK v) .ret st) u14 (q_hl (GM a1 0) (qBN E a1 FUEL 0 u14 h13)) ?_ ?_
    ·rintro v15 rfl st hr;obtain rfl:=oi hm;exact hr
    ·rintro o12 rfl;replace hm:_=some r:=hm;refine q_sq (s_va 1 [(35,vb ((a1.Rows.length:Int)==0))] ?_);refine q_cq hm (λhm=>?_) (λhm=>?_)
     ·refine q_sq (s_vn [] 1 ⟨[(38,vb (a1.Low !=0))],[]⟩ ?_);refine q_cq hm (λhm=>?_) (λhm=>?_)
      ·refine s_vn [] 1 ⟨[(2,vi 19)],[]⟩ ?_;obtain rfl:=oi hm;exact q_rt q_rm
      ·refine q_sk (s_vn [] 1 ⟨[(2,vi 0)],[]⟩ ?_);obtain rfl:=oi hm;exact q_rt q_rm
     ·refine q_sk (q_sq ?_);refine q_jn (qCI a1) (λp=>UH a1 p=some r) ?_ ?_
      ·rintro x25 hm;refine q_cq hm (λhm=>?_) (λhm=>?_)
       ·refine s_vn [] 1 ⟨[(2,vi 19)],[]⟩ ?_;obtain rfl:=oi hm;exact q_rt q_rm
       ·refine q_sk (q_sq ?_);refine s_vn [] 1 ⟨[(54,vc (tl qN du a1.Rows)),(55,vi (a1.Rows.length:Int)),(56,vi 0)],[]⟩ ?_;obtain⟨u37,h36,hm⟩:=qI hm;refine yO (nd f72 4084) 2 (by kernel_rfl) FUEL (λo=>SC) (λv st=>RetQ Try.prog f72 (PQ v) (PK v) .ret st) u37 (q_hl (DJ a1 0) (qBP E a1 FUEL 0 u37 h36)) ?_ ?_
        ·rintro v38 rfl st hr;obtain rfl:=oi hm;exact hr
        ·rintro o35 rfl;replace hm:_=some r:=hm;refine s_vn [] 1 ⟨[(2,vi 0)],[]⟩ ?_;obtain rfl:=oi hm;exact q_rt q_rm
      ·obtain⟨g18,hm⟩:=qU hm;obtain⟨v19,h20,hm⟩:=qI hm;rcases bif_c hm with⟨b21,hm⟩|⟨b21,hm⟩
       ·exact q_vv [qi 2 g18,qc 4 [42] 1 (JX (a1.Rows.getD (0:Int).toNat du) v19 h20),qf 5 b21] 1 [3,35] [(52,vb true)] (q_J (true) hm)
       ·obtain⟨g22,hm⟩:=qU hm;obtain⟨v23,h24,hm⟩:=qI hm;exact q_vv [qi 2 g18,qc 4 [42] 1 (JX (a1.Rows.getD (0:Int).toNat du) v19 h20),qf 5 b21,qi 10 g22,qk 12 [44,50] 1 ⟨[(44,vb false),(50,va [ci ((a1.Rows.getD (w64 ((a1.Rows.length:Int)-1)).toNat du).A),ci ((a1.Rows.getD (w64 ((a1.Rows.length:Int)-1)).toNat du).B)])],[]⟩ (JX (a1.Rows.getD (w64 ((a1.Rows.length:Int)-1)).toNat du) v23 h24)] 1 [3,35] [(52,vb v23)] (q_J (v23) hm)
  ·rcases bif_c hm with⟨b3,hm⟩|⟨b3,hm⟩
   ·exact q_vv [qf 3 b3] 1 [12] [(22,vb true)] (q_J (true) hm)
   ·exact q_vv [qf 3 b3] 1 [12] [(22,vb (decide (a1.Low>(w64 (60-(a1.Rows.length:Int))))))] (q_J (decide (a1.Low>(w64 (60-(a1.Rows.length:Int))))) hm)
def qFJ (r:qP):V:=va (jR r)
def qE9 (r:qP):List (Nat×(Nat×O)):=[]
theorem II (a1:qP) (r:qP) (hm:KY a1=some r):CtX Try.prog globs 50 0 0 [.agg (jR a1)] [] (qFJ r) (qE9 r):=by
 unfold KY at hm;refine q_E f50 8 λE=>?_;refine s_vn [] 0 ⟨[(1,vp 0 0),(2,vp 1 0)],[(0,bx 91 (jR a1)),(1,bx 91 [ci 0,.emp])]⟩ (q_sq ?_);obtain⟨v2,h3,hm⟩:=qI hm;refine s_vv [qc 1 [3] 2 (AS a1 v2 h3)] 2 [] [(5,vb (v2 !=0))] (q_cq hm (λhm=>?_) (λhm=>?_))
 ·refine s_vu [] 2 [1,5] [] [0] [] (q_fu [.ownB 1 1 2 26 2 (rf qN [])] [] [] [1] [(1,bx 91 [ci 0,.own 2 0 2 0]),(2,ro 0 26 2 0 (rf qN []))] o0 ?_);refine q_fu [.len 2 (([]:List Span).length),.frz 2] [] [] [1,2] [(1,bx 91 [ci 0,tl qN du ([]:List Span)])] (o1 (And.intro (And.intro (show 0=([]:List Span).length from rfl) (show 0=([]:List Span).length from rfl)) (ko (([]:List Span).length)))) ?_;obtain rfl:=oi hm;exact q_rt q_rm
 ·refine q_sk (s_vn [] 2 ⟨[(2,vp 1 0)],[(1,bx 91 (jR a1))]⟩ ?_);obtain rfl:=oi hm;exact q_rt q_rm
open Go.Proofs Go.Proofs.Try
def qEc (r:Int):V:=vi r
def qDZ (r:Int):List (Nat×(Nat×O)):=[]
def VC (a2:Rect) (v3:qP) (x5:Int) (x6:Int):St:=
 ⟨[(2,vp 0 0),(3,vp 1 0),(5,vi x5),(12,vc (tl qN du v3.Rows)),(13,vi (v3.Rows.length:Int)),(14,vi x6)],[(0,bx 91 (jR v3)),(1,bx 28 (qK a2))]⟩
def MD (x19:Int):St:=
 ⟨[(5,vi x19)],[]⟩
theorem qBg (E:Env 0) (a2:Rect) (v3:qP):∀(n:Nat) (x5:Int) (x6:Int) (res:Int),WD a2 v3 n x5 x6=some res->HL (kx E 44 0) (nd f34 244) (jS 0 MD res) n (VC a2 v3 x5 x6):=by
 intro n
 induction n with
 |zero=>
  intro x5 x6 res hm;cases hm
 |succ n ih=>
  intro x5 x6 res hm;refine zE (s_va 2 [(15,vb (decide (x6<(v3.Rows.length:Int))))] ?_);refine q_sq (q_cq hm (λhm=>?_) (λhm=>?_))
  ·refine q_sk (q_sq ?_);refine q_bk 1 ?_;obtain⟨g8,hm⟩:=qU hm;refine s_vu [qi 1 g8] 2 [15] [(6,vi x6),(7,vp 2 0)] [] [(2,bx 26 (qN (v3.Rows.getD x6.toNat du)))] ?_;obtain⟨v9,h10,hm⟩:=qI hm;refine s_vu [qc 9 [22,27] 3 (qCP (w64 (v3.Low+x6)) (w64 ((w64 (v3.Low+x6))+1)) v9 h10)] 3 [6] [(8,vp 3 0)] [] [(3,bx 26 (qN v9))] ?_;obtain⟨v11,h12,hm⟩:=qI hm;obtain⟨v13,h14,hm⟩:=qI hm;obtain⟨v15,h16,hm⟩:=qI hm;obtain⟨v17,h18,hm⟩:=qI hm
   refine q_du [qc 4 [30,32] 4 (RP (v3.Rows.getD x6.toNat du) a2.X v11 h12),qc 5 [33] 4 (UY v11 v13 h14),qc 9 [35,37] 4 (RP v9 a2.Y v15 h16),qc 10 [38] 4 (UY v15 v17 h18)] [0,0,0,4,14,30,0,0,128,510,1022,2046,4095,8191] 4 [5,7,8] [(5,vi (w64 (x5+(w64 (v13*v17)))))] [2,3] [] (q_vv [] 4 [14] [(14,vi (w64 (x6+1)))] ?_);exact q_hl (VC a2 v3 (w64 (x5+(w64 (v13*v17)))) (w64 (x6+1))) (ih (w64 (x5+(w64 (v13*v17)))) (w64 (x6+1)) _ hm)
  ·refine q_ex 0 ?_;obtain rfl:=oi hm;exact q_l0
theorem EA (a1:qP) (a2:Rect) (r:Int) (hm:XG a1 a2=some r):CtX Try.prog globs 34 0 0 [.agg (jR a1),.agg (qK a2)] [] (qEc r) (qDZ r):=by
 unfold XG at hm;refine q_E f34 44 λE=>?_;refine s_vn [] 0 ⟨[(2,vp 0 0),(3,vp 1 0)],[(0,bx 91 (jR a1)),(1,bx 28 (qK a2))]⟩ ?_;obtain⟨v3,h4,hm⟩:=qI hm;refine s_vu [qc 1 [9] 2 (II a1 v3 h4)] 2 [] [] [0] [(0,bx 91 (jR v3))] (s_va 2 [(5,vi 0)] ?_);refine q_sq (s_va 2 [(12,vc (tl qN du v3.Rows)),(13,vi (v3.Rows.length:Int)),(14,vi 0)] ?_);obtain⟨o20,h21,hm⟩:=qI hm;refine jN (nd f34 244) 0 (by kernel_rfl) FUEL MD o20 (q_hl (VC a2 v3 0 0) (qBg E a2 v3 FUEL 0 0 o20 h21)) (s_vn [] 2 ⟨[(4,vi o20)],[]⟩ ?_);obtain rfl:=oi hm;exact q_rt q_rm
def SI (r:Int):V:=vi r
def SM (r:Int):List (Nat×(Nat×O)):=[]
def qDX (a1:List qG) (x4:Int) (x5:Int) (x13:Bool):St:=
 ⟨[(3,vi x4),(5,vp 0 0),(13,vc (tl qF du a1)),(14,vi (a1.length:Int)),(15,vi x5),(39,vb x13)],[(0,bx 93 (qF (a1.getD x5.toNat du)))]⟩
def FQ (a1:List qG) (x4:Int) (x5:Int):St:=
 ⟨[(3,vi x4),(13,vc (tl qF du a1)),(14,vi (a1.length:Int)),(15,vi x5)],[]⟩
def AQ :St:=
 ⟨[],[]⟩
theorem qDj (E:Env 0) (a1:List qG):∀(n:Nat) (x4:Int) (x5:Int) (res:Int⊕Unit),QI a1 n x4 x5=some res->HL (kx E 45 0) (nd f49 500) (JJ 0 (λo=>AQ) (λv st=>RetQ Try.prog f49 (SI v) (SM v) .ret st) res) n (FQ a1 x4 x5):=by
 intro n
 induction n with
 |zero=>
  intro x4 x5 res hm;cases hm
 |succ n ih=>
  intro x4 x5 res hm;refine zE (s_va 0 [(16,vb (decide (x5<(a1.length:Int))))] ?_);refine q_sq (q_cq hm (λhm=>?_) (λhm=>?_))
  ·refine q_sk (q_sq ?_);refine q_bk 1 ?_;obtain⟨g7,hm⟩:=qU hm;refine s_vu [qi 0 g7] 0 [16] [(5,vp 0 0)] [] [(0,bx 93 (qF (a1.getD x5.toNat du)))] (q_sq ?_);obtain⟨v8,h9,hm⟩:=qI hm;refine s_vv [qc 2 [20] 1 (AS ((a1.getD x5.toNat du).Sec) v8 h9)] 1 [] [(6,vi v8)] (s_va 1 [(23,vb (v8 !=0))] ?_);refine q_cq hm (λhm=>?_) (λhm=>?_)
   ·refine s_vn [] 1 ⟨[(2,vi v8)],[]⟩ ?_;obtain rfl:=oi hm;refine q_rt (wT v8 ?_);exact q_rm
   ·refine q_sk (q_sq ?_);refine s_vv [] 1 [6,23] [(29,vb ((((((a1.getD x5.toNat du).Sec).Rows).length:Nat):Int)==0))] (q_cq hm (λhm=>?_) (λhm=>?_))
    ·refine s_vn [] 1 ⟨[(2,vi 18)],[]⟩ ?_;obtain rfl:=oi hm;refine q_rt (wT 18 ?_);exact q_rm
    ·refine q_sk (q_sq ?_);refine q_jn (qDX a1 x4 x5) (λp=>DY a1 x4 x5 (QI a1 n) p=some res) ?_ ?_
     ·rintro x13 hm;refine q_cq hm (λhm=>?_) (λhm=>?_)
      ·refine s_vn [] 1 ⟨[(2,vi 9)],[]⟩ ?_;obtain rfl:=oi hm;refine q_rt (wT 9 ?_);exact q_rm
      ·refine q_sk (q_vu [] 1 [3,5,39] [(3,vi (w64 (x4+((a1.getD x5.toNat du).Len))))] [0] [] ?_);exact q_vv [] 1 [15] [(15,vi (w64 (x5+1)))] (q_hl (FQ a1 (w64 (x4+((a1.getD x5.toNat du).Len))) (w64 (x5+1))) (ih (w64 (x4+((a1.getD x5.toNat du).Len))) (w64 (x5+1)) _ hm))
     ·rcases bif_c hm with⟨b12,hm⟩|⟨b12,hm⟩
      ·exact q_vv [qf 3 b12] 1 [29] [(39,vb true)] (q_J (true) hm)
      ·exact q_vv [qf 3 b12] 1 [29] [(39,vb (decide (((a1.getD x5.toNat du).Len)>(w64 (20000-x4)))))] (q_J (decide (((a1.getD x5.toNat du).Len)>(w64 (20000-x4)))) hm)
  ·refine q_ex 0 ?_;obtain rfl:=oi hm;exact q_l1 ()
theorem XI (a1:List qG) (r:Int) (hm:XF a1=some r):CtX Try.prog globs 49 0 0 [.one (tl qF du a1)] [] (SI r) (SM r):=by
 unfold XF at hm;refine q_E f49 45 λE=>?_;refine s_vn [] 0 ⟨[(0,vc (tl qF du a1))],[]⟩ (q_sq ?_);refine s_va 0 [(9,vb ((a1.length:Int)==0))] (q_cq hm (λhm=>?_) (λhm=>?_))
 ·refine s_vn [] 0 ⟨[(2,vi 3)],[]⟩ ?_;obtain rfl:=oi hm;exact q_rt q_rm
 ·refine q_sk (q_sq ?_);refine s_vv [] 0 [9] [(12,vb (decide ((a1.length:Int)>24)))] (q_cq hm (λhm=>?_) (λhm=>?_))
  ·refine s_vn [] 0 ⟨[(2,vi 4)],[]⟩ ?_;obtain rfl:=oi hm;exact q_rt q_rm
  ·refine q_sk (s_vv [] 0 [12] [(3,vi 0)] ?_);refine q_sq (s_vv [] 0 [0] [(13,vc (tl qF du a1)),(14,vi (a1.length:Int)),(15,vi 0)] ?_);obtain⟨u17,h16,hm⟩:=qI hm;refine yO (nd f49 500) 0 (by kernel_rfl) FUEL (λo=>AQ) (λv st=>RetQ Try.prog f49 (SI v) (SM v) .ret st) u17 (q_hl (FQ a1 0 0) (qDj E a1 FUEL 0 0 u17 h16)) ?_ ?_
   ·rintro v18 rfl st hr;obtain rfl:=oi hm;exact hr
   ·rintro o15 rfl;replace hm:_=some r:=hm;refine s_vn [] 0 ⟨[(2,vi 0)],[]⟩ ?_;obtain rfl:=oi hm;exact q_rt q_rm
def qHZ (r:(List qG)):V:=vc (tl qF du r)
def qHP (r:(List qG)):List (Nat×(Nat×O)):=[]
theorem MH (a1:List qG) (r:(List qG)) (hm:PZ a1=some r):CtX Try.prog globs 29 0 0 [.one (tl qF du a1)] [] (qHZ r) (qHP r):=by
 unfold PZ at hm;refine q_E f29 7 λE=>?_;refine s_vn [] 0 ⟨[(0,vc (tl qF du a1))],[]⟩ (q_sq ?_);obtain⟨v2,h3,hm⟩:=qI hm;refine s_vv [qc 1 [3] 0 (XI a1 v2 h3)] 0 [] [(5,vb (v2 !=0))] (q_cq hm (λhm=>?_) (λhm=>?_))
 ·refine s_vn [] 0 ⟨[(2,vc (.emp))],[]⟩ (q_fn [.own 2 0 93 3 (rf qF [])] ⟨[(2,vo 0 0 3 0)],[(0,ro 0 93 3 0 (rf qF []))]⟩ o0 ?_);refine q_fn [.len 0 (([]:List qG).length),.frz 0] ⟨[(2,vc (tl qF du ([]:List qG)))],[]⟩ (o1 (And.intro (And.intro (show 0=([]:List qG).length from rfl) (show 0=([]:List qG).length from rfl)) (ko (([]:List qG).length)))) ?_;obtain rfl:=oi hm;exact q_rt q_rm
 ·refine q_sk (s_vn [] 0 ⟨[(2,vc (tl qF du a1))],[]⟩ ?_);obtain rfl:=oi hm;exact q_rt q_rm
open Go.Proofs Go.Proofs.Try
def qFN (r:(List Span)):V:=vo 0 0 2 r.length
def qFM (r:(List Span)):List (Nat×(Nat×O)):=[(0,ro 0 26 2 r.length (rf qN r))]
def GT (a1:List qG) (l3:List Span) (l3n:Nat) (x4:Int) (x5:Int):St:=
 ⟨[(3,vo 0 0 2 l3n),(4,vi x4),(10,vc (tl qF du a1)),(11,vi (a1.length:Int)),(12,vi x5)],[(0,ro 0 26 2 l3n (rf qN l3))]⟩
def SA (l9:List Span):St:=
 ⟨[(3,vo 0 0 2 l9.length)],[(0,ro 0 26 2 l9.length (rf qN l9))]⟩
theorem qBX (E:Env 0) (a1:List qG):∀(n:Nat) (l3:List Span) (l3n:Nat) (x4:Int) (x5:Int) (res:(List Span)),l3.length=l3n->JF a1 n l3 x4 x5=some res->HL (kx E 32 0) (nd f31 244) (jS 0 SA res) n (GT a1 l3 l3n x4 x5):=by
 intro n
 induction n with
 |zero=>
  intro l3 l3n x4 x5 res hl0 hm;cases hm
 |succ n ih=>
  intro l3 l3n x4 x5 res hl0 hm;subst hl0;refine zE (s_va 1 [(13,vb (decide (x5<(a1.length:Int))))] ?_);refine q_sq (q_cq hm (λhm=>?_) (λhm=>?_))
  ·refine q_sk (q_sq ?_);refine q_bk 1 ?_;obtain⟨g7,hm⟩:=qU hm;refine s_vu [qi 1 g7] 1 [13] [(5,vi x5),(6,vp 1 0)] [] [(1,bx 93 (qF (a1.getD x5.toNat du)))] ?_;obtain⟨g8,hm⟩:=qU hm
   refine s_vu [qi 8 g8,qd 9 (drw 0 0 (rf qN (l3.set x5.toNat (Span.mk x4 (w64 (x4+((a1.getD x5.toNat du).Len))))))) (stP qN du (Span.mk x4 (w64 (x4+((a1.getD x5.toNat du).Len)))) l3 l3.length x5.toNat 0 [ci x4,ci (w64 (x4+((a1.getD x5.toNat du).Len)))] rfl (qW (zD g8)) rfl)] 2 [5] [] [0] [(0,ro 0 26 2 l3.length (rf qN (l3.set x5.toNat (Span.mk x4 (w64 (x4+((a1.getD x5.toNat du).Len)))))))] (q_vu [] 2 [4,6] [(4,vi (w64 (x4+((a1.getD x5.toNat du).Len))))] [1] [] ?_)
   exact q_vv [] 2 [12] [(12,vi (w64 (x5+1)))] (q_hl (GT a1 (l3.set x5.toNat (Span.mk x4 (w64 (x4+((a1.getD x5.toNat du).Len))))) l3.length (w64 (x4+((a1.getD x5.toNat du).Len))) (w64 (x5+1))) (ih (l3.set x5.toNat (Span.mk x4 (w64 (x4+((a1.getD x5.toNat du).Len))))) l3.length (w64 (x4+((a1.getD x5.toNat du).Len))) (w64 (x5+1)) _ (qAm rfl) hm))
  ·refine q_ex 0 ?_;obtain rfl:=oi hm;exact q_l0
theorem qEb (a1:List qG) (r:(List Span)) (hm:UN a1=some r):CtX Try.prog globs 31 0 0 [.one (tl qF du a1)] [] (qFN r) (qFM r):=by
 unfold UN at hm;refine q_E f31 32 λE=>?_;refine s_vn [] 0 ⟨[(0,vc (tl qF du a1))],[]⟩ ?_;obtain⟨g2,hm⟩:=qU hm;refine s_vu [qd 2 (drw 0 0 (rf qN (List.replicate ((a1.length:Int).toNat) (Span.mk 0 0)))) (mkP qN du (Span.mk 0 0) (a1.length:Int) 16 [ci 0,ci 0] (mkOk_of g2) rfl)] 0 [] [(3,vo 0 0 2 ((a1.length:Int).toNat))] [] [(0,ro 0 26 2 ((a1.length:Int).toNat) (rf qN (List.replicate ((a1.length:Int).toNat) (Span.mk 0 0))))] (s_va 1 [(4,vi 0)] ?_);refine q_sq (s_vv [] 1 [0] [(10,vc (tl qF du a1)),(11,vi (a1.length:Int)),(12,vi 0)] ?_);obtain⟨o10,h11,hm⟩:=qI hm
 refine jN (nd f31 244) 0 (by kernel_rfl) FUEL SA o10 (q_hl (GT a1 (List.replicate ((a1.length:Int).toNat) (Span.mk 0 0)) ((a1.length:Int).toNat) 0 0) (qBX E a1 FUEL (List.replicate ((a1.length:Int).toNat) (Span.mk 0 0)) ((a1.length:Int).toNat) 0 0 o10 len_rep h11)) (s_vv [] 1 [3] [(2,vo 0 0 2 o10.length)] ?_);obtain rfl:=oi hm;exact q_rt q_rm
def qGU (r:Int):V:=vi r
def qGI (r:Int):List (Nat×(Nat×O)):=[]
def qDq (a2:Box) (v3:(List qG)) (v5:(List Span)) (x8:Int) (x19:Int):St:=
 ⟨[(0,vc (tl qF du v3)),(3,vp 0 0),(5,vi x19),(12,vo 1 0 2 v5.length),(13,vi (v5.length:Int)),(14,vi x8)],[(0,bx 58 (WN a2)),(1,ro 0 26 2 v5.length (rf qN v5))]⟩
def BZ (a2:Box) (v3:(List qG)) (v5:(List Span)) (x7:Int) (x8:Int):St:=
 ⟨[(0,vc (tl qF du v3)),(3,vp 0 0),(5,vi x7),(12,vo 1 0 2 v5.length),(13,vi (v5.length:Int)),(14,vi x8)],[(0,bx 58 (WN a2)),(1,ro 0 26 2 v5.length (rf qN v5))]⟩
def SR (x20:Int):St:=
 ⟨[(5,vi x20)],[]⟩
theorem qCA (E:Env 0) (a2:Box) (v3:(List qG)) (v5:(List Span)):∀(n:Nat) (x7:Int) (x8:Int) (res:Int),QR a2 v3 v5 n x7 x8=some res->HL (kx E 43 0) (nd f14 244) (jS 0 SR res) n (BZ a2 v3 v5 x7 x8):=by
 intro n
 induction n with
 |zero=>
  intro x7 x8 res hm;cases hm
 |succ n ih=>
  intro x7 x8 res hm;refine zE (s_va 2 [(15,vb (decide (x8<(v5.length:Int))))] ?_);refine q_sq (q_cq hm (λhm=>?_) (λhm=>?_))
  ·refine q_sk (q_jn (qDq a2 v3 v5 x8) (λp=>VO x8 (QR a2 v3 v5 n) p=some res) ?_ ?_)
   ·rintro x19 hm;exact q_vv [] 3 [14] [(14,vi (w64 (x8+1)))] (q_hl (BZ a2 v3 v5 x19 (w64 (x8+1))) (ih x19 (w64 (x8+1)) _ hm))
   ·refine q_bk 1 ?_;obtain⟨g10,hm⟩:=qU hm;refine s_vu [qi 1 g10,qd 2 dN (qW (zD g10))] 2 [15] [(6,vi x8),(7,vp 2 0)] [] [(2,bx 26 (qN (v5.getD x8.toNat du)))] ?_;obtain⟨v11,h12,hm⟩:=qI hm;obtain⟨v13,h14,hm⟩:=qI hm;refine s_vu [qc 3 [19,21] 3 (RP (v5.getD x8.toNat du) a2.Z v11 h12),qc 4 [22] 3 (UY v11 v13 h14)] 3 [7] [(8,vi v13)] [2] [] (s_va 3 [(25,vb (decide (v13>0)))] ?_);refine q_cq hm (λhm=>?_) (λhm=>?_)
    ·obtain⟨g16,hm⟩:=qU hm;obtain⟨v17,h18,hm⟩:=qI hm;exact q_du [qi 4 g16,qc 12 [32,37] 3 (EA ((v3.getD x8.toNat du).Sec) (Rect.mk a2.X a2.Y) v17 h18)] [0,0,0,0,12,28,60,0,128,0,512,1920,4092,8190,16383,32767] 3 [5,6,8,25] [(5,vi (w64 (x7+(w64 (v13*v17)))))] [] [] (q_J (w64 (x7+(w64 (v13*v17)))) hm)
    ·exact q_sk (q_J (x7) hm)
  ·refine q_ex 0 ?_;obtain rfl:=oi hm;exact q_l0
theorem qF5 (a1:List qG) (a2:Box) (r:Int) (hm:DE a1 a2=some r):CtX Try.prog globs 14 0 0 [.one (tl qF du a1),.agg (WN a2)] [] (qGU r) (qGI r):=by
 unfold DE at hm;refine q_E f14 43 λE=>?_;refine s_vn [] 0 ⟨[(0,vc (tl qF du a1)),(3,vp 0 0)],[(0,bx 58 (WN a2))]⟩ ?_;obtain⟨v3,h4,hm⟩:=qI hm;refine s_vv [qc 1 [9] 1 (MH a1 v3 h4)] 1 [0] [(0,vc (tl qF du v3))] (s_va 1 [(5,vi 0)] ?_);refine q_sq ?_;obtain⟨v5,h6,hm⟩:=qI hm;refine s_vu [qc 1 [11] 1 (qEb v3 v5 h6)] 1 [] [(12,vo 1 0 2 v5.length),(13,vi (v5.length:Int)),(14,vi 0)] [] [(1,ro 0 26 2 v5.length (rf qN v5))] ?_;obtain⟨o21,h22,hm⟩:=qI hm;refine jN (nd f14 244) 0 (by kernel_rfl) FUEL SR o21 (q_hl (BZ a2 v3 v5 0 0) (qCA E a2 v3 v5 FUEL 0 0 o21 h22)) (s_vn [] 2 ⟨[(4,vi o21)],[]⟩ ?_)
 obtain rfl:=oi hm;exact q_rt q_rm
def yQ (a1:Rect) (a2:Span) (a3:List qG) (a4:List qH) (a5:List Product) (a6:Int) (a7:Int) (a8:Int) (a9:Int) (a10:Int) (a11:Int) (a12:Int) (a13:Int) (a14:List Int) (a15:List qA) (a16:List Rect) (r:Int):V:=vi r
def yR (a1:Rect) (a2:Span) (a3:List qG) (a4:List qH) (a5:List Product) (a6:Int) (a7:Int) (a8:Int) (a9:Int) (a10:Int) (a11:Int) (a12:Int) (a13:Int) (a14:List Int) (a15:List qA) (a16:List Rect) (r:Int):List (Nat×(Nat×O)):=[(0,bx 78 [tl qF du a3,tl qE du a4,tl qD du a5,ci a6,ci a7,ci a8,ci a9,ci a10,ci a11,ci a12,ci a13,.own 1 0 24 a15.length,tl qJ du a14,.own 2 0 4 a16.length]),(1,ro 0 80 24 a15.length (rf qC a15)),(2,ro 0 28 4 a16.length (rf qK a16))]
theorem QU (a1:Rect) (a2:Span) (a3:List qG) (a4:List qH) (a5:List Product) (a6:Int) (a7:Int) (a8:Int) (a9:Int) (a10:Int) (a11:Int) (a12:Int) (a13:Int) (a14:List Int) (a15:List qA) (a16:List Rect) (r:Int) (hm:wP a1 a2 a3 a4 a5 a6 a7 a8 a9 a10 a11 a12 a13 a14 a15 a16=some r):CtX Try.prog globs 26 3 3 [.one (.bptr 0 0 0),.agg (qK a1),.agg (qN a2)] [(0,bx 78 [tl qF du a3,tl qE du a4,tl qD du a5,ci a6,ci a7,ci a8,ci a9,ci a10,ci a11,ci a12,ci a13,.own 1 0 24 a15.length,tl qJ du a14,.own 2 0 4 a16.length]),(1,ro 0 80 24 a15.length (rf qC a15)),(2,ro 0 28 4 a16.length (rf qK a16))] (yQ a1 a2 a3 a4 a5 a6 a7 a8 a9 a10 a11 a12 a13 a14 a15 a16 r) (yR a1 a2 a3 a4 a5 a6 a7 a8 a9 a10 a11 a12 a13 a14 a15 a16 r):=by
 unfold wP at hm;refine q_E f26 18 λE=>?_;refine s_vn [] 3 ⟨[(0,vp 0 0),(4,vp 3 0),(5,vp 4 0)],[(0,bx 78 [tl qF du a3,tl qE du a4,tl qD du a5,ci a6,ci a7,ci a8,ci a9,ci a10,ci a11,ci a12,ci a13,.own 1 0 24 a15.length,tl qJ du a14,.own 2 0 4 a16.length]),(1,ro 0 80 24 a15.length (rf qC a15)),(2,ro 0 28 4 a16.length (rf qK a16)),(3,bx 28 (qK a1)),(4,bx 26 (qN a2))]⟩ ?_;obtain⟨v17,h18,hm⟩:=qI hm;refine s_du [qc 10 [10,16] 5 (qF5 a3 (Box.mk a1.X a1.Y a2) v17 h18)] [0,1,3,7,0,16,0,64,0,496,1023,2047] 5 [0,4,5] [(6,vi v17)] [3,4] [] ?_;obtain rfl:=oi hm;exact q_rt q_rm
open Go.Proofs Go.Proofs.Try
def BN (r:Span):V:=va (qN r)
def BL (r:Span):List (Nat×(Nat×O)):=[]
theorem EY (a1:jQ) (a2:Span) (r:Span) (hm:YH a1 a2=some r):CtX Try.prog globs 27 0 0 [.agg (RN a1),.agg (qN a2)] [] (BN r) (BL r):=by
 unfold YH at hm;refine q_E f27 14 λE=>?_;refine s_vn [] 0 ⟨[(2,vp 0 0),(3,vp 1 0),(4,vp 2 0)],[(0,bx 85 (RN a1)),(1,bx 26 (qN a2)),(2,bx 26 [ci 0,ci 0])]⟩ (s_vn [] 3 ⟨[(4,vp 2 0)],[(2,bx 26 [ci (imax 0 (w64 (a2.A-a1.kerf))),ci a2.A])]⟩ ?_);obtain rfl:=oi hm;exact q_rt q_rm
def GI (r:Span):V:=va (qN r)
def GA (r:Span):List (Nat×(Nat×O)):=[]
theorem EM (a1:jQ) (a2:Span) (r:Span) (hm:JT a1 a2=some r):CtX Try.prog globs 28 0 0 [.agg (RN a1),.agg (qN a2)] [] (GI r) (GA r):=by
 unfold JT at hm;refine q_E f28 16 λE=>?_;refine s_vn [] 0 ⟨[(2,vp 0 0),(3,vp 1 0),(4,vp 2 0)],[(0,bx 85 (RN a1)),(1,bx 26 (qN a2)),(2,bx 26 [ci 0,ci 0])]⟩ (s_vn [] 3 ⟨[(4,vp 2 0)],[(2,bx 26 [ci a2.B,ci (imin (w64 (a2.B+a1.kerf)) a1.length)])]⟩ ?_);obtain rfl:=oi hm;exact q_rt q_rm
def qGL (r:Int):V:=vi r
def qGx (r:Int):List (Nat×(Nat×O)):=[]
def BY (v2:qP) (x4:Int) (x5:Int):St:=
 ⟨[(3,vi x4),(8,vc (tl qN du v2.Rows)),(9,vi (v2.Rows.length:Int)),(10,vi x5)],[]⟩
def SY (x10:Int):St:=
 ⟨[(3,vi x10)],[]⟩
theorem qCf (E:Env 0) (v2:qP):∀(n:Nat) (x4:Int) (x5:Int) (res:Int),YE v2 n x4 x5=some res->HL (kx E 21 0) (nd f30 116) (jS 0 SY res) n (BY v2 x4 x5):=by
 intro n
 induction n with
 |zero=>
  intro x4 x5 res hm;cases hm
 |succ n ih=>
  intro x4 x5 res hm;refine zE (s_va 1 [(11,vb (decide (x5<(v2.Rows.length:Int))))] ?_);refine q_sq (q_cq hm (λhm=>?_) (λhm=>?_))
  ·refine q_sk (q_sq ?_);refine q_bk 1 ?_;obtain⟨g7,hm⟩:=qU hm;refine s_vu [qi 0 g7] 1 [11] [(5,vp 1 0)] [] [(1,bx 26 (qN (v2.Rows.getD x5.toNat du)))] ?_;obtain⟨v8,h9,hm⟩:=qI hm;refine q_vu [qc 2 [15] 2 (UY (v2.Rows.getD x5.toNat du) v8 h9)] 2 [3,5] [(3,vi (w64 (x4+v8)))] [1] [] (q_vv [] 2 [10] [(10,vi (w64 (x5+1)))] ?_);exact q_hl (BY v2 (w64 (x4+v8)) (w64 (x5+1))) (ih (w64 (x4+v8)) (w64 (x5+1)) _ hm)
  ·refine q_ex 0 ?_;obtain rfl:=oi hm;exact q_l0
theorem qEW (a1:qP) (r:Int) (hm:GO a1=some r):CtX Try.prog globs 30 0 0 [.agg (jR a1)] [] (qGL r) (qGx r):=by
 unfold GO at hm;refine q_E f30 21 λE=>?_;refine s_vn [] 0 ⟨[(1,vp 0 0)],[(0,bx 91 (jR a1))]⟩ (s_va 1 [(3,vi 0)] ?_);refine q_sq ?_;obtain⟨v2,h3,hm⟩:=qI hm;refine s_vu [qc 1 [6] 1 (II a1 v2 h3)] 1 [1] [(8,vc (tl qN du v2.Rows)),(9,vi (v2.Rows.length:Int)),(10,vi 0)] [0] [] ?_;obtain⟨o11,h12,hm⟩:=qI hm;refine jN (nd f30 116) 0 (by kernel_rfl) FUEL SY o11 (q_hl (BY v2 0 0) (qCf E v2 FUEL 0 0 o11 h12)) (s_vn [] 1 ⟨[(2,vi (w64 (10*o11)))],[]⟩ ?_);obtain rfl:=oi hm;exact q_rt q_rm
open Go.Proofs Go.Proofs.Try
def qGf (r:Int):V:=vi r
def qGh (r:Int):List (Nat×(Nat×O)):=[]
def NE (v2:(List qG)) (x4:Int) (x5:Int):St:=
 ⟨[(3,vi x4),(7,vc (tl qF du v2)),(8,vi (v2.length:Int)),(9,vi x5)],[]⟩
def ST (x10:Int):St:=
 ⟨[(3,vi x10)],[]⟩
theorem qB2 (E:Env 0) (v2:(List qG)):∀(n:Nat) (x4:Int) (x5:Int) (res:Int),YD v2 n x4 x5=some res->HL (kx E 23 0) (nd f12 116) (jS 0 ST res) n (NE v2 x4 x5):=by
 intro n
 induction n with
 |zero=>
  intro x4 x5 res hm;cases hm
 |succ n ih=>
  intro x4 x5 res hm;refine zE (s_va 0 [(10,vb (decide (x5<(v2.length:Int))))] ?_);refine q_sq (q_cq hm (λhm=>?_) (λhm=>?_))
  ·refine q_sk (q_sq ?_);refine q_bk 1 ?_;obtain⟨g7,hm⟩:=qU hm;refine s_vu [qi 0 g7] 0 [10] [(5,vp 0 0)] [] [(0,bx 93 (qF (v2.getD x5.toNat du)))] ?_;obtain⟨v8,h9,hm⟩:=qI hm;refine q_du [qc 5 [17] 1 (qEW ((v2.getD x5.toNat du).Sec) v8 h9)] [0,0,2,0,8,24,62,127,255] 1 [3,5] [(3,vi (w64 (x4+(w64 (((v2.getD x5.toNat du).Len)*v8)))))] [0] [] (q_vv [] 1 [9] [(9,vi (w64 (x5+1)))] ?_);exact q_hl (NE v2 (w64 (x4+(w64 (((v2.getD x5.toNat du).Len)*v8)))) (w64 (x5+1))) (ih (w64 (x4+(w64 (((v2.getD x5.toNat du).Len)*v8)))) (w64 (x5+1)) _ hm)
  ·refine q_ex 0 ?_;obtain rfl:=oi hm;exact q_l0
theorem qF0 (a1:List qG) (r:Int) (hm:GK a1=some r):CtX Try.prog globs 12 0 0 [.one (tl qF du a1)] [] (qGf r) (qGh r):=by
 unfold GK at hm;refine q_E f12 23 λE=>?_;refine s_vn [] 0 ⟨[(0,vc (tl qF du a1))],[]⟩ (s_va 0 [(3,vi 0)] ?_);refine q_sq ?_;obtain⟨v2,h3,hm⟩:=qI hm;refine s_vv [qc 1 [6] 0 (MH a1 v2 h3)] 0 [0] [(7,vc (tl qF du v2)),(8,vi (v2.length:Int)),(9,vi 0)] ?_;obtain⟨o11,h12,hm⟩:=qI hm;refine jN (nd f12 116) 0 (by kernel_rfl) FUEL ST o11 (q_hl (NE v2 0 0) (qB2 E v2 FUEL 0 0 o11 h12)) (s_vn [] 0 ⟨[(2,vi o11)],[]⟩ ?_);obtain rfl:=oi hm;exact q_rt q_rm
def wS (a1:List qG) (a2:List qH) (a3:List Product) (a4:Int) (a5:Int) (a6:Int) (a7:Int) (a8:Int) (a9:Int) (a10:Int) (a11:Int) (a12:List Int) (a13:List qA) (a14:List Rect) (r:(List qL)):V:=vo 3 0 9 r.length
def wR (a1:List qG) (a2:List qH) (a3:List Product) (a4:Int) (a5:Int) (a6:Int) (a7:Int) (a8:Int) (a9:Int) (a10:Int) (a11:Int) (a12:List Int) (a13:List qA) (a14:List Rect) (r:(List qL)):List (Nat×(Nat×O)):=[(0,bx 78 [tl qF du a1,tl qE du a2,tl qD du a3,ci a4,ci a5,ci a6,ci a7,ci a8,ci a9,ci a10,ci a11,.own 1 0 24 a13.length,tl qJ du a12,.own 2 0 4 a14.length]),(1,ro 0 80 24 a13.length (rf qC a13)),(2,ro 0 28 4 a14.length (rf qK a14)),(3,ro 0 60 9 r.length (rf wE r))]
def YN (a1:List qG) (a2:List qH) (a3:List Product) (a4:Int) (a5:Int) (a6:Int) (a7:Int) (a8:Int) (a9:Int) (a10:Int) (a11:Int) (a12:List Int) (a13:List qA) (a14:List Rect):St:=
 ⟨[],[(0,bx 78 [tl qF du a1,tl qE du a2,tl qD du a3,ci a4,ci a5,ci a6,ci a7,ci a8,ci a9,ci a10,ci a11,.own 1 0 24 a13.length,tl qJ du a12,.own 2 0 4 a14.length]),(1,ro 0 80 24 a13.length (rf qC a13)),(2,ro 0 28 4 a14.length (rf qK a14))]⟩
def GF (a1:List qG) (a2:List qH) (a3:List Product) (a4:Int) (a5:Int) (a6:Int) (a7:Int) (a8:Int) (a9:Int) (a10:Int) (a11:Int) (a12:List Int) (a13:List qA) (a14:List Rect) (x16:Int) (l21:List qL) (l21n:Nat):St:=
 (YN a1 a2 a3 a4 a5 a6 a7 a8 a9 a10 a11 a12 a13 a14).up [] [(3,vo 3 0 9 l21n),(11,vo 1 0 24 a13.length),(12,vi (a13.length:Int)),(13,vi x16)] [] [(3,ro 0 60 9 l21n (rf wE l21))]
def XQ (a1:List qG) (a2:List qH) (a3:List Product) (a4:Int) (a5:Int) (a6:Int) (a7:Int) (a8:Int) (a9:Int) (a10:Int) (a11:Int) (a12:List Int) (a13:List qA) (a14:List Rect) (l15:List qL) (l15n:Nat) (x16:Int):St:=
 (YN a1 a2 a3 a4 a5 a6 a7 a8 a9 a10 a11 a12 a13 a14).up [] [(3,vo 3 0 9 l15n),(11,vo 1 0 24 a13.length),(12,vi (a13.length:Int)),(13,vi x16)] [] [(3,ro 0 60 9 l15n (rf wE l15))]
def GC (a1:List qG) (a2:List qH) (a3:List Product) (a4:Int) (a5:Int) (a6:Int) (a7:Int) (a8:Int) (a9:Int) (a10:Int) (a11:Int) (a12:List Int) (a13:List qA) (a14:List Rect) (l22:List qL):St:=
 (YN a1 a2 a3 a4 a5 a6 a7 a8 a9 a10 a11 a12 a13 a14).up [] [(3,vo 3 0 9 l22.length)] [] [(3,ro 0 60 9 l22.length (rf wE l22))]
theorem EU (E:Env 3) (a1:List qG) (a2:List qH) (a3:List Product) (a4:Int) (a5:Int) (a6:Int) (a7:Int) (a8:Int) (a9:Int) (a10:Int) (a11:Int) (a12:List Int) (a13:List qA) (a14:List Rect):∀(n:Nat) (l15:List qL) (l15n:Nat) (x16:Int) (res:(List qL)),l15.length=l15n->wK a13 n l15 x16=some res->HL (kx E 26 3) (nd f13 244) (jS 0 (λo=>GC a1 a2 a3 a4 a5 a6 a7 a8 a9 a10 a11 a12 a13 a14 o) res) n (XQ a1 a2 a3 a4 a5 a6 a7 a8 a9 a10 a11 a12 a13 a14 l15 l15n x16):=by
 intro n
 induction n with
 |zero=>
  intro l15 l15n x16 res hl0 hm;cases hm
 |succ n ih=>
  intro l15 l15n x16 res hl0 hm;subst hl0;refine zE (s_va 4 [(14,vb (decide (x16<(a13.length:Int))))] ?_);refine q_sq (q_cq hm (λhm=>?_) (λhm=>?_))
  ·refine q_sk (q_jn (ι:=(List qL)×Nat) (λp=>GF a1 a2 a3 a4 a5 a6 a7 a8 a9 a10 a11 a12 a13 a14 x16 p.1 p.2) (λp=>p.1.length=p.2/\JS x16 (wK a13 n) p.1=some res) ?_ ?_)
   ·rintro⟨l21,l21n⟩ ⟨el21,hm⟩;replace el21:l21.length=l21n:=el21;subst el21;show H _ (GF a1 a2 a3 a4 a5 a6 a7 a8 a9 a10 a11 a12 a13 a14 x16 l21 l21.length) _ _;exact q_vv [] 6 [13] [(13,vi (w64 (x16+1)))] (q_hl (XQ a1 a2 a3 a4 a5 a6 a7 a8 a9 a10 a11 a12 a13 a14 l21 l21.length (w64 (x16+1))) (ih l21 l21.length (w64 (x16+1)) _ rfl hm))
   ·refine q_bk 1 ?_;obtain⟨g18,hm⟩:=qU hm;refine s_vu [qi 0 g18,qd 1 dN (qW (zD g18))] 4 [14] [(5,vp 4 0)] [] [(4,bx 80 (qC (a13.getD x16.toNat du)))] (s_va 5 [(18,vb ((a13.getD x16.toNat du).gives))] ?_);refine q_cq hm (λhm=>?_) (λhm=>?_)
    ·obtain⟨g20,hm⟩:=qU hm;exact q_vu [qd 3 (drw 5 0 (rf wE [(a13.getD x16.toNat du).board])) (litP wE du 9 (λ_=>rfl) ([(a13.getD x16.toNat du).board]:List qL) 1 rfl),qd 4 (drw 3 1 (rf wE (l15++[(a13.getD x16.toNat du).board]))) (apP wE du l15 ([(a13.getD x16.toNat du).board]:List qL) l15.length 1 9 72 (1<=1) (ko _) rfl rfl (λ_=>rfl) (yZ g20))] 5 [3,5,18] [(3,vo 3 1 9 (l15.length+1))] [3,4] [(3,ro 1 60 9 (l15.length+1) (rf wE (l15++[(a13.getD x16.toNat du).board])))] (q_J ((l15++[(a13.getD x16.toNat du).board]),(l15.length+1)) ⟨(yN rfl rfl),hm⟩)
    ·exact q_sk (q_J (l15,l15.length) ⟨rfl,hm⟩)
  ·refine q_ex 0 ?_;obtain rfl:=oi hm;exact q_l0
theorem jA (a1:List qG) (a2:List qH) (a3:List Product) (a4:Int) (a5:Int) (a6:Int) (a7:Int) (a8:Int) (a9:Int) (a10:Int) (a11:Int) (a12:List Int) (a13:List qA) (a14:List Rect) (r:(List qL)) (hm:wG a1 a2 a3 a4 a5 a6 a7 a8 a9 a10 a11 a12 a13 a14=some r):CtX Try.prog globs 13 3 3 [.one (.bptr 0 0 0)] [(0,bx 78 [tl qF du a1,tl qE du a2,tl qD du a3,ci a4,ci a5,ci a6,ci a7,ci a8,ci a9,ci a10,ci a11,.own 1 0 24 a13.length,tl qJ du a12,.own 2 0 4 a14.length]),(1,ro 0 80 24 a13.length (rf qC a13)),(2,ro 0 28 4 a14.length (rf qK a14))] (wS a1 a2 a3 a4 a5 a6 a7 a8 a9 a10 a11 a12 a13 a14 r) (wR a1 a2 a3 a4 a5 a6 a7 a8 a9 a10 a11 a12 a13 a14 r):=by
 unfold wG at hm;refine q_E f13 26 λE=>?_;refine s_vn [] 3 ⟨[(0,vp 0 0)],[(0,bx 78 [tl qF du a1,tl qE du a2,tl qD du a3,ci a4,ci a5,ci a6,ci a7,ci a8,ci a9,ci a10,ci a11,.own 1 0 24 a13.length,tl qJ du a12,.own 2 0 4 a14.length]),(1,ro 0 80 24 a13.length (rf qC a13)),(2,ro 0 28 4 a14.length (rf qK a14))]⟩ (q_sq ?_);refine s_va 3 [(7,vb false)] (qA5 f13 (.tmp 7) 26 27 (by kernel_rfl) (by kernel_rfl) ?_);refine q_sk (s_vv [] 3 [7] [(3,vc (.emp))] ?_);refine q_sq (s_vv [] 3 [0] [(11,vo 1 0 24 a13.length),(12,vi (a13.length:Int)),(13,vi 0)] ?_);refine q_fo 3 3 60 9 wE ?_
 obtain⟨o23,h24,hm⟩:=qI hm;refine jN (nd f13 244) 0 (by kernel_rfl) FUEL (λo=>GC a1 a2 a3 a4 a5 a6 a7 a8 a9 a10 a11 a12 a13 a14 o) o23 (q_hl (XQ a1 a2 a3 a4 a5 a6 a7 a8 a9 a10 a11 a12 a13 a14 ([]:List qL) 0 0) (EU E a1 a2 a3 a4 a5 a6 a7 a8 a9 a10 a11 a12 a13 a14 FUEL ([]:List qL) 0 0 o23 rfl h24)) (s_vv [] 4 [3] [(2,vo 3 0 9 o23.length)] ?_);obtain rfl:=oi hm;exact q_rt q_rm
end Saw
end Go.SL

import Derived.Test.YtpommeghjpbepaaEBase
import Derived.Test.YtpommeghjpbepaaEFa1
set_option linter.unusedVariables false
set_option linter.unusedSimpArgs false
namespace Go.SL
namespace Saw
open Go.Proofs Go.Proofs.Try
set_option maxHeartbeats 4000000
set_option maxRecDepth 100000
def qJc (r:(List qS)):V:=vo 0 0 3 r.length
def qJk (r:(List qS)):List (Nat×(Nat×O)):=[(0,ro 0 182 3 r.length (rf zD r))]
def LW (a1:List qG) (a2:Rect) (l3:List qS) (l3n:Nat) (x4:Int) (x5:Int):St:=
 ⟨[(3,vp 0 0),(5,vi (w64 ((w64 (a2.X.B-a2.X.A))*(w64 (a2.Y.B-a2.Y.A))))),(6,vo 1 0 3 l3n),(7,vi x4),(27,vc (tl qF du a1)),(28,vi (a1.length:Int)),(29,vi x5)],[(0,bx 28 (qK a2)),(1,ro 0 182 3 l3n (rf zD l3))]⟩
def ON (l12:List qS):St:=
 ⟨[(6,vo 1 0 3 l12.length)],[(1,ro 0 182 3 l12.length (rf zD l12))]⟩
theorem qEs (E:Env 0) (a1:List qG) (a2:Rect):∀(n:Nat) (l3:List qS) (l3n:Nat) (x4:Int) (x5:Int) (res:(List qS)),l3.length=l3n->KE a1 a2 n l3 x4 x5=some res->HL (kx E 61 0) (nd f85 500) (jL 0 ON res) n (LW a1 a2 l3 l3n x4 x5):=by
 intro n
 induction n with
 |zero=>
  intro l3 l3n x4 x5 res hl0 hm;cases hm
 |succ n ih=>
  intro l3 l3n x4 x5 res hl0 hm;subst hl0;refine zF (s_va 2 [(30,vb (decide (x5<(a1.length:Int))))] ?_);refine q_sq (q_cq hm (λhm=>?_) (λhm=>?_))
  ·refine q_sk (q_sq ?_);refine q_bk 1 ?_;obtain⟨g7,hm⟩:=qT hm;refine s_vu [qi 0 g7] 2 [30] [(9,vp 2 0)] [] [(2,bx 93 (qF (a1.getD x5.toNat du)))] ?_;obtain⟨v8,h9,hm⟩:=qH hm;refine s_vv [qc 4 [35,36] 3 (AU ((a1.getD x5.toNat du).Sec) a2 v8 h9)] 3 [] [(10,vi (w64 ((w64 ((w64 (a2.X.B-a2.X.A))*(w64 (a2.Y.B-a2.Y.A))))-v8)))] (s_vu [] 3 [7,9] [(11,vp 3 0)] [2] [(3,bx 26 [ci x4,ci (w64 (x4+((a1.getD x5.toNat du).Len)))])] ?_);obtain⟨g10,hm⟩:=qT hm;obtain⟨g11,hm⟩:=qT hm
   refine s_du [qd 8 dN (nz_of g10),qd 10 (drw 4 0 (rf zD [(qS.mk (Span.mk x4 (w64 (x4+((a1.getD x5.toNat du).Len)))) (w64 (Int.tdiv (w64 ((w64 ((w64 (1000*(w64 ((w64 ((w64 (a2.X.B-a2.X.A))*(w64 (a2.Y.B-a2.Y.A))))-v8))))+(w64 ((w64 (a2.X.B-a2.X.A))*(w64 (a2.Y.B-a2.Y.A))))))-1)) (w64 ((w64 (a2.X.B-a2.X.A))*(w64 (a2.Y.B-a2.Y.A)))))))])) (litP zD du 3 (λ_=>rfl) ([(qS.mk (Span.mk x4 (w64 (x4+((a1.getD x5.toNat du).Len)))) (w64 (Int.tdiv (w64 ((w64 ((w64 (1000*(w64 ((w64 ((w64 (a2.X.B-a2.X.A))*(w64 (a2.Y.B-a2.Y.A))))-v8))))+(w64 ((w64 (a2.X.B-a2.X.A))*(w64 (a2.Y.B-a2.Y.A))))))-1)) (w64 ((w64 (a2.X.B-a2.X.A))*(w64 (a2.Y.B-a2.Y.A)))))))]:List qS) 1 rfl),qd 11 (drw 1 1 (rf zD (l3++[(qS.mk (Span.mk x4 (w64 (x4+((a1.getD x5.toNat du).Len)))) (w64 (Int.tdiv (w64 ((w64 ((w64 (1000*(w64 ((w64 ((w64 (a2.X.B-a2.X.A))*(w64 (a2.Y.B-a2.Y.A))))-v8))))+(w64 ((w64 (a2.X.B-a2.X.A))*(w64 (a2.Y.B-a2.Y.A))))))-1)) (w64 ((w64 (a2.X.B-a2.X.A))*(w64 (a2.Y.B-a2.Y.A)))))))]))) (apP zD du l3 ([(qS.mk (Span.mk x4 (w64 (x4+((a1.getD x5.toNat du).Len)))) (w64 (Int.tdiv (w64 ((w64 ((w64 (1000*(w64 ((w64 ((w64 (a2.X.B-a2.X.A))*(w64 (a2.Y.B-a2.Y.A))))-v8))))+(w64 ((w64 (a2.X.B-a2.X.A))*(w64 (a2.Y.B-a2.Y.A))))))-1)) (w64 ((w64 (a2.X.B-a2.X.A))*(w64 (a2.Y.B-a2.Y.A)))))))]:List qS) l3.length 1 3 24 (1<=1) (kf _) rfl rfl (λ_=>rfl) (jQ g11))] [0,0,0,4,0,28,60,0,252,510,1022,2047,4095] 4 [6,10] [(6,vo 1 1 3 (l3.length+1))] [1] [(1,ro 1 182 3 (l3.length+1) (rf zD (l3++[(qS.mk (Span.mk x4 (w64 (x4+((a1.getD x5.toNat du).Len)))) (w64 (Int.tdiv (w64 ((w64 ((w64 (1000*(w64 ((w64 ((w64 (a2.X.B-a2.X.A))*(w64 (a2.Y.B-a2.Y.A))))-v8))))+(w64 ((w64 (a2.X.B-a2.X.A))*(w64 (a2.Y.B-a2.Y.A))))))-1)) (w64 ((w64 (a2.X.B-a2.X.A))*(w64 (a2.Y.B-a2.Y.A)))))))])))] ?_
   refine q_vu [] 5 [11] [(7,vi (w64 (x4+((a1.getD x5.toNat du).Len))))] [3] [] (q_vv [] 5 [29] [(29,vi (w64 (x5+1)))] ?_)
   exact q_hl (LW a1 a2 (l3++[(qS.mk (Span.mk x4 (w64 (x4+((a1.getD x5.toNat du).Len)))) (w64 (Int.tdiv (w64 ((w64 ((w64 (1000*(w64 ((w64 ((w64 (a2.X.B-a2.X.A))*(w64 (a2.Y.B-a2.Y.A))))-v8))))+(w64 ((w64 (a2.X.B-a2.X.A))*(w64 (a2.Y.B-a2.Y.A))))))-1)) (w64 ((w64 (a2.X.B-a2.X.A))*(w64 (a2.Y.B-a2.Y.A)))))))]) (l3.length+1) (w64 (x4+((a1.getD x5.toNat du).Len))) (w64 (x5+1))) (ih (l3++[(qS.mk (Span.mk x4 (w64 (x4+((a1.getD x5.toNat du).Len)))) (w64 (Int.tdiv (w64 ((w64 ((w64 (1000*(w64 ((w64 ((w64 (a2.X.B-a2.X.A))*(w64 (a2.Y.B-a2.Y.A))))-v8))))+(w64 ((w64 (a2.X.B-a2.X.A))*(w64 (a2.Y.B-a2.Y.A))))))-1)) (w64 ((w64 (a2.X.B-a2.X.A))*(w64 (a2.Y.B-a2.Y.A)))))))]) (l3.length+1) (w64 (x4+((a1.getD x5.toNat du).Len))) (w64 (x5+1)) _ (wR rfl rfl) hm)
  ·refine q_ex 0 ?_;obtain rfl:=oi hm;exact q_l0
theorem qHz (a1:List qG) (a2:Rect) (r:(List qS)) (hm:LB a1 a2=some r):CtX Try.prog globs 85 0 0 [.one (tl qF du a1),.agg (qK a2)] [] (qJc r) (qJk r):=by
 unfold LB at hm;refine q_E f85 61 λE=>?_;refine s_vn [] 0 ⟨[(0,vc (tl qF du a1)),(3,vp 0 0)],[(0,bx 28 (qK a2))]⟩ (s_va 1 [(5,vi (w64 ((w64 (a2.X.B-a2.X.A))*(w64 (a2.Y.B-a2.Y.A)))))] ?_);refine s_va 1 [(6,vc (.emp))] (s_va 1 [(7,vi 0)] ?_);refine q_sq (s_vv [] 1 [0] [(27,vc (tl qF du a1)),(28,vi (a1.length:Int)),(29,vi 0)] ?_);refine q_fo 6 1 182 3 zD ?_;obtain⟨o13,h14,hm⟩:=qH hm;refine jC (nd f85 500) 0 (by kernel_rfl) FUEL ON o13 (q_hl (LW a1 a2 ([]:List qS) 0 0 0) (qEs E a1 a2 FUEL ([]:List qS) 0 0 0 o13 rfl h14)) (s_vv [] 2 [6] [(4,vo 1 0 3 o13.length)] ?_);obtain rfl:=oi hm
 exact q_sw 1 0 (q_rt q_rm)
def qF0 (r:Bool):V:=vb r
def qG2 (r:Bool):List (Nat×(Nat×O)):=[]
def qDX (x5:Bool):St:=
 ⟨[(6,vb x5)],[]⟩
theorem JS (a1:Span) (a2:Int) (a3:Int) (r:Bool) (hm:XG a1 a2 a3=some r):CtX Try.prog globs 94 0 0 [.agg (qO a1),.one (ci a2),.one (ci a3)] [] (qF0 r) (qG2 r):=by
 unfold XG at hm;refine q_E f94 23 λE=>?_;refine s_vn [] 0 ⟨[(1,vi a2),(2,vi a3),(3,vp 0 0)],[(0,bx 26 (qO a1))]⟩ (q_jn (qDX) (λp=>VQ p=some r) ?_ ?_)
 ·rintro x5 hm;obtain rfl:=oi hm;exact q_rt q_rm
 ·rcases bif_c hm with⟨b4,hm⟩|⟨b4,hm⟩
  ·exact q_vn [qf 7 b4] 1 ⟨[(6,vb (decide ((imax a1.A a1.B)<=a3)))],[]⟩ (q_J (decide ((imax a1.A a1.B)<=a3)) hm)
  ·exact q_vn [qf 7 b4] 1 ⟨[(6,vb false)],[]⟩ (q_J (false) hm)
def qHp (r:Int):V:=vi r
def qHw (r:Int):List (Nat×(Nat×O)):=[]
def qEk (x23:Bool):St:=
 ⟨[(29,vb x23)],[]⟩
def qEC (a1:qJ) (x13:Bool):St:=
 ⟨[(3,vp 1 0),(15,vb x13)],[(1,bx 58 (WC a1.Box))]⟩
def qEm (a1:qJ) (x3:Bool):St:=
 ⟨[(3,vp 1 0),(6,vb x3)],[(1,bx 58 (WC a1.Box))]⟩
theorem qGo (a1:qJ) (r:Int) (hm:DT a1=some r):CtX Try.prog globs 73 0 0 [.agg (qE a1)] [] (qHp r) (qHw r):=by
 unfold DT at hm;refine q_E f73 46 λE=>?_;refine s_vn [] 0 ⟨[(1,vp 0 0)],[(0,bx 122 (qE a1))]⟩ (s_vu [] 1 [] [(3,vp 1 0)] [] [(1,bx 58 (WC a1.Box))] ?_);refine q_sq (q_bk 0 ?_);refine q_jn (qEm a1) (λp=>GX a1 p=some r) ?_ ?_
 ·rintro x3 hm;refine q_cq hm (λhm=>?_) (λhm=>?_)
  ·refine s_vn [] 2 ⟨[(2,vi 10)],[]⟩ ?_;obtain rfl:=oi hm;exact q_rt q_rm
  ·refine q_jn (qEC a1) (λp=>TC a1 p=some r) ?_ ?_
   ·rintro x13 hm;refine q_cq hm (λhm=>?_) (λhm=>?_)
    ·refine s_vn [] 2 ⟨[(2,vi 19)],[]⟩ ?_;obtain rfl:=oi hm;exact q_rt q_rm
    ·refine q_jn (qEk) (λp=>RP p=some r) ?_ ?_
     ·rintro x23 hm;refine q_cq hm (λhm=>?_) (λhm=>?_)
      ·refine s_vn [] 2 ⟨[(2,vi 9)],[]⟩ ?_;obtain rfl:=oi hm;exact q_rt q_rm
      ·refine q_sk (s_vn [] 2 ⟨[(2,vi 0)],[]⟩ ?_);obtain rfl:=oi hm;exact q_rt q_rm
     ·obtain⟨v15,h16,hm⟩:=qH hm;rcases bif_c hm with⟨b17,hm⟩|⟨b17,hm⟩
      ·exact q_vn [qk 2 [31] 2 ⟨[(31,va (qO a1.Box.X))],[]⟩ (JS a1.Box.X (-600) 600 v15 h16),qf 4 b17] 2 ⟨[(29,vb true)],[]⟩ (q_J (true) hm)
      ·obtain⟨v18,h19,hm⟩:=qH hm;rcases bif_c hm with⟨b20,hm⟩|⟨b20,hm⟩
       ·exact q_vn [qk 2 [31] 2 ⟨[(31,va (qO a1.Box.X))],[]⟩ (JS a1.Box.X (-600) 600 v15 h16),qf 4 b17,qk 7 [34,36] 2 ⟨[(34,vb false),(36,va (qO a1.Box.Y))],[]⟩ (JS a1.Box.Y (-600) 600 v18 h19),qf 10 b20] 2 ⟨[(29,vb true)],[]⟩ (q_J (true) hm)
       ·obtain⟨v21,h22,hm⟩:=qH hm;exact q_vn [qk 2 [31] 2 ⟨[(31,va (qO a1.Box.X))],[]⟩ (JS a1.Box.X (-600) 600 v15 h16),qf 4 b17,qk 7 [34,36] 2 ⟨[(34,vb false),(36,va (qO a1.Box.Y))],[]⟩ (JS a1.Box.Y (-600) 600 v18 h19),qf 10 b20,qk 13 [40,42] 2 ⟨[(40,vb false),(42,va (qO a1.Box.Z))],[]⟩ (JS a1.Box.Z 0 20000 v21 h22)] 2 ⟨[(29,vb (!v21))],[]⟩ (q_J (!v21) hm)
   ·obtain⟨v5,h6,hm⟩:=qH hm;rcases bif_c hm with⟨b7,hm⟩|⟨b7,hm⟩
    ·exact q_vv [qc 2 [17] 2 (wF a1.Box.X v5 h6),qf 3 b7] 2 [6] [(15,vb true)] (q_J (true) hm)
    ·obtain⟨v8,h9,hm⟩:=qH hm;rcases bif_c hm with⟨b10,hm⟩|⟨b10,hm⟩
     ·exact q_vv [qc 2 [17] 2 (wF a1.Box.X v5 h6),qf 3 b7,qk 6 [19,21] 2 ⟨[(19,vb false),(21,va (qO a1.Box.Y))],[]⟩ (wF a1.Box.Y v8 h9),qf 8 b10] 2 [6] [(15,vb true)] (q_J (true) hm)
     ·obtain⟨v11,h12,hm⟩:=qH hm;exact q_vv [qc 2 [17] 2 (wF a1.Box.X v5 h6),qf 3 b7,qk 6 [19,21] 2 ⟨[(19,vb false),(21,va (qO a1.Box.Y))],[]⟩ (wF a1.Box.Y v8 h9),qf 8 b10,qk 11 [24,26] 2 ⟨[(24,vb false),(26,va (qO a1.Box.Z))],[]⟩ (wF a1.Box.Z v11 h12)] 2 [6] [(15,vb v11)] (q_J (v11) hm)
 ·rcases bif_c hm with⟨b2,hm⟩|⟨b2,hm⟩
  ·exact q_vu [qf 3 b2] 2 [1] [(6,vb true)] [0] [] (q_J (true) hm)
  ·exact q_vu [qf 3 b2] 2 [1] [(6,vb (decide (a1.Kind>6)))] [0] [] (q_J (decide (a1.Kind>6)) hm)
open Go.Proofs Go.Proofs.Try
def SV (r:Int):V:=vi r
def SU (r:Int):List (Nat×(Nat×O)):=[]
def FK (a1:List qJ) (x3:Int):St:=
 ⟨[(9,vc (tl qE du a1)),(10,vi (a1.length:Int)),(11,vi x3)],[]⟩
def AT :St:=
 ⟨[],[]⟩
theorem qDW (E:Env 0) (a1:List qJ):∀(n:Nat) (x3:Int) (res:Int⊕Unit),WL a1 n x3=some res->HL (kx E 21 0) (nd f54 116) (WB 0 (λo=>AT) (λv st=>RetQ Try.prog f54 (SV v) (SU v) .ret st) res) n (FK a1 x3):=by
 intro n
 induction n with
 |zero=>
  intro x3 res hm;cases hm
 |succ n ih=>
  intro x3 res hm;refine zF (s_va 0 [(12,vb (decide (x3<(a1.length:Int))))] ?_);refine q_sq (q_cq hm (λhm=>?_) (λhm=>?_))
  ·refine q_sk (q_sq ?_);refine q_bk 1 ?_;obtain⟨g5,hm⟩:=qT hm;refine s_vu [qi 0 g5] 0 [12] [(4,vp 0 0)] [] [(0,bx 122 (qE (a1.getD x3.toNat du)))] ?_;obtain⟨v6,h7,hm⟩:=qH hm;refine s_vu [qc 1 [15] 1 (qGo (a1.getD x3.toNat du) v6 h7)] 1 [4] [(5,vi v6)] [0] [] (s_va 1 [(18,vb (v6 !=0))] ?_);refine q_cq hm (λhm=>?_) (λhm=>?_)
   ·refine s_vn [] 1 ⟨[(2,vi v6)],[]⟩ ?_;obtain rfl:=oi hm;refine q_rt (wS v6 ?_);exact q_rm
   ·refine q_sk (q_vv [] 1 [5,11,18] [(11,vi (w64 (x3+1)))] ?_);exact q_hl (FK a1 (w64 (x3+1))) (ih (w64 (x3+1)) _ hm)
  ·refine q_ex 0 ?_;obtain rfl:=oi hm;exact q_l1 ()
theorem RR (a1:List qJ) (r:Int) (hm:PB a1=some r):CtX Try.prog globs 54 0 0 [.one (tl qE du a1)] [] (SV r) (SU r):=by
 unfold PB at hm;refine q_E f54 21 λE=>?_;refine s_vn [] 0 ⟨[(0,vc (tl qE du a1))],[]⟩ (q_sq ?_);refine s_va 0 [(8,vb (decide ((a1.length:Int)>64)))] (q_cq hm (λhm=>?_) (λhm=>?_))
 ·refine s_vn [] 0 ⟨[(2,vi 4)],[]⟩ ?_;obtain rfl:=oi hm;exact q_rt q_rm
 ·refine q_sk (q_sq ?_);refine s_vn [] 0 ⟨[(9,vc (tl qE du a1)),(10,vi (a1.length:Int)),(11,vi 0)],[]⟩ ?_;obtain⟨u11,h10,hm⟩:=qH hm;refine yA (nd f54 116) 0 (by kernel_rfl) FUEL (λo=>AT) (λv st=>RetQ Try.prog f54 (SV v) (SU v) .ret st) u11 (q_hl (FK a1 0) (qDW E a1 FUEL 0 u11 h10)) ?_ ?_
  ·rintro v12 rfl st hr;obtain rfl:=oi hm;exact hr
  ·rintro o9 rfl;replace hm:_=some r:=hm;refine s_vn [] 0 ⟨[(2,vi 0)],[]⟩ ?_;obtain rfl:=oi hm;exact q_rt q_rm
def qGO (r:Bool):V:=vb r
def qGk (r:Bool):List (Nat×(Nat×O)):=[]
def qC1 (x3:Bool):St:=
 ⟨[(2,vb x3)],[]⟩
theorem VO (a1:Int) (r:Bool) (hm:PX a1=some r):CtX Try.prog globs 95 0 0 [.one (.val (.int .u8 a1))] [] (qGO r) (qGk r):=by
 unfold PX at hm;refine q_E f95 9 λE=>?_;refine s_vn [] 0 ⟨[(0,vc (.val (.int .u8 a1)))],[]⟩ (q_jn (qC1) (λp=>VC p=some r) ?_ ?_)
 ·rintro x3 hm;obtain rfl:=oi hm;exact q_rt q_rm
 ·rcases bif_c hm with⟨b2,hm⟩|⟨b2,hm⟩
  ·exact q_vn [qf 2 b2] 0 ⟨[(2,vb (decide (a1<=122)))],[]⟩ (q_J (decide (a1<=122)) hm)
  ·exact q_vn [qf 2 b2] 0 ⟨[(2,vb false)],[]⟩ (q_J (false) hm)
def qFS (r:Bool):V:=vb r
def qGC (r:Bool):List (Nat×(Nat×O)):=[]
def qC3 (x3:Bool):St:=
 ⟨[(2,vb x3)],[]⟩
theorem CM (a1:Int) (r:Bool) (hm:GL a1=some r):CtX Try.prog globs 96 0 0 [.one (.val (.int .u8 a1))] [] (qFS r) (qGC r):=by
 unfold GL at hm;refine q_E f96 9 λE=>?_;refine s_vn [] 0 ⟨[(0,vc (.val (.int .u8 a1)))],[]⟩ (q_jn (qC3) (λp=>VI p=some r) ?_ ?_)
 ·rintro x3 hm;obtain rfl:=oi hm;exact q_rt q_rm
 ·rcases bif_c hm with⟨b2,hm⟩|⟨b2,hm⟩
  ·exact q_vn [qf 2 b2] 0 ⟨[(2,vb (decide (a1<=57)))],[]⟩ (q_J (decide (a1<=57)) hm)
  ·exact q_vn [qf 2 b2] 0 ⟨[(2,vb false)],[]⟩ (q_J (false) hm)
open Go.Proofs Go.Proofs.Try
def SM (r:Bool):V:=vb r
def SF (r:Bool):List (Nat×(Nat×O)):=[]
def qEp (a1:ByteArray) (x9:Int) (x18:Bool):St:=
 ⟨[(0,vc (cs a1)),(3,vi x9),(39,vb x18)],[]⟩
def FM (a1:ByteArray) (x9:Int):St:=
 ⟨[(0,vc (cs a1)),(3,vi x9)],[]⟩
def AR :St:=
 ⟨[],[]⟩
def qEt (a1:ByteArray) (x7:Bool):St:=
 ⟨[(0,vc (cs a1)),(18,vb x7)],[]⟩
theorem qDx (E:Env 0) (a1:ByteArray):∀(n:Nat) (x9:Int) (res:Bool⊕Unit),jW a1 n x9=some res->HL (kx E 40 0) (nd f74 116) (WB 0 (λo=>AR) (λv st=>RetQ Try.prog f74 (SM v) (SF v) .ret st) res) n (FM a1 x9):=by
 intro n
 induction n with
 |zero=>
  intro x9 res hm;cases hm
 |succ n ih=>
  intro x9 res hm;refine zF (q_sq ?_);refine s_va 0 [(22,vb (decide (x9<(a1.size:Int))))] (q_cq hm (λhm=>?_) (λhm=>?_))
  ·refine q_sk (q_sq ?_);refine q_bk 1 ?_;obtain⟨g11,hm⟩:=qT hm;refine s_vv [qi 2 g11] 0 [22] [(4,vc (.val (.int .u8 (strAt a1 x9.toNat))))] (q_jn (qEp a1 x9) (λp=>TB x9 (jW a1 n) p=some res) ?_ ?_)
   ·rintro x18 hm;refine q_cq hm (λhm=>?_) (λhm=>?_)
    ·refine s_vn [] 0 ⟨[(2,vb false)],[]⟩ ?_;obtain rfl:=oi hm;refine q_rt (wS false ?_);exact q_rm
    ·refine q_sk (q_vv [] 0 [3,39] [(3,vi (w64 (x9+1)))] ?_);exact q_hl (FM a1 (w64 (x9+1))) (ih (w64 (x9+1)) _ hm)
   ·obtain⟨v12,h13,hm⟩:=qH hm;rcases bif_c hm with⟨b14,hm⟩|⟨b14,hm⟩
    ·obtain⟨v15,h16,hm⟩:=qH hm;rcases bif_c hm with⟨b17,hm⟩|⟨b17,hm⟩
     ·exact q_vv [qc 1 [28] 0 (VO (strAt a1 x9.toNat) v12 h13),qf 3 b14,qk 5 [31,32] 0 ⟨[(31,vb true),(32,vc (.val (.int .u8 (strAt a1 x9.toNat))))],[]⟩ (CM (strAt a1 x9.toNat) v15 h16),qf 8 b17] 0 [4] [(39,vb ((strAt a1 x9.toNat) !=95))] (q_J ((strAt a1 x9.toNat) !=95) hm)
     ·exact q_vv [qc 1 [28] 0 (VO (strAt a1 x9.toNat) v12 h13),qf 3 b14,qk 5 [31,32] 0 ⟨[(31,vb true),(32,vc (.val (.int .u8 (strAt a1 x9.toNat))))],[]⟩ (CM (strAt a1 x9.toNat) v15 h16),qf 8 b17] 0 [4] [(39,vb false)] (q_J (false) hm)
    ·exact q_vv [qc 1 [28] 0 (VO (strAt a1 x9.toNat) v12 h13),qf 3 b14] 0 [4] [(39,vb false)] (q_J (false) hm)
  ·refine q_ex 0 ?_;obtain rfl:=oi hm;exact q_l1 ()
theorem qFU (a1:ByteArray) (r:Bool) (hm:NA a1=some r):CtX Try.prog globs 74 0 0 [.one (cs a1)] [] (SM r) (SF r):=by
 unfold NA at hm;refine q_E f74 40 λE=>?_;refine s_vn [] 0 ⟨[(0,vc (cs a1))],[]⟩ (q_sq ?_);refine q_jn (qEt a1) (λp=>RZ a1 p=some r) ?_ ?_
 ·rintro x7 hm;refine q_cq hm (λhm=>?_) (λhm=>?_)
  ·refine s_vn [] 0 ⟨[(2,vb false)],[]⟩ ?_;obtain rfl:=oi hm;exact q_rt q_rm
  ·refine q_sk (q_sq ?_);refine s_vv [] 0 [18] [(3,vi 1)] ?_;obtain⟨u22,h21,hm⟩:=qH hm;refine yA (nd f74 116) 0 (by kernel_rfl) FUEL (λo=>AR) (λv st=>RetQ Try.prog f74 (SM v) (SF v) .ret st) u22 (q_hl (FM a1 1) (qDx E a1 FUEL 1 u22 h21)) ?_ ?_
   ·rintro v23 rfl st hr;obtain rfl:=oi hm;exact hr
   ·rintro o20 rfl;replace hm:_=some r:=hm;refine s_vn [] 0 ⟨[(2,vb true)],[]⟩ ?_;obtain rfl:=oi hm;exact q_rt q_rm
 ·rcases bif_c hm with⟨b2,hm⟩|⟨b2,hm⟩
  ·exact q_vv [qf 3 b2] 0 [] [(18,vb true)] (q_J (true) hm)
  ·rcases bif_c hm with⟨b3,hm⟩|⟨b3,hm⟩
   ·exact q_vv [qf 3 b2,qf 8 b3] 0 [] [(18,vb true)] (q_J (true) hm)
   ·obtain⟨g4,hm⟩:=qT hm;obtain⟨v5,h6,hm⟩:=qH hm;exact q_vv [qf 3 b2,qf 8 b3,qi 10 g4,qk 11 [13,15] 0 ⟨[(13,vb false),(15,vc (.val (.int .u8 (strAt a1 ((0:Int).toNat)))))],[]⟩ (VO (strAt a1 ((0:Int).toNat)) v5 h6)] 0 [] [(18,vb (!v5))] (q_J (!v5) hm)
def SB (r:Int×Bool):V:= .tup [.one (ci r.1),.one (cb r.2)]
def SS (r:Int×Bool):List (Nat×(Nat×O)):=[]
def FH (a1:List Product) (a2:ByteArray) (x3:Int):St:=
 ⟨[(1,vc (cs a2)),(8,vc (tl qC du a1)),(9,vi (a1.length:Int)),(10,vi x3)],[]⟩
def IC :St:=
 ⟨[],[]⟩
theorem qDp (E:Env 0) (a1:List Product) (a2:ByteArray):∀(n:Nat) (x3:Int) (res:(Int×Bool)⊕Unit),WT a1 a2 n x3=some res->HL (kx E 21 0) (nd f75 52) (WB 0 (λo=>IC) (λv st=>RetQ Try.prog f75 (SB v) (SS v) .ret st) res) n (FH a1 a2 x3):=by
 intro n
 induction n with
 |zero=>
  intro x3 res hm;cases hm
 |succ n ih=>
  intro x3 res hm;refine zF (s_va 0 [(11,vb (decide (x3<(a1.length:Int))))] ?_);refine q_sq (q_cq hm (λhm=>?_) (λhm=>?_))
  ·refine q_sk (q_sq ?_);refine q_bk 1 ?_;obtain⟨g5,hm⟩:=qT hm;refine s_vu [qi 1 g5] 0 [11] [(6,vi x3),(7,vp 0 0)] [] [(0,bx 114 (qC (a1.getD x3.toNat du)))] (s_vu [] 1 [7] [(18,vb (strEq ((a1.getD x3.toNat du).Name) a2))] [0] [] ?_);refine q_cq hm (λhm=>?_) (λhm=>?_)
   ·refine s_vn [] 1 ⟨[(4,vi x3),(5,vb true)],[]⟩ ?_;obtain rfl:=oi hm;refine q_rt (wS (x3,true) ?_);exact q_rm
   ·refine q_sk (q_vv [] 1 [6,10,18] [(10,vi (w64 (x3+1)))] ?_);exact q_hl (FH a1 a2 (w64 (x3+1))) (ih (w64 (x3+1)) _ hm)
  ·refine q_ex 0 ?_;obtain rfl:=oi hm;exact q_l1 ()
theorem qGx (a1:List Product) (a2:ByteArray) (r:Int×Bool) (hm:BT a1 a2=some r):CtX Try.prog globs 75 0 0 [.one (tl qC du a1),.one (cs a2)] [] (SB r) (SS r):=by
 unfold BT at hm;refine q_E f75 21 λE=>?_;refine s_vn [] 0 ⟨[(0,vc (tl qC du a1)),(1,vc (cs a2))],[]⟩ (q_sq ?_);refine s_vv [] 0 [0] [(8,vc (tl qC du a1)),(9,vi (a1.length:Int)),(10,vi 0)] ?_;obtain⟨u9,h8,hm⟩:=qH hm;refine yA (nd f75 52) 0 (by kernel_rfl) FUEL (λo=>IC) (λv st=>RetQ Try.prog f75 (SB v) (SS v) .ret st) u9 (q_hl (FH a1 a2 0) (qDp E a1 a2 FUEL 0 u9 h8)) ?_ ?_
 ·rintro v10 rfl st hr;obtain rfl:=oi hm;exact hr
 ·rintro o7 rfl;replace hm:_=some r:=hm;refine s_vn [] 0 ⟨[(4,vi 0),(5,vb false)],[]⟩ ?_;obtain rfl:=oi hm;exact q_rt q_rm
def ZI (r:Int):V:=vi r
def ZJ (r:Int):List (Nat×(Nat×O)):=[]
def YQ (a1:Product) (x18:Int):St:=
 ⟨[(1,vp 0 0),(70,vc (tl qL du a1.Lengths)),(71,vi (a1.Lengths.length:Int)),(72,vi x18)],[(0,bx 114 (qC a1))]⟩
def IU (a1:Product) (x18:Int) (x26:Bool):St:=
 (YQ a1 x18).up [] [(94,vb x26)] [] []
def IN (a1:Product) (x18:Int) (x22:Bool):St:=
 (YQ a1 x18).up [] [(5,vi x18),(6,vi (a1.Lengths.getD x18.toNat du)),(82,vb x22)] [] []
def XX (a1:Product) (x18:Int):St:=
 (YQ a1 x18).up [] [] [] []
def DK (a1:Product):St:=
 ⟨[(1,vp 0 0)],[(0,bx 114 (qC a1))]⟩
def IL (a1:Product) (x32:Int) (x36:Bool):St:=
 ⟨[(97,vc (tl qL du a1.Prices)),(98,vi (a1.Prices.length:Int)),(99,vi x32),(108,vb x36)],[]⟩
def XR (a1:Product) (x32:Int):St:=
 ⟨[(97,vc (tl qL du a1.Prices)),(98,vi (a1.Prices.length:Int)),(99,vi x32)],[]⟩
def DM :St:=
 ⟨[],[]⟩
def IV (a1:Product) (x10:Bool):St:=
 ⟨[(1,vp 0 0),(46,vb x10)],[(0,bx 114 (qC a1))]⟩
def ID (a1:Product) (x5:Bool):St:=
 ⟨[(1,vp 0 0),(28,vb x5)],[(0,bx 114 (qC a1))]⟩
theorem AN (E:Env 0) (a1:Product):∀(n:Nat) (x18:Int) (res:Int⊕Unit),zT a1 n x18=some res->HL (kx E 110 0) (nd f76 4084) (WB 0 (λo=>DK a1) (λv st=>RetQ Try.prog f76 (ZI v) (ZJ v) .ret st) res) n (XX a1 x18):=by
 intro n
 induction n with
 |zero=>
  intro x18 res hm;cases hm
 |succ n ih=>
  intro x18 res hm;refine zF (s_va 1 [(73,vb (decide (x18<(a1.Lengths.length:Int))))] ?_);refine q_sq (q_cq hm (λhm=>?_) (λhm=>?_))
  ·refine q_sk (q_sq ?_);refine q_bk 1 ?_;obtain⟨g20,hm⟩:=qT hm;refine s_vv [qi 1 g20] 1 [73] [(5,vi x18),(6,vi (a1.Lengths.getD x18.toNat du))] (q_sq ?_);refine q_jn (IN a1 x18) (λp=>JG a1 x18 (zT a1 n) p=some res) ?_ ?_
   ·rintro x22 hm;refine q_cq hm (λhm=>?_) (λhm=>?_)
    ·refine s_vn [] 1 ⟨[(2,vi 9)],[]⟩ ?_;obtain rfl:=oi hm;refine q_rt (wS 9 ?_);exact q_rm
    ·refine q_sk (q_jn (IU a1 x18) (λp=>JE x18 (zT a1 n) p=some res) ?_ ?_)
     ·rintro x26 hm;refine q_cq hm (λhm=>?_) (λhm=>?_)
      ·refine s_vn [] 1 ⟨[(2,vi 11)],[]⟩ ?_;obtain rfl:=oi hm;refine q_rt (wS 11 ?_);exact q_rm
      ·refine q_sk (q_vv [] 1 [72,94] [(72,vi (w64 (x18+1)))] ?_);exact q_hl (XX a1 (w64 (x18+1))) (ih (w64 (x18+1)) _ hm)
     ·rcases bif_c hm with⟨b24,hm⟩|⟨b24,hm⟩
      ·obtain⟨g25,hm⟩:=qT hm;exact q_vv [qf 2 b24,qi 8 g25] 1 [5,6,82] [(94,vb (decide ((a1.Lengths.getD x18.toNat du)<=(a1.Lengths.getD (w64 (x18-1)).toNat du))))] (q_J (decide ((a1.Lengths.getD x18.toNat du)<=(a1.Lengths.getD (w64 (x18-1)).toNat du))) hm)
      ·exact q_vv [qf 2 b24] 1 [5,6,82] [(94,vb false)] (q_J (false) hm)
   ·rcases bif_c hm with⟨b21,hm⟩|⟨b21,hm⟩
    ·exact q_vv [qf 2 b21] 1 [] [(82,vb true)] (q_J (true) hm)
    ·exact q_vv [qf 2 b21] 1 [] [(82,vb (decide ((a1.Lengths.getD x18.toNat du)>20000)))] (q_J (decide ((a1.Lengths.getD x18.toNat du)>20000)) hm)
  ·refine q_ex 0 ?_;obtain rfl:=oi hm;exact q_l1 ()
theorem AK (E:Env 0) (a1:Product):∀(n:Nat) (x32:Int) (res:Int⊕Unit),wC a1 n x32=some res->HL (kx E 110 0) (nd f76 8180) (WB 2 (λo=>DM) (λv st=>RetQ Try.prog f76 (ZI v) (ZJ v) .ret st) res) n (XR a1 x32):=by
 intro n
 induction n with
 |zero=>
  intro x32 res hm;cases hm
 |succ n ih=>
  intro x32 res hm;refine zF (s_va 1 [(100,vb (decide (x32<(a1.Prices.length:Int))))] ?_);refine q_sq (q_cq hm (λhm=>?_) (λhm=>?_))
  ·refine q_sk (q_sq ?_);refine q_bk 3 ?_;obtain⟨g34,hm⟩:=qT hm;refine s_vv [qi 0 g34] 1 [100] [(8,vi (a1.Prices.getD x32.toNat du))] (q_jn (IL a1 x32) (λp=>JF x32 (wC a1 n) p=some res) ?_ ?_)
   ·rintro x36 hm;refine q_cq hm (λhm=>?_) (λhm=>?_)
    ·refine s_vn [] 1 ⟨[(2,vi 9)],[]⟩ ?_;obtain rfl:=oi hm;refine q_rt (wS 9 ?_);exact q_rm
    ·refine q_sk (q_vv [] 1 [99,108] [(99,vi (w64 (x32+1)))] ?_);exact q_hl (XR a1 (w64 (x32+1))) (ih (w64 (x32+1)) _ hm)
   ·rcases bif_c hm with⟨b35,hm⟩|⟨b35,hm⟩
    ·exact q_vv [qf 2 b35] 1 [8] [(108,vb true)] (q_J (true) hm)
    ·exact q_vv [qf 2 b35] 1 [8] [(108,vb (decide ((a1.Prices.getD x32.toNat du)>1000000)))] (q_J (decide ((a1.Prices.getD x32.toNat du)>1000000)) hm)
  ·refine q_ex 2 ?_;obtain rfl:=oi hm;exact q_l1 ()
theorem CS (a1:Product) (r:Int) (hm:WD a1=some r):CtX Try.prog globs 76 0 0 [.agg (qC a1)] [] (ZI r) (ZJ r):=by
 unfold WD at hm;refine q_E f76 110 λE=>?_;refine s_vn [] 0 ⟨[(1,vp 0 0)],[(0,bx 114 (qC a1))]⟩ (q_sq ?_);refine q_jn (ID a1) (λp=>yF a1 p=some r) ?_ ?_
 ·rintro x5 hm;refine q_cq hm (λhm=>?_) (λhm=>?_)
  ·refine s_vn [] 1 ⟨[(2,vi 9)],[]⟩ ?_;obtain rfl:=oi hm;exact q_rt q_rm
  ·refine q_sk (q_sq ?_);refine q_jn (IV a1) (λp=>yE a1 p=some r) ?_ ?_
   ·rintro x10 hm;refine q_cq hm (λhm=>?_) (λhm=>?_)
    ·refine s_vn [] 1 ⟨[(2,vi 9)],[]⟩ ?_;obtain rfl:=oi hm;exact q_rt q_rm
    ·refine q_sk (q_sq ?_);obtain⟨v12,h13,hm⟩:=qH hm;refine s_vv [qc 1 [48] 1 (MB a1 v12 h13)] 1 [46] [(4,vi v12.2)] (s_vv [] 1 [4] [(53,vb (decide (v12.2>600)))] ?_);refine q_cq hm (λhm=>?_) (λhm=>?_)
     ·refine s_vn [] 1 ⟨[(2,vi 9)],[]⟩ ?_;obtain rfl:=oi hm;exact q_rt q_rm
     ·refine q_sk (q_sq ?_);refine s_vv [] 1 [53] [(57,vb ((a1.Lengths.length:Int)==0))] (q_cq hm (λhm=>?_) (λhm=>?_))
      ·refine s_vn [] 1 ⟨[(2,vi 3)],[]⟩ ?_;obtain rfl:=oi hm;exact q_rt q_rm
      ·refine q_sk (q_sq ?_);refine s_vv [] 1 [57] [(61,vb (decide ((a1.Lengths.length:Int)>8)))] (q_cq hm (λhm=>?_) (λhm=>?_))
       ·refine s_vn [] 1 ⟨[(2,vi 4)],[]⟩ ?_;obtain rfl:=oi hm;exact q_rt q_rm
       ·refine q_sk (q_sq ?_);refine s_vv [] 1 [61] [(68,vb ((a1.Prices.length:Int) !=(a1.Lengths.length:Int)))] (q_cq hm (λhm=>?_) (λhm=>?_))
        ·refine s_vn [] 1 ⟨[(2,vi 19)],[]⟩ ?_;obtain rfl:=oi hm;exact q_rt q_rm
        ·refine q_sk (q_sq ?_);refine s_vv [] 1 [68] [(70,vc (tl qL du a1.Lengths)),(71,vi (a1.Lengths.length:Int)),(72,vi 0)] ?_;obtain⟨u30,h29,hm⟩:=qH hm;refine yA (nd f76 4084) 0 (by kernel_rfl) FUEL (λo=>DK a1) (λv st=>RetQ Try.prog f76 (ZI v) (ZJ v) .ret st) u30 (q_hl (XX a1 0) (AN E a1 FUEL 0 u30 h29)) ?_ ?_
         ·rintro v31 rfl st hr;obtain rfl:=oi hm;exact hr
         ·rintro o28 rfl;replace hm:_=some r:=hm;refine q_sq (s_vn [] 1 ⟨[(97,vc (tl qL du a1.Prices)),(98,vi (a1.Prices.length:Int)),(99,vi 0)],[]⟩ ?_);obtain⟨u40,h39,hm⟩:=qH hm;refine yA (nd f76 8180) 2 (by kernel_rfl) FUEL (λo=>DM) (λv st=>RetQ Try.prog f76 (ZI v) (ZJ v) .ret st) u40 (q_hl (XR a1 0) (AK E a1 FUEL 0 u40 h39)) ?_ ?_
          ·rintro v41 rfl st hr;obtain rfl:=oi hm;exact hr
          ·rintro o38 rfl;replace hm:_=some r:=hm;refine s_vn [] 1 ⟨[(2,vi 0)],[]⟩ ?_;obtain rfl:=oi hm;exact q_rt q_rm
   ·rcases bif_c hm with⟨b7,hm⟩|⟨b7,hm⟩
    ·exact q_vv [qf 3 b7] 1 [28] [(46,vb true)] (q_J (true) hm)
    ·rcases bif_c hm with⟨b8,hm⟩|⟨b8,hm⟩
     ·exact q_vv [qf 3 b7,qf 8 b8] 1 [28] [(46,vb true)] (q_J (true) hm)
     ·rcases bif_c hm with⟨b9,hm⟩|⟨b9,hm⟩
      ·exact q_vv [qf 3 b7,qf 8 b8,qf 13 b9] 1 [28] [(46,vb true)] (q_J (true) hm)
      ·exact q_vv [qf 3 b7,qf 8 b8,qf 13 b9] 1 [28] [(46,vb (decide (a1.Wane>1000)))] (q_J (decide (a1.Wane>1000)) hm)
 ·rcases bif_c hm with⟨b2,hm⟩|⟨b2,hm⟩
  ·exact q_vv [qf 3 b2] 1 [] [(28,vb true)] (q_J (true) hm)
  ·rcases bif_c hm with⟨b3,hm⟩|⟨b3,hm⟩
   ·exact q_vv [qf 3 b2,qf 8 b3] 1 [] [(28,vb true)] (q_J (true) hm)
   ·rcases bif_c hm with⟨b4,hm⟩|⟨b4,hm⟩
    ·exact q_vv [qf 3 b2,qf 8 b3,qf 15 b4] 1 [] [(28,vb true)] (q_J (true) hm)
    ·exact q_vv [qf 3 b2,qf 8 b3,qf 15 b4] 1 [] [(28,vb (decide (a1.Width>600)))] (q_J (decide (a1.Width>600)) hm)
open Go.Proofs Go.Proofs.Try
def RX (r:Int):V:=vi r
def WG (r:Int):List (Nat×(Nat×O)):=[]
theorem qAf (r:Int):US (WG r):=by
 intro i k o h;unfold WG at h;cases h
def BO (a1:List Product) (x3:Int):St:=
 ⟨[(0,vc (tl qC du a1)),(11,vc (tl qC du a1)),(12,vi (a1.length:Int)),(13,vi x3)],[]⟩
def EU :St:=
 ⟨[],[]⟩
theorem qCN (E:Env 0) (a1:List Product):∀(n:Nat) (x3:Int) (res:Int⊕Unit),ZP a1 n x3=some res->HL (kx E 38 0) (nd f55 116) (WB 0 (λo=>EU) (λv st=>RetQ Try.prog f55 (RX v) (WG v) .ret st) res) n (BO a1 x3):=by
 intro n
 induction n with
 |zero=>
  intro x3 res hm;cases hm
 |succ n ih=>
  intro x3 res hm;refine zF (s_va 0 [(14,vb (decide (x3<(a1.length:Int))))] ?_);refine q_sq (q_cq hm (λhm=>?_) (λhm=>?_))
  ·refine q_sk (q_sq ?_);refine q_bk 1 ?_;obtain⟨g5,hm⟩:=qT hm;refine s_vu [qi 1 g5] 0 [14] [(3,vi x3),(4,vp 0 0)] [] [(0,bx 114 (qC (a1.getD x3.toNat du)))] (q_sq ?_);obtain⟨v6,h7,hm⟩:=qH hm;refine s_vv [qc 2 [19] 1 (qFU ((a1.getD x3.toNat du).Name) v6 h7)] 1 [] [(21,vb (!v6))] (q_cq hm (λhm=>?_) (λhm=>?_))
   ·refine s_vn [] 1 ⟨[(2,vi 6)],[]⟩ ?_;obtain rfl:=oi hm;refine q_rt (wS 6 ?_);exact q_rm
   ·refine q_sk (q_sq ?_);obtain⟨g9,hm⟩:=qT hm;obtain⟨v10,h11,hm⟩:=qH hm;refine s_du [qd 2 (drw ((a1.take x3.toNat).length) 0 (rf qC (a1.take x3.toNat))) (slPhi qC du a1 x3 (And.intro (wG g9).2.1 (wG g9).2.2)),qc 5 [25,27] 1 (qGx (a1.take x3.toNat) ((a1.getD x3.toNat du).Name) v10 h11)] [0,0,3,0,8,31,63,127,127,255,1023] 1 [3,21] [(6,vb v10.2)] [] [] (s_vv [] 1 [6] [(31,vb v10.2)] ?_);refine q_cq hm (λhm=>?_) (λhm=>?_)
    ·refine s_vn [] 1 ⟨[(2,vi 7)],[]⟩ ?_;obtain rfl:=oi hm;refine q_rt (wS 7 ?_);exact q_rm
    ·refine q_sk ?_;obtain⟨v13,h14,hm⟩:=qH hm;refine s_vu [qc 1 [32] 1 (CS (a1.getD x3.toNat du) v13 h14)] 1 [4,31] [(7,vi v13)] [0] [] (s_va 1 [(35,vb (v13 !=0))] ?_);refine q_cq hm (λhm=>?_) (λhm=>?_)
     ·refine s_vn [] 1 ⟨[(2,vi v13)],[]⟩ ?_;obtain rfl:=oi hm;refine q_rt (wS v13 ?_);exact q_rm
     ·refine q_sk (q_vv [] 1 [7,13,35] [(13,vi (w64 (x3+1)))] ?_);exact q_hl (BO a1 (w64 (x3+1))) (ih (w64 (x3+1)) _ hm)
  ·refine q_ex 0 ?_;obtain rfl:=oi hm;exact q_l1 ()
theorem VV (a1:List Product) (r:Int) (hm:XK a1=some r):CtX Try.prog globs 55 0 0 [.one (tl qC du a1)] [] (RX r) (WG r):=by
 unfold XK at hm;refine q_E f55 38 λE=>?_;refine s_vn [] 0 ⟨[(0,vc (tl qC du a1))],[]⟩ (q_sq ?_);refine s_va 0 [(10,vb (decide ((a1.length:Int)>16)))] (q_cq hm (λhm=>?_) (λhm=>?_))
 ·refine s_vn [] 0 ⟨[(2,vi 4)],[]⟩ ?_;obtain rfl:=oi hm;exact q_rt q_rm
 ·refine q_sk (q_sq ?_);refine s_vv [] 0 [10] [(11,vc (tl qC du a1)),(12,vi (a1.length:Int)),(13,vi 0)] ?_;obtain⟨u18,h17,hm⟩:=qH hm;refine yA (nd f55 116) 0 (by kernel_rfl) FUEL (λo=>EU) (λv st=>RetQ Try.prog f55 (RX v) (WG v) .ret st) u18 (q_hl (BO a1 0) (qCN E a1 FUEL 0 u18 h17)) ?_ ?_
  ·rintro v19 rfl st hr;obtain rfl:=oi hm;exact hr
  ·rintro o16 rfl;replace hm:_=some r:=hm;refine s_vn [] 0 ⟨[(2,vi 0)],[]⟩ ?_;obtain rfl:=oi hm;exact q_rt q_rm
def HZ (r:Bool):V:=vb r
def HW (r:Bool):List (Nat×(Nat×O)):=[]
def qEr (a1:Rect) (x2:Int) (x7:Bool):St:=
 ⟨[(9,va (qK a1)),(10,vi x2),(27,vb x7)],[]⟩
def FJ (a1:Rect) (x2:Int):St:=
 ⟨[(9,va (qK a1)),(10,vi x2)],[]⟩
def AP :St:=
 ⟨[],[]⟩
theorem qDB (E:Env 0) (a1:Rect):∀(n:Nat) (x2:Int) (res:Bool⊕Unit),wU a1 n x2=some res->HL (kx E 29 0) (nd f84 52) (WB 0 (λo=>AP) (λv st=>RetQ Try.prog f84 (HZ v) (HW v) .ret st) res) n (FJ a1 x2):=by
 intro n
 induction n with
 |zero=>
  intro x2 res hm;cases hm
 |succ n ih=>
  intro x2 res hm;refine zF (s_va 1 [(11,vb (decide (x2<2)))] ?_);refine q_sq (q_cq hm (λhm=>?_) (λhm=>?_))
  ·refine q_sk (q_sq ?_);refine q_bk 1 ?_;obtain⟨g4,hm⟩:=qT hm;refine s_vu [qi 0 g4] 1 [11] [(4,vp 1 0)] [] [(1,bx 26 [ci (([a1.X.A,a1.X.B,a1.Y.A,a1.Y.B]:List Int).getD (x2.toNat*2+0) 0),ci (([a1.X.A,a1.X.B,a1.Y.A,a1.Y.B]:List Int).getD (x2.toNat*2+1) 0)])] (q_jn (qEr a1 x2) (λp=>ZH x2 (wU a1 n) p=some res) ?_ ?_)
   ·rintro x7 hm;refine q_cq hm (λhm=>?_) (λhm=>?_)
    ·refine s_vn [] 2 ⟨[(2,vb false)],[]⟩ ?_;obtain rfl:=oi hm;refine q_rt (wS false ?_);exact q_rm
    ·refine q_sk (q_vv [] 2 [10,27] [(10,vi (w64 (x2+1)))] ?_);exact q_hl (FJ a1 (w64 (x2+1))) (ih (w64 (x2+1)) _ hm)
   ·rcases bif_c hm with⟨b5,hm⟩|⟨b5,hm⟩
    ·exact q_vu [qf 3 b5] 2 [4] [(27,vb true)] [1] [] (q_J (true) hm)
    ·rcases bif_c hm with⟨b6,hm⟩|⟨b6,hm⟩
     ·exact q_vu [qf 3 b5,qf 8 b6] 2 [4] [(27,vb true)] [1] [] (q_J (true) hm)
     ·exact q_vu [qf 3 b5,qf 8 b6] 2 [4] [(27,vb (decide ((([a1.X.A,a1.X.B,a1.Y.A,a1.Y.B]:List Int).getD (x2.toNat*2+0) 0)≥(([a1.X.A,a1.X.B,a1.Y.A,a1.Y.B]:List Int).getD (x2.toNat*2+1) 0))))] [1] [] (q_J (decide ((([a1.X.A,a1.X.B,a1.Y.A,a1.Y.B]:List Int).getD (x2.toNat*2+0) 0)≥(([a1.X.A,a1.X.B,a1.Y.A,a1.Y.B]:List Int).getD (x2.toNat*2+1) 0))) hm)
  ·refine q_ex 0 ?_;obtain rfl:=oi hm;exact q_l1 ()
theorem qGW (a1:Rect) (r:Bool) (hm:DU a1=some r):CtX Try.prog globs 84 0 0 [.agg (qK a1)] [] (HZ r) (HW r):=by
 unfold DU at hm;refine q_E f84 29 λE=>?_;refine s_vn [] 0 ⟨[(1,vp 0 0)],[(0,bx 28 (qK a1))]⟩ (q_sq ?_);refine s_vn [] 1 ⟨[(9,va (qK a1)),(10,vi 0)],[]⟩ ?_;obtain⟨u11,h10,hm⟩:=qH hm;refine yA (nd f84 52) 0 (by kernel_rfl) FUEL (λo=>AP) (λv st=>RetQ Try.prog f84 (HZ v) (HW v) .ret st) u11 (q_hl (FJ a1 0) (qDB E a1 FUEL 0 u11 h10)) ?_ ?_
 ·rintro v12 rfl st hr;obtain rfl:=oi hm;exact hr
 ·rintro o9 rfl;replace hm:_=some r:=hm;refine s_vn [] 1 ⟨[(2,vb true)],[]⟩ ?_;obtain rfl:=oi hm;exact q_rt q_rm
end Saw
end Go.SL

import Derived.Test.YtidlfgiogdjkaaaGreatDoorEBase
import Derived.Test.YtidlfgiogdjkaaaGreatDoorEFa1
import Derived.Test.YtidlfgiogdjkaaaGreatDoorEFa2
set_option linter.unusedVariables false
set_option linter.unusedSimpArgs false
namespace Go.SL
namespace Saw
open Go.Proofs Go.Proofs.Tryz
set_option maxHeartbeats 4000000
set_option maxRecDepth 100000
def qLU (r:Span):V:=va (qG r)
def qLH (r:Span):List (Nat×(Nat×O)):=[]
theorem qDh (a1:Int) (a2:Int) (r:Span) (hm:KL a1 a2=some r):CtX Tryz.prog globs 144 0 0 [.one (ci a1),.one (ci a2)] [] (qLU r) (qLH r):=by
 unfold KL at hm;refine q_E f144 10 λE=>?_;refine s_vn [] 0 ⟨[(0,vi a1),(1,vi a2),(4,vp 0 0)],[(0,bx 31 [ci 0,ci 0])]⟩ (s_vu [] 1 [0,1] [] [0] [(0,bx 31 [ci (w64 (10*a1)),ci (w64 (10*a2))])] ?_);obtain rfl:=oi hm;exact q_rt q_rm
def qXm (r:Int):V:=vc (.val (.int .u64 r))
def qXI (r:Int):List (Nat×(Nat×O)):=[]
theorem qVZ (a1:Span) (r:Int) (hm:qGt a1=some r):CtX Tryz.prog globs 119 0 0 [.agg (qG a1)] [] (qXm r) (qXI r):=by
 unfold qGt at hm;refine q_E f119 15 λE=>?_;refine s_vn [] 0 ⟨[(1,vp 0 0)],[(0,bx 31 (qG a1))]⟩ (q_sq ?_);refine s_va 1 [(7,vb (decide (a1.A≥a1.B)))] (q_cq hm (λhm=>?_) (λhm=>?_))
 ·refine s_vn [] 1 ⟨[(2,vc (.val (.int .u64 0)))],[]⟩ ?_;obtain rfl:=oi hm;exact q_rt q_rm
 ·refine q_sk (s_vn [] 1 ⟨[(2,vc (.val (.int .u64 (IntKind.u64.wrap ((IntKind.u64.wrap (a1.B))-(IntKind.u64.wrap (a1.A)))))))],[]⟩ ?_);obtain rfl:=oi hm;exact q_rt q_rm
def qSp (r:Int):V:=vi r
def qRy (r:Int):List (Nat×(Nat×O)):=[]
theorem qPF (a1:Int) (r:Int) (hm:qBA a1=some r):CtX Tryz.prog globs 118 0 0 [.one (.val (.int .u64 a1))] [] (qSp r) (qRy r):=by
 unfold qBA at hm;refine q_E f118 6 λE=>?_;refine s_vn [] 0 ⟨[(0,vc (.val (.int .u64 a1)))],[]⟩ (s_vn [] 0 ⟨[(2,vi (w64 (imin a1 9223372036854775807)))],[]⟩ ?_);obtain rfl:=oi hm;exact q_rt q_rm
open Go.Proofs Go.Proofs.Tryz
def qYU (r:Int):V:=vi r
def qYZ (r:Int):List (Nat×(Nat×O)):=[]
theorem qCW (a1:Span) (r:Int) (hm:PB a1=some r):CtX Tryz.prog globs 63 0 0 [.agg (qG a1)] [] (qYU r) (qYZ r):=by
 unfold PB at hm;refine q_E f63 6 λE=>?_;refine s_vn [] 0 ⟨[(1,vp 0 0)],[(0,bx 31 (qG a1))]⟩ ?_;obtain⟨v2,h3,hm⟩:=qB hm;obtain⟨v4,h5,hm⟩:=qB hm;refine s_vn [qc 1 [3] 1 (qVZ a1 v2 h3),qc 2 [4] 1 (qPF v2 v4 h5)] 1 ⟨[(2,vi v4)],[]⟩ ?_;obtain rfl:=oi hm;exact q_rt q_rm
def qQK (r:qQ):V:=va (zQ r)
def qQi (r:qQ):List (Nat×(Nat×O)):=[]
theorem CX (a1:qQ) (r:qQ) (hm:KU a1=some r):CtX Tryz.prog globs 128 0 0 [.agg (zQ a1)] [] (qQK r) (qQi r):=by
 unfold KU at hm;refine q_E f128 8 λE=>?_;refine s_vn [] 0 ⟨[(1,vp 0 0),(2,vp 1 0)],[(0,bx 70 (zQ a1)),(1,bx 70 [ci 0,.emp])]⟩ (q_sq ?_);obtain⟨v2,h3,hm⟩:=qB hm;refine s_vv [qc 1 [3] 2 (qEO a1 v2 h3)] 2 [] [(5,vb (v2 !=0))] (q_cq hm (λhm=>?_) (λhm=>?_))
 ·refine s_vu [] 2 [1,5] [] [0] [] (q_fu [.ownB 1 1 2 31 2 (rf qG [])] [] [] [1] [(1,bx 70 [ci 0,.own 2 0 2 0]),(2,ro 0 31 2 0 (rf qG []))] o0 ?_);refine q_fu [.len 2 (([]:List Span).length),.frz 2] [] [] [1,2] [(1,bx 70 [ci 0,tl qG du ([]:List Span)])] (o1 (And.intro (And.intro (show 0=([]:List Span).length from rfl) (show 0=([]:List Span).length from rfl)) (ki (([]:List Span).length)))) ?_;obtain rfl:=oi hm;exact q_rt q_rm
 ·refine q_sk (s_vn [] 2 ⟨[(2,vp 1 0)],[(1,bx 70 (zQ a1))]⟩ ?_);obtain rfl:=oi hm;exact q_rt q_rm
def qOr (r:Int):V:=vi r
def qMJ (r:Int):List (Nat×(Nat×O)):=[]
def LM (a2:Rect) (v3:qQ) (x5:Int) (x6:Int):St:=
 ⟨[(2,vp 0 0),(3,vp 1 0),(5,vi x5),(12,vc (tl qG du v3.Rows)),(13,vi (v3.Rows.length:Int)),(14,vi x6)],[(0,bx 70 (zQ v3)),(1,bx 33 (qO a2))]⟩
def qB0 (x19:Int):St:=
 ⟨[(5,vi x19)],[]⟩
theorem qIU (E:Env 0) (a2:Rect) (v3:qQ):∀(n:Nat) (x5:Int) (x6:Int) (res:Int),JN a2 v3 n x5 x6=some res->HL (kx E 44 0) (nd f169 244) (zL 0 qB0 res) n (LM a2 v3 x5 x6):=by
 intro n
 induction n with
 |zero=>
  intro x5 x6 res hm;cases hm
 |succ n ih=>
  intro x5 x6 res hm;refine qT (s_va 2 [(15,vb (decide (x6<(v3.Rows.length:Int))))] ?_);refine q_sq (q_cq hm (λhm=>?_) (λhm=>?_))
  ·refine q_sk (q_sq ?_);refine q_bk 1 ?_;obtain⟨g8,hm⟩:=qI hm;refine s_vu [qi 1 g8] 2 [15] [(6,vi x6),(7,vp 2 0)] [] [(2,bx 31 (qG (v3.Rows.getD x6.toNat du)))] ?_;obtain⟨v9,h10,hm⟩:=qB hm;refine s_vu [qc 9 [22,27] 3 (qDh (w64 (v3.Low+x6)) (w64 ((w64 (v3.Low+x6))+1)) v9 h10)] 3 [6] [(8,vp 3 0)] [] [(3,bx 31 (qG v9))] ?_;obtain⟨v11,h12,hm⟩:=qB hm;obtain⟨v13,h14,hm⟩:=qB hm;obtain⟨v15,h16,hm⟩:=qB hm;obtain⟨v17,h18,hm⟩:=qB hm
   refine q_du [qc 4 [30,32] 4 (DO (v3.Rows.getD x6.toNat du) a2.X v11 h12),qc 5 [33] 4 (qCW v11 v13 h14),qc 9 [35,37] 4 (DO v9 a2.Y v15 h16),qc 10 [38] 4 (qCW v15 v17 h18)] [0,0,0,4,14,30,0,0,128,510,1022,2046,4095,8191] 4 [5,7,8] [(5,vi (w64 (x5+(w64 (v13*v17)))))] [2,3] [] (q_vv [] 4 [14] [(14,vi (w64 (x6+1)))] ?_);exact q_hl (LM a2 v3 (w64 (x5+(w64 (v13*v17)))) (w64 (x6+1))) (ih (w64 (x5+(w64 (v13*v17)))) (w64 (x6+1)) _ hm)
  ·refine q_ex 0 ?_;obtain rfl:=oi hm;exact q_l0
theorem qEf (a1:qQ) (a2:Rect) (r:Int) (hm:RF a1 a2=some r):CtX Tryz.prog globs 169 0 0 [.agg (zQ a1),.agg (qO a2)] [] (qOr r) (qMJ r):=by
 unfold RF at hm;refine q_E f169 44 λE=>?_;refine s_vn [] 0 ⟨[(2,vp 0 0),(3,vp 1 0)],[(0,bx 70 (zQ a1)),(1,bx 33 (qO a2))]⟩ ?_;obtain⟨v3,h4,hm⟩:=qB hm;refine s_vu [qc 1 [9] 2 (CX a1 v3 h4)] 2 [] [] [0] [(0,bx 70 (zQ v3))] (s_va 2 [(5,vi 0)] ?_);refine q_sq (s_va 2 [(12,vc (tl qG du v3.Rows)),(13,vi (v3.Rows.length:Int)),(14,vi 0)] ?_);obtain⟨o20,h21,hm⟩:=qB hm;refine zF (nd f169 244) 0 (by kernel_rfl) FUEL qB0 o20 (q_hl (LM a2 v3 0 0) (qIU E a2 v3 FUEL 0 0 o20 h21)) (s_vn [] 2 ⟨[(4,vi o20)],[]⟩ ?_);obtain rfl:=oi hm;exact q_rt q_rm
open Go.Proofs Go.Proofs.Tryz
def qUv (r:(List qW)):V:=vo 0 0 3 r.length
def qUl (r:(List qW)):List (Nat×(Nat×O)):=[(0,ro 0 249 3 r.length (rf zJ r))]
def qAc (a1:List qC) (a2:Rect) (l3:List qW) (l3n:Nat) (x4:Int) (x5:Int):St:=
 ⟨[(3,vp 0 0),(5,vi (w64 ((w64 (a2.X.B-a2.X.A))*(w64 (a2.Y.B-a2.Y.A))))),(6,vo 1 0 3 l3n),(7,vi x4),(27,vc (tl qL du a1)),(28,vi (a1.length:Int)),(29,vi x5)],[(0,bx 33 (qO a2)),(1,ro 0 249 3 l3n (rf zJ l3))]⟩
def qE8 (l12:List qW):St:=
 ⟨[(6,vo 1 0 3 l12.length)],[(1,ro 0 249 3 l12.length (rf zJ l12))]⟩
theorem qMe (E:Env 0) (a1:List qC) (a2:Rect):∀(n:Nat) (l3:List qW) (l3n:Nat) (x4:Int) (x5:Int) (res:(List qW)),l3.length=l3n->RC a1 a2 n l3 x4 x5=some res->HL (kx E 61 0) (nd f173 500) (zL 0 qE8 res) n (qAc a1 a2 l3 l3n x4 x5):=by
 intro n
 induction n with
 |zero=>
  intro l3 l3n x4 x5 res hl0 hm;cases hm
 |succ n ih=>
  intro l3 l3n x4 x5 res hl0 hm;subst hl0;refine qT (s_va 2 [(30,vb (decide (x5<(a1.length:Int))))] ?_);refine q_sq (q_cq hm (λhm=>?_) (λhm=>?_))
  ·refine q_sk (q_sq ?_);refine q_bk 1 ?_;obtain⟨g7,hm⟩:=qI hm;refine s_vu [qi 0 g7] 2 [30] [(9,vp 2 0)] [] [(2,bx 72 (qL (a1.getD x5.toNat du)))] ?_;obtain⟨v8,h9,hm⟩:=qB hm;refine s_vv [qc 4 [35,36] 3 (qEf ((a1.getD x5.toNat du).Sec) a2 v8 h9)] 3 [] [(10,vi (w64 ((w64 ((w64 (a2.X.B-a2.X.A))*(w64 (a2.Y.B-a2.Y.A))))-v8)))] (s_vu [] 3 [7,9] [(11,vp 3 0)] [2] [(3,bx 31 [ci x4,ci (w64 (x4+((a1.getD x5.toNat du).Len)))])] ?_);obtain⟨g10,hm⟩:=qI hm;obtain⟨g11,hm⟩:=qI hm
   refine s_du [qd 8 dN (AP g10),qd 10 (drw 4 0 (rf zJ [(qW.mk (Span.mk x4 (w64 (x4+((a1.getD x5.toNat du).Len)))) (w64 (Int.tdiv (w64 ((w64 ((w64 (1000*(w64 ((w64 ((w64 (a2.X.B-a2.X.A))*(w64 (a2.Y.B-a2.Y.A))))-v8))))+(w64 ((w64 (a2.X.B-a2.X.A))*(w64 (a2.Y.B-a2.Y.A))))))-1)) (w64 ((w64 (a2.X.B-a2.X.A))*(w64 (a2.Y.B-a2.Y.A)))))))])) (litP zJ du 3 (λ_=>rfl) ([(qW.mk (Span.mk x4 (w64 (x4+((a1.getD x5.toNat du).Len)))) (w64 (Int.tdiv (w64 ((w64 ((w64 (1000*(w64 ((w64 ((w64 (a2.X.B-a2.X.A))*(w64 (a2.Y.B-a2.Y.A))))-v8))))+(w64 ((w64 (a2.X.B-a2.X.A))*(w64 (a2.Y.B-a2.Y.A))))))-1)) (w64 ((w64 (a2.X.B-a2.X.A))*(w64 (a2.Y.B-a2.Y.A)))))))]:List qW) 1 rfl),qd 11 (drw 1 1 (rf zJ (l3++[(qW.mk (Span.mk x4 (w64 (x4+((a1.getD x5.toNat du).Len)))) (w64 (Int.tdiv (w64 ((w64 ((w64 (1000*(w64 ((w64 ((w64 (a2.X.B-a2.X.A))*(w64 (a2.Y.B-a2.Y.A))))-v8))))+(w64 ((w64 (a2.X.B-a2.X.A))*(w64 (a2.Y.B-a2.Y.A))))))-1)) (w64 ((w64 (a2.X.B-a2.X.A))*(w64 (a2.Y.B-a2.Y.A)))))))]))) (apP zJ du l3 ([(qW.mk (Span.mk x4 (w64 (x4+((a1.getD x5.toNat du).Len)))) (w64 (Int.tdiv (w64 ((w64 ((w64 (1000*(w64 ((w64 ((w64 (a2.X.B-a2.X.A))*(w64 (a2.Y.B-a2.Y.A))))-v8))))+(w64 ((w64 (a2.X.B-a2.X.A))*(w64 (a2.Y.B-a2.Y.A))))))-1)) (w64 ((w64 (a2.X.B-a2.X.A))*(w64 (a2.Y.B-a2.Y.A)))))))]:List qW) l3.length 1 3 24 (1<=1) (ki _) rfl rfl (λ_=>rfl) (zI g11))] [0,0,0,4,0,28,60,0,252,510,1022,2047,4095] 4 [6,10] [(6,vo 1 1 3 (l3.length+1))] [1] [(1,ro 1 249 3 (l3.length+1) (rf zJ (l3++[(qW.mk (Span.mk x4 (w64 (x4+((a1.getD x5.toNat du).Len)))) (w64 (Int.tdiv (w64 ((w64 ((w64 (1000*(w64 ((w64 ((w64 (a2.X.B-a2.X.A))*(w64 (a2.Y.B-a2.Y.A))))-v8))))+(w64 ((w64 (a2.X.B-a2.X.A))*(w64 (a2.Y.B-a2.Y.A))))))-1)) (w64 ((w64 (a2.X.B-a2.X.A))*(w64 (a2.Y.B-a2.Y.A)))))))])))] ?_
   refine q_vu [] 5 [11] [(7,vi (w64 (x4+((a1.getD x5.toNat du).Len))))] [3] [] (q_vv [] 5 [29] [(29,vi (w64 (x5+1)))] ?_)
   exact q_hl (qAc a1 a2 (l3++[(qW.mk (Span.mk x4 (w64 (x4+((a1.getD x5.toNat du).Len)))) (w64 (Int.tdiv (w64 ((w64 ((w64 (1000*(w64 ((w64 ((w64 (a2.X.B-a2.X.A))*(w64 (a2.Y.B-a2.Y.A))))-v8))))+(w64 ((w64 (a2.X.B-a2.X.A))*(w64 (a2.Y.B-a2.Y.A))))))-1)) (w64 ((w64 (a2.X.B-a2.X.A))*(w64 (a2.Y.B-a2.Y.A)))))))]) (l3.length+1) (w64 (x4+((a1.getD x5.toNat du).Len))) (w64 (x5+1))) (ih (l3++[(qW.mk (Span.mk x4 (w64 (x4+((a1.getD x5.toNat du).Len)))) (w64 (Int.tdiv (w64 ((w64 ((w64 (1000*(w64 ((w64 ((w64 (a2.X.B-a2.X.A))*(w64 (a2.Y.B-a2.Y.A))))-v8))))+(w64 ((w64 (a2.X.B-a2.X.A))*(w64 (a2.Y.B-a2.Y.A))))))-1)) (w64 ((w64 (a2.X.B-a2.X.A))*(w64 (a2.Y.B-a2.Y.A)))))))]) (l3.length+1) (w64 (x4+((a1.getD x5.toNat du).Len))) (w64 (x5+1)) _ (zE rfl rfl) hm)
  ·refine q_ex 0 ?_;obtain rfl:=oi hm;exact q_l0
theorem qRf (a1:List qC) (a2:Rect) (r:(List qW)) (hm:OT a1 a2=some r):CtX Tryz.prog globs 173 0 0 [.one (tl qL du a1),.agg (qO a2)] [] (qUv r) (qUl r):=by
 unfold OT at hm;refine q_E f173 61 λE=>?_;refine s_vn [] 0 ⟨[(0,vc (tl qL du a1)),(3,vp 0 0)],[(0,bx 33 (qO a2))]⟩ (s_va 1 [(5,vi (w64 ((w64 (a2.X.B-a2.X.A))*(w64 (a2.Y.B-a2.Y.A)))))] ?_);refine s_va 1 [(6,vc (.emp))] (s_va 1 [(7,vi 0)] ?_);refine q_sq (s_vv [] 1 [0] [(27,vc (tl qL du a1)),(28,vi (a1.length:Int)),(29,vi 0)] ?_);refine q_fo 6 1 249 3 zJ ?_;obtain⟨o13,h14,hm⟩:=qB hm;refine zF (nd f173 500) 0 (by kernel_rfl) FUEL qE8 o13 (q_hl (qAc a1 a2 ([]:List qW) 0 0 0) (qMe E a1 a2 FUEL ([]:List qW) 0 0 0 o13 rfl h14)) (s_vv [] 2 [6] [(4,vo 1 0 3 o13.length)] ?_);obtain rfl:=oi hm
 exact q_sw 1 0 (q_rt q_rm)
def qB8 (r:Bool):V:=vb r
def qCs (r:Bool):List (Nat×(Nat×O)):=[]
def qL2 (a1:Rect) (x2:Int) (x7:Bool):St:=
 ⟨[(9,va (qO a1)),(10,vi x2),(27,vb x7)],[]⟩
def IP (a1:Rect) (x2:Int):St:=
 ⟨[(9,va (qO a1)),(10,vi x2)],[]⟩
def qEd :St:=
 ⟨[],[]⟩
theorem qJK (E:Env 0) (a1:Rect):∀(n:Nat) (x2:Int) (res:Bool⊕Unit),jC a1 n x2=some res->HL (kx E 29 0) (nd f172 52) (wN 0 (λo=>qEd) (λv st=>RetQ Tryz.prog f172 (qB8 v) (qCs v) .ret st) res) n (IP a1 x2):=by
 intro n
 induction n with
 |zero=>
  intro x2 res hm;cases hm
 |succ n ih=>
  intro x2 res hm;refine qT (s_va 1 [(11,vb (decide (x2<2)))] ?_);refine q_sq (q_cq hm (λhm=>?_) (λhm=>?_))
  ·refine q_sk (q_sq ?_);refine q_bk 1 ?_;obtain⟨g4,hm⟩:=qI hm;refine s_vu [qi 0 g4] 1 [11] [(4,vp 1 0)] [] [(1,bx 31 [ci (([a1.X.A,a1.X.B,a1.Y.A,a1.Y.B]:List Int).getD (x2.toNat*2+0) 0),ci (([a1.X.A,a1.X.B,a1.Y.A,a1.Y.B]:List Int).getD (x2.toNat*2+1) 0)])] (q_jn (qL2 a1 x2) (λp=>QX x2 (jC a1 n) p=some res) ?_ ?_)
   ·rintro x7 hm;refine q_cq hm (λhm=>?_) (λhm=>?_)
    ·refine s_vn [] 2 ⟨[(2,vb false)],[]⟩ ?_;obtain rfl:=oi hm;refine q_rt (zG false ?_);exact q_rm
    ·refine q_sk (q_vv [] 2 [10,27] [(10,vi (w64 (x2+1)))] ?_);exact q_hl (IP a1 (w64 (x2+1))) (ih (w64 (x2+1)) _ hm)
   ·rcases bif_c hm with⟨b5,hm⟩|⟨b5,hm⟩
    ·exact q_vu [qf 3 b5] 2 [4] [(27,vb true)] [1] [] (q_J (true) hm)
    ·rcases bif_c hm with⟨b6,hm⟩|⟨b6,hm⟩
     ·exact q_vu [qf 3 b5,qf 8 b6] 2 [4] [(27,vb true)] [1] [] (q_J (true) hm)
     ·exact q_vu [qf 3 b5,qf 8 b6] 2 [4] [(27,vb (decide ((([a1.X.A,a1.X.B,a1.Y.A,a1.Y.B]:List Int).getD (x2.toNat*2+0) 0)≥(([a1.X.A,a1.X.B,a1.Y.A,a1.Y.B]:List Int).getD (x2.toNat*2+1) 0))))] [1] [] (q_J (decide ((([a1.X.A,a1.X.B,a1.Y.A,a1.Y.B]:List Int).getD (x2.toNat*2+0) 0)≥(([a1.X.A,a1.X.B,a1.Y.A,a1.Y.B]:List Int).getD (x2.toNat*2+1) 0))) hm)
  ·refine q_ex 0 ?_;obtain rfl:=oi hm;exact q_l1 ()
theorem qPI (a1:Rect) (r:Bool) (hm:HX a1=some r):CtX Tryz.prog globs 172 0 0 [.agg (qO a1)] [] (qB8 r) (qCs r):=by
 unfold HX at hm;refine q_E f172 29 λE=>?_;refine s_vn [] 0 ⟨[(1,vp 0 0)],[(0,bx 33 (qO a1))]⟩ (q_sq ?_);refine s_vn [] 1 ⟨[(9,va (qO a1)),(10,vi 0)],[]⟩ ?_;obtain⟨u11,h10,hm⟩:=qB hm;refine zT (nd f172 52) 0 (by kernel_rfl) FUEL (λo=>qEd) (λv st=>RetQ Tryz.prog f172 (qB8 v) (qCs v) .ret st) u11 (q_hl (IP a1 0) (qJK E a1 FUEL 0 u11 h10)) ?_ ?_
 ·rintro v12 rfl st hr;obtain rfl:=oi hm;exact hr
 ·rintro o9 rfl;replace hm:_=some r:=hm;refine s_vn [] 1 ⟨[(2,vb true)],[]⟩ ?_;obtain rfl:=oi hm;exact q_rt q_rm
def qVt (r:zA×Bool):V:= .tup [.agg [cs r.1.product.Name,ci r.1.product.Thick,ci r.1.product.Width,ci r.1.product.Allow,ci r.1.product.Wane,tl qA du r.1.product.Lengths,tl qA du r.1.product.Prices,ci r.1.rect.X.A,ci r.1.rect.X.B,ci r.1.rect.Y.A,ci r.1.rect.Y.B,ci r.1.length,.own 0 0 3 r.1.zones.length,.own 1 0 7 r.1.defects.length],.one (cb r.2)]
def qV6 (r:zA×Bool):List (Nat×(Nat×O)):=[(0,ro 0 249 3 r.1.zones.length (rf zJ r.1.zones)),(1,ro 0 212 7 r.1.defects.length (rf qP r.1.defects))]
def IZ (v25:(List qW)):St:=
 ⟨[(8,vp 2 0),(13,vp 6 0)],[(2,bx 186 [cs (ByteArray.mk #[]),ci 0,ci 0,ci 0,ci 0,.emp,.emp,ci 0,ci 0,ci 0,ci 0,ci 0,.emp,.emp]),(5,ro 0 249 3 v25.length (rf zJ v25))]⟩
def qEh (a1:List qC) (a2:List qF) (a3:Product) (a4:Rect):St:=
 ⟨[(0,vc (tl qL du a1)),(1,vc (tl qP du a2)),(6,vp 0 0),(7,vp 1 0),(8,vp 2 0)],[(0,bx 54 (qH a3)),(1,bx 33 (qO a4)),(2,bx 186 [cs (ByteArray.mk #[]),ci 0,ci 0,ci 0,ci 0,.emp,.emp,ci 0,ci 0,ci 0,ci 0,ci 0,.emp,.emp])]⟩
def qGS (a2:List qF) (a3:Product) (a4:Rect) (v23:Int) (v25:(List qW)) (v27:Box) (x29:Int) (l37:List qF) (l37n:Nat):St:=
 (IZ v25).up [] [(14,vp 7 0),(83,vc (tl qP du a2)),(84,vi (a2.length:Int)),(85,vi x29)] [] [(6,bx 186 [cs a3.Name,ci a3.Thick,ci a3.Width,ci a3.Allow,ci a3.Wane,tl qA du a3.Lengths,tl qA du a3.Prices,ci a4.X.A,ci a4.X.B,ci a4.Y.A,ci a4.Y.B,ci v23,.own 5 0 3 v25.length,.own 8 0 7 l37n]),(7,bx 128 (wG v27)),(8,ro 0 212 7 l37n (rf qP l37))]
def qBc (a2:List qF) (a3:Product) (a4:Rect) (v23:Int) (v25:(List qW)) (v27:Box) (x29:Int) (l30:List qF) (l30n:Nat):St:=
 (IZ v25).up [] [(14,vp 7 0),(83,vc (tl qP du a2)),(84,vi (a2.length:Int)),(85,vi x29)] [] [(6,bx 186 [cs a3.Name,ci a3.Thick,ci a3.Width,ci a3.Allow,ci a3.Wane,tl qA du a3.Lengths,tl qA du a3.Prices,ci a4.X.A,ci a4.X.B,ci a4.Y.A,ci a4.Y.B,ci v23,.own 5 0 3 v25.length,.own 8 0 7 l30n]),(7,bx 128 (wG v27)),(8,ro 0 212 7 l30n (rf qP l30))]
def qGX (a3:Product) (a4:Rect) (v23:Int) (v25:(List qW)) (l38:List qF):St:=
 (IZ v25).up [] [] [] [(6,bx 186 [cs a3.Name,ci a3.Thick,ci a3.Width,ci a3.Allow,ci a3.Wane,tl qA du a3.Lengths,tl qA du a3.Prices,ci a4.X.A,ci a4.X.B,ci a4.Y.A,ci a4.Y.B,ci v23,.own 5 0 3 v25.length,.own 8 0 7 l38.length]),(8,ro 0 212 7 l38.length (rf qP l38))]
def qQr (a1:List qC) (a2:List qF) (a3:Product) (a4:Rect) (x21:Bool):St:=
 (qEh a1 a2 a3 a4).up [] [(68,vb x21)] [] []
def qOP (a1:List qC) (a2:List qF) (a3:Product) (a4:Rect) (x16:Bool):St:=
 (qEh a1 a2 a3 a4).up [] [(35,vb x16)] [] []
theorem qNl (E:Env 0) (a2:List qF) (a3:Product) (a4:Rect) (v23:Int) (v25:(List qW)) (v27:Box):∀(n:Nat) (x29:Int) (l30:List qF) (l30n:Nat) (res:(List qF)),l30.length=l30n->JV a2 v27 n x29 l30=some res->HL (kx E 100 0) (nd f126 4084) (zL 0 (λo=>qGX a3 a4 v23 v25 o) res) n (qBc a2 a3 a4 v23 v25 v27 x29 l30 l30n):=by
 intro n
 induction n with
 |zero=>
  intro x29 l30 l30n res hl0 hm;cases hm
 |succ n ih=>
  intro x29 l30 l30n res hl0 hm;subst hl0;refine qT (s_va 9 [(86,vb (decide (x29<(a2.length:Int))))] ?_);refine q_sq (q_cq hm (λhm=>?_) (λhm=>?_))
  ·refine q_sk (q_jn (ι:=(List qF)×Nat) (λp=>qGS a2 a3 a4 v23 v25 v27 x29 p.1 p.2) (λp=>p.1.length=p.2/\CC x29 (JV a2 v27 n) p.1=some res) ?_ ?_)
   ·rintro⟨l37,l37n⟩ ⟨el37,hm⟩;replace el37:l37.length=l37n:=el37;subst el37;show H _ (qGS a2 a3 a4 v23 v25 v27 x29 l37 l37.length) _ _;exact q_vv [] 11 [85] [(85,vi (w64 (x29+1)))] (q_hl (qBc a2 a3 a4 v23 v25 v27 (w64 (x29+1)) l37 l37.length) (ih (w64 (x29+1)) l37 l37.length _ rfl hm))
   ·refine q_bk 1 ?_;obtain⟨g32,hm⟩:=qI hm;refine s_vu [qi 0 g32] 9 [86] [(16,vp 9 0)] [] [(9,bx 212 (qP (a2.getD x29.toNat du)))] ?_;obtain⟨v33,h34,hm⟩:=qB hm;refine s_vv [qc 2 [89,90] 10 (qEm (a2.getD x29.toNat du) v27 v33 h34)] 10 [] [(91,vb v33)] (q_cq hm (λhm=>?_) (λhm=>?_))
    ·obtain⟨g36,hm⟩:=qI hm
     exact q_vu [qd 3 (drw 10 0 (rf qP [(a2.getD x29.toNat du)])) (litP qP du 7 (λ_=>rfl) ([(a2.getD x29.toNat du)]:List qF) 1 rfl),qd 4 (drw 8 1 (rf qP (l30++[(a2.getD x29.toNat du)]))) (apP qP du l30 ([(a2.getD x29.toNat du)]:List qF) l30.length 1 7 56 (1<=1) (ki _) rfl rfl (λ_=>rfl) (zI g36))] 10 [16,91] [] [6,8,9] [(6,bx 186 [cs a3.Name,ci a3.Thick,ci a3.Width,ci a3.Allow,ci a3.Wane,tl qA du a3.Lengths,tl qA du a3.Prices,ci a4.X.A,ci a4.X.B,ci a4.Y.A,ci a4.Y.B,ci v23,.own 5 0 3 v25.length,.own 8 1 7 (l30.length+1)]),(8,ro 1 212 7 (l30.length+1) (rf qP (l30++[(a2.getD x29.toNat du)])))] (q_J ((l30++[(a2.getD x29.toNat du)]),(l30.length+1)) ⟨(zE rfl rfl),hm⟩)
    ·exact q_sk (q_J (l30,l30.length) ⟨rfl,hm⟩)
  ·refine q_ex 0 ?_;obtain rfl:=oi hm;exact q_l0
theorem qTP (a1:List qC) (a2:List qF) (a3:Product) (a4:Rect) (r:zA×Bool) (hm:qBC a1 a2 a3 a4=some r):CtX Tryz.prog globs 126 0 0 [.one (tl qL du a1),.one (tl qP du a2),.agg (qH a3),.agg (qO a4)] [] (qVt r) (qV6 r):=by
 unfold qBC at hm;refine q_E f126 100 λE=>?_;refine s_vn [] 0 ⟨[(0,vc (tl qL du a1)),(1,vc (tl qP du a2)),(6,vp 0 0),(7,vp 1 0),(8,vp 2 0)],[(0,bx 54 (qH a3)),(1,bx 33 (qO a4)),(2,bx 186 [cs (ByteArray.mk #[]),ci 0,ci 0,ci 0,ci 0,.emp,.emp,ci 0,ci 0,ci 0,ci 0,ci 0,.emp,.emp])]⟩ (q_sq ?_);refine q_jn (qOP a1 a2 a3 a4) (λp=>TW a1 a2 a3 a4 p=some r) ?_ ?_
 ·rintro x16 hm;refine q_cq hm (λhm=>?_) (λhm=>?_)
  ·refine s_vu [] 4 [0,1,6,7,35] [(9,vb false)] [0,1] [] (q_fu [.ownB 2 5 4 3 1 (rf qA [])] [] [] [2] [(2,bx 186 [cs (ByteArray.mk #[]),ci 0,ci 0,ci 0,ci 0,.own 4 0 1 0,.emp,ci 0,ci 0,ci 0,ci 0,ci 0,.emp,.emp]),(4,ro 0 3 1 0 (rf qA []))] o0 ?_)
   refine q_fu [.ownB 2 6 5 3 1 (rf qA [])] [] [] [2] [(2,bx 186 [cs (ByteArray.mk #[]),ci 0,ci 0,ci 0,ci 0,.own 4 0 1 0,.own 5 0 1 0,ci 0,ci 0,ci 0,ci 0,ci 0,.emp,.emp]),(5,ro 0 3 1 0 (rf qA []))] o0 (q_fu [.ownB 2 12 6 249 3 (rf zJ [])] [] [] [2] [(2,bx 186 [cs (ByteArray.mk #[]),ci 0,ci 0,ci 0,ci 0,.own 4 0 1 0,.own 5 0 1 0,ci 0,ci 0,ci 0,ci 0,ci 0,.own 6 0 3 0,.emp]),(6,ro 0 249 3 0 (rf zJ []))] o0 ?_)
   refine q_fu [.ownB 2 13 7 212 7 (rf qP [])] [] [] [2] [(2,bx 186 [cs (ByteArray.mk #[]),ci 0,ci 0,ci 0,ci 0,.own 4 0 1 0,.own 5 0 1 0,ci 0,ci 0,ci 0,ci 0,ci 0,.own 6 0 3 0,.own 7 0 7 0]),(7,ro 0 212 7 0 (rf qP []))] o0 (q_fu [.len 4 (([]:List Int).length),.frz 4] [] [] [2,4] [(2,bx 186 [cs (ByteArray.mk #[]),ci 0,ci 0,ci 0,ci 0,tl qA du ([]:List Int),.own 5 0 1 0,ci 0,ci 0,ci 0,ci 0,ci 0,.own 6 0 3 0,.own 7 0 7 0])] (o1 (And.intro (And.intro (show 0=([]:List Int).length from rfl) (show 0=([]:List Int).length from rfl)) (ki (([]:List Int).length)))) ?_)
   refine q_fu [.len 5 (([]:List Int).length),.frz 5] [] [] [2,5] [(2,bx 186 [cs (ByteArray.mk #[]),ci 0,ci 0,ci 0,ci 0,tl qA du ([]:List Int),tl qA du ([]:List Int),ci 0,ci 0,ci 0,ci 0,ci 0,.own 6 0 3 0,.own 7 0 7 0])] (o1 (And.intro (And.intro (show 0=([]:List Int).length from rfl) (show 0=([]:List Int).length from rfl)) (ki (([]:List Int).length)))) (q_fu [.len 6 (([]:List qW).length)] [] [] [2,6] [(2,bx 186 [cs (ByteArray.mk #[]),ci 0,ci 0,ci 0,ci 0,tl qA du ([]:List Int),tl qA du ([]:List Int),ci 0,ci 0,ci 0,ci 0,ci 0,.own 6 0 3 (([]:List qW).length),.own 7 0 7 0]),(6,ro 0 249 3 (([]:List qW).length) (rf zJ []))] (o1 (And.intro (show 0=([]:List qW).length from rfl) (show 0=([]:List qW).length from rfl))) ?_)
   refine q_fu [.len 7 (([]:List qF).length)] [] [] [2,7] [(2,bx 186 [cs (ByteArray.mk #[]),ci 0,ci 0,ci 0,ci 0,tl qA du ([]:List Int),tl qA du ([]:List Int),ci 0,ci 0,ci 0,ci 0,ci 0,.own 6 0 3 (([]:List qW).length),.own 7 0 7 (([]:List qF).length)]),(7,ro 0 212 7 (([]:List qF).length) (rf qP []))] (o1 (And.intro (show 0=([]:List qF).length from rfl) (show 0=([]:List qF).length from rfl))) ?_;obtain rfl:=oi hm;refine q_sw 6 0 (q_sw 7 1 ?_);exact q_rt q_rm
  ·refine q_sk ?_;obtain⟨v18,h19,hm⟩:=qB hm;refine s_vv [qc 1 [38] 4 (NS a3 v18 h19)] 4 [35] [(10,vi v18.1),(11,vi v18.2)] (s_vu [] 4 [] [(12,vp 4 0)] [] [(4,bx 227 [ci (w64 (a4.X.B-a4.X.A)),ci (w64 (a4.Y.B-a4.Y.A))])] ?_);refine q_sq (q_jn (qQr a1 a2 a3 a4) (λp=>FO a1 a2 a3 a4 p=some r) ?_ ?_)
   ·rintro x21 hm;refine q_cq hm (λhm=>?_) (λhm=>?_)
    ·refine s_vu [] 5 [0,1,6,7,68] [(9,vb false)] [0,1] [] (q_fu [.ownB 2 5 5 3 1 (rf qA [])] [] [] [2] [(2,bx 186 [cs (ByteArray.mk #[]),ci 0,ci 0,ci 0,ci 0,.own 5 0 1 0,.emp,ci 0,ci 0,ci 0,ci 0,ci 0,.emp,.emp]),(5,ro 0 3 1 0 (rf qA []))] o0 ?_)
     refine q_fu [.ownB 2 6 6 3 1 (rf qA [])] [] [] [2] [(2,bx 186 [cs (ByteArray.mk #[]),ci 0,ci 0,ci 0,ci 0,.own 5 0 1 0,.own 6 0 1 0,ci 0,ci 0,ci 0,ci 0,ci 0,.emp,.emp]),(6,ro 0 3 1 0 (rf qA []))] o0 (q_fu [.ownB 2 12 7 249 3 (rf zJ [])] [] [] [2] [(2,bx 186 [cs (ByteArray.mk #[]),ci 0,ci 0,ci 0,ci 0,.own 5 0 1 0,.own 6 0 1 0,ci 0,ci 0,ci 0,ci 0,ci 0,.own 7 0 3 0,.emp]),(7,ro 0 249 3 0 (rf zJ []))] o0 ?_)
     refine q_fu [.ownB 2 13 8 212 7 (rf qP [])] [] [] [2] [(2,bx 186 [cs (ByteArray.mk #[]),ci 0,ci 0,ci 0,ci 0,.own 5 0 1 0,.own 6 0 1 0,ci 0,ci 0,ci 0,ci 0,ci 0,.own 7 0 3 0,.own 8 0 7 0]),(8,ro 0 212 7 0 (rf qP []))] o0 (q_fu [.len 5 (([]:List Int).length),.frz 5] [] [] [2,5] [(2,bx 186 [cs (ByteArray.mk #[]),ci 0,ci 0,ci 0,ci 0,tl qA du ([]:List Int),.own 6 0 1 0,ci 0,ci 0,ci 0,ci 0,ci 0,.own 7 0 3 0,.own 8 0 7 0])] (o1 (And.intro (And.intro (show 0=([]:List Int).length from rfl) (show 0=([]:List Int).length from rfl)) (ki (([]:List Int).length)))) ?_)
     refine q_fu [.len 6 (([]:List Int).length),.frz 6] [] [] [2,6] [(2,bx 186 [cs (ByteArray.mk #[]),ci 0,ci 0,ci 0,ci 0,tl qA du ([]:List Int),tl qA du ([]:List Int),ci 0,ci 0,ci 0,ci 0,ci 0,.own 7 0 3 0,.own 8 0 7 0])] (o1 (And.intro (And.intro (show 0=([]:List Int).length from rfl) (show 0=([]:List Int).length from rfl)) (ki (([]:List Int).length)))) (q_fu [.len 7 (([]:List qW).length)] [] [] [2,7] [(2,bx 186 [cs (ByteArray.mk #[]),ci 0,ci 0,ci 0,ci 0,tl qA du ([]:List Int),tl qA du ([]:List Int),ci 0,ci 0,ci 0,ci 0,ci 0,.own 7 0 3 (([]:List qW).length),.own 8 0 7 0]),(7,ro 0 249 3 (([]:List qW).length) (rf zJ []))] (o1 (And.intro (show 0=([]:List qW).length from rfl) (show 0=([]:List qW).length from rfl))) ?_)
     refine q_fu [.len 8 (([]:List qF).length)] [] [] [2,8] [(2,bx 186 [cs (ByteArray.mk #[]),ci 0,ci 0,ci 0,ci 0,tl qA du ([]:List Int),tl qA du ([]:List Int),ci 0,ci 0,ci 0,ci 0,ci 0,.own 7 0 3 (([]:List qW).length),.own 8 0 7 (([]:List qF).length)]),(8,ro 0 212 7 (([]:List qF).length) (rf qP []))] (o1 (And.intro (show 0=([]:List qF).length from rfl) (show 0=([]:List qF).length from rfl))) ?_;obtain rfl:=oi hm;refine q_sw 7 0 (q_sw 8 1 ?_);exact q_rt q_rm
    ·refine q_sk ?_;obtain⟨v23,h24,hm⟩:=qB hm;obtain⟨v25,h26,hm⟩:=qB hm;refine s_du [qc 3 [72] 5 (VI a1 v23 h24),qc 6 [74,75] 5 (qRf a1 a4 v25 h26)] [0,0,0,4,0,0,60,127,0,511] 5 [0,6,7,68] [(13,vp 6 0)] [0,1] [(5,ro 0 249 3 v25.length (rf zJ v25)),(6,bx 186 [cs a3.Name,ci a3.Thick,ci a3.Width,ci a3.Allow,ci a3.Wane,tl qA du a3.Lengths,tl qA du a3.Prices,ci a4.X.A,ci a4.X.B,ci a4.Y.A,ci a4.Y.B,ci v23,.own 5 0 3 v25.length,.emp])] ?_;obtain⟨v27,h28,hm⟩:=qB hm
     refine s_vu [qd 4 (dex (cen [] [] 7 0 (qEV v27) (NV v27) [78,81] [5])) (wU (K:=(kx E 100 0)) (b:=false) ⟨[(78,va [cs a3.Name,ci a3.Thick,ci a3.Width,ci a3.Allow,ci a3.Wane,tl qA du a3.Lengths,tl qA du a3.Prices,ci a4.X.A,ci a4.X.B,ci a4.Y.A,ci a4.Y.B,ci v23,.own 5 0 3 v25.length,.emp]),(81,va [ci 0,ci v23])],[(5,ro 0 249 3 v25.length (rf zJ v25))]⟩ (opAt (rg f126 254) 4) [] [] 7 (o1 (ki v25.length)) rfl (CtX.emp (xs':=[.agg [cs a3.Name,ci a3.Thick,ci a3.Width,ci a3.Allow,ci a3.Wane,tl qA du a3.Lengths,tl qA du a3.Prices,ci a4.X.A,ci a4.X.B,ci a4.Y.A,ci a4.Y.B,ci v23,tl zJ du v25,.emp],.agg [ci 0,ci v23]]) (qD1 (zA.mk a3 a4 v23 v25 ([]:List qF)) (Span.mk 0 v23) v27 h28) (And.intro (And.intro rfl (And.intro rfl (And.intro rfl (And.intro rfl (And.intro rfl (And.intro rfl (And.intro rfl (And.intro rfl (And.intro rfl (And.intro rfl (And.intro rfl (And.intro rfl (And.intro rfl (And.intro rfl trivial)))))))))))))) (And.intro (And.intro rfl (And.intro rfl trivial)) trivial))) (.inr ⟨(by kernel_rfl),qNr v27⟩) (by kernel_rfl))] 7 [] [(14,vp 7 0)] [] [(7,bx 128 (wG v27))] ?_
     refine q_sq (s_vv [] 8 [1] [(83,vc (tl qP du a2)),(84,vi (a2.length:Int)),(85,vi 0)] ?_);refine q_fu [.ownB 6 13 8 212 7 (rf qP [])] [] [] [6] [(6,bx 186 [cs a3.Name,ci a3.Thick,ci a3.Width,ci a3.Allow,ci a3.Wane,tl qA du a3.Lengths,tl qA du a3.Prices,ci a4.X.A,ci a4.X.B,ci a4.Y.A,ci a4.Y.B,ci v23,.own 5 0 3 v25.length,.own 8 0 7 0]),(8,ro 0 212 7 0 (rf qP []))] o0 ?_;obtain⟨o39,h40,hm⟩:=qB hm
     refine zF (nd f126 4084) 0 (by kernel_rfl) FUEL (λo=>qGX a3 a4 v23 v25 o) o39 (q_hl (qBc a2 a3 a4 v23 v25 v27 0 ([]:List qF) 0) (qNl E a2 a3 a4 v23 v25 v27 FUEL 0 ([]:List qF) 0 o39 rfl h40)) (s_vu [] 9 [13] [(9,vb true)] [2,6] [(2,bx 186 [cs a3.Name,ci a3.Thick,ci a3.Width,ci a3.Allow,ci a3.Wane,tl qA du a3.Lengths,tl qA du a3.Prices,ci a4.X.A,ci a4.X.B,ci a4.Y.A,ci a4.Y.B,ci v23,.own 5 0 3 v25.length,.own 8 0 7 o39.length])] ?_);obtain rfl:=oi hm;refine q_sw 5 0 (q_sw 8 1 ?_);exact q_rt q_rm
   ·rcases bif_c hm with⟨b20,hm⟩|⟨b20,hm⟩
    ·exact q_vu [qf 5 b20] 5 [10,11,12] [(68,vb (!(((w64 (a4.X.B-a4.X.A))==v18.2)&&(((w64 (a4.Y.B-a4.Y.A))==v18.1)&&true))))] [4] [] (q_J (!(((w64 (a4.X.B-a4.X.A))==v18.2)&&(((w64 (a4.Y.B-a4.Y.A))==v18.1)&&true))) hm)
    ·exact q_vu [qf 5 b20] 5 [10,11,12] [(68,vb false)] [4] [] (q_J (false) hm)
 ·obtain⟨v5,h6,hm⟩:=qB hm;rcases bif_c hm with⟨b7,hm⟩|⟨b7,hm⟩
  ·exact q_vv [qc 1 [17] 3 (YM a1 v5 h6),qf 3 b7] 3 [] [(35,vb true)] (q_J (true) hm)
  ·obtain⟨v8,h9,hm⟩:=qB hm;rcases bif_c hm with⟨b10,hm⟩|⟨b10,hm⟩
   ·exact q_vv [qc 1 [17] 3 (YM a1 v5 h6),qf 3 b7,qk 5 [20,21] 3 ⟨[(20,vb false),(21,vc (tl qP du a2))],[]⟩ (UI a2 v8 h9),qf 8 b10] 3 [] [(35,vb true)] (q_J (true) hm)
   ·obtain⟨v11,h12,hm⟩:=qB hm;rcases bif_c hm with⟨b13,hm⟩|⟨b13,hm⟩
    ·exact q_vv [qc 1 [17] 3 (YM a1 v5 h6),qf 3 b7,qk 5 [20,21] 3 ⟨[(20,vb false),(21,vc (tl qP du a2))],[]⟩ (UI a2 v8 h9),qf 8 b10,qd 10 (drw 3 0 (rf qH [a3])) (litP qH du 7 (λ_=>rfl) ([a3]:List Product) 1 rfl),qd 11 (dex (cen [] [] 4 0 (UN v11) (JJ v11) [25,27] [3])) (wU (K:=(kx E 100 0)) (xs':=[.one (.lst 1 (rf qH [a3]))]) (b:=false) ⟨[(25,vb false),(27,vo 3 0 7 1)],[(3,ro 0 54 7 1 (rf qH [a3]))]⟩ (opAt (rg f126 12) 11) [] [] 4 (o1 (ki 1)) (by simp only[tl,rf,show([a3]:List Product).length=1 from rfl]) (jZ ([a3]:List Product) v11 h12) (.inr ⟨(by kernel_rfl),qGY v11⟩) (by kernel_rfl)),qf 14 b13] 3 [] [(35,vb true)] (q_J (true) hm)
    ·obtain⟨v14,h15,hm⟩:=qB hm
     refine q_vv [qc 1 [17] 3 (YM a1 v5 h6),qf 3 b7,qk 5 [20,21] 3 ⟨[(20,vb false),(21,vc (tl qP du a2))],[]⟩ (UI a2 v8 h9),qf 8 b10,qd 10 (drw 3 0 (rf qH [a3])) (litP qH du 7 (λ_=>rfl) ([a3]:List Product) 1 rfl),qd 11 (dex (cen [] [] 4 0 (UN v11) (JJ v11) [25,27] [3])) (wU (K:=(kx E 100 0)) (xs':=[.one (.lst 1 (rf qH [a3]))]) (b:=false) ⟨[(25,vb false),(27,vo 3 0 7 1)],[(3,ro 0 54 7 1 (rf qH [a3]))]⟩ (opAt (rg f126 12) 11) [] [] 4 (o1 (ki 1)) (by simp only[tl,rf,show([a3]:List Product).length=1 from rfl]) (jZ ([a3]:List Product) v11 h12) (.inr ⟨(by kernel_rfl),qGY v11⟩) (by kernel_rfl)),qf 14 b13,qk 16 [31,32] 4 ⟨[(31,vb false),(32,va (qO a4))],[]⟩ (qPI a4 v14 h15)] 3 [] [(35,vb (!v14))] ?_
     exact q_J (!v14) hm
open Go.Proofs Go.Proofs.Tryz
def qVb (r:Span×Int×Bool):V:= .tup [.agg (qG r.1),.one (ci r.2.1),.one (cb r.2.2)]
def qUZ (r:Span×Int×Bool):List (Nat×(Nat×O)):=[]
def PF (a3:Product) (a5:Int) (a6:Int) (v14:zA×Bool) (x19:Int):St:=
 ⟨[(4,vi a5),(5,vi a6),(8,vp 0 0),(12,vp 2 0),(15,vp 5 0),(17,vp 6 0),(20,vi x19)],[(0,bx 54 (qH a3)),(2,bx 31 [ci 0,ci 0]),(3,ro 0 249 3 v14.1.zones.length (rf zJ v14.1.zones)),(4,ro 0 212 7 v14.1.defects.length (rf qP v14.1.defects)),(5,bx 186 [cs v14.1.product.Name,ci v14.1.product.Thick,ci v14.1.product.Width,ci v14.1.product.Allow,ci v14.1.product.Wane,tl qA du v14.1.product.Lengths,tl qA du v14.1.product.Prices,ci v14.1.rect.X.A,ci v14.1.rect.X.B,ci v14.1.rect.Y.A,ci v14.1.rect.Y.B,ci v14.1.length,.own 3 0 3 v14.1.zones.length,.own 4 0 7 v14.1.defects.length])]⟩
def qGe (a3:Product) (a5:Int) (a6:Int) (v14:zA×Bool) (x19:Int) (x24:Int) (x34:Int) (x35:Bool) (x36:Span):St:=
 (PF a3 a5 a6 v14 x19).up [] [(18,vi x34),(19,vb x35),(54,vc (tl qA du a3.Lengths)),(55,vi (a3.Lengths.length:Int)),(56,vi x24)] [] [(6,bx 31 (qG x36))]
def qQE (a3:Product) (a5:Int) (a6:Int) (v14:zA×Bool) (x19:Int) (x22:Int) (x23:Bool) (x24:Int) (x25:Span) (v28:Int×Bool) (x32:Bool):St:=
 (PF a3 a5 a6 v14 x19).up [] [(18,vi x22),(19,vb x23),(23,vp 7 0),(24,vi v28.1),(54,vc (tl qA du a3.Lengths)),(55,vi (a3.Lengths.length:Int)),(56,vi x24),(81,vb x32)] [] [(6,bx 31 (qG x25)),(7,bx 31 [ci x19,ci (w64 (x19+(a3.Lengths.getD x24.toNat du)))])]
def qBx (a3:Product) (a5:Int) (a6:Int) (v14:zA×Bool) (x19:Int) (x22:Int) (x23:Bool) (x24:Int) (x25:Span):St:=
 (PF a3 a5 a6 v14 x19).up [] [(18,vi x22),(19,vb x23),(54,vc (tl qA du a3.Lengths)),(55,vi (a3.Lengths.length:Int)),(56,vi x24)] [] [(6,bx 31 (qG x25))]
def qGQ (a3:Product) (a5:Int) (a6:Int) (v14:zA×Bool) (x19:Int) (x37:Int) (x38:Bool) (x39:Span):St:=
 (PF a3 a5 a6 v14 x19).up [] [(18,vi x37),(19,vb x38)] [] [(6,bx 31 (qG x39))]
def qBl (a3:Product) (a5:Int) (a6:Int) (v14:zA×Bool) (x17:Int) (x18:Bool) (x19:Int) (x20:Span):St:=
 (PF a3 a5 a6 v14 x19).up [] [(18,vi x17),(19,vb x18)] [] [(6,bx 31 (qG x20))]
def qGi (x42:Int) (x43:Bool) (x44:Span):St:=
 ⟨[(12,vp 2 0),(17,vp 6 0),(18,vi x42),(19,vb x43)],[(2,bx 31 [ci 0,ci 0]),(6,bx 31 (qG x44))]⟩
def qO2 (a1:List qC) (a2:List qF) (a3:Product) (a4:Rect) (a5:Int) (a6:Int) (x12:Bool):St:=
 ⟨[(0,vc (tl qL du a1)),(1,vc (tl qP du a2)),(4,vi a5),(5,vi a6),(8,vp 0 0),(9,vp 1 0),(12,vp 2 0),(33,vb x12)],[(0,bx 54 (qH a3)),(1,bx 33 (qO a4)),(2,bx 31 [ci 0,ci 0])]⟩
theorem qM3 (E:Env 0) (a3:Product) (a5:Int) (a6:Int) (v14:zA×Bool) (x19:Int):∀(n:Nat) (x22:Int) (x23:Bool) (x24:Int) (x25:Span) (res:Int×Bool×Span),yH a3 a6 v14 x19 n x22 x23 x24 x25=some res->HL (kx E 88 0) (nd f68 130340) (zL 2 (λo=>qGQ a3 a5 a6 v14 x19 o.1 o.2.1 o.2.2) res) n (qBx a3 a5 a6 v14 x19 x22 x23 x24 x25):=by
 intro n
 induction n with
 |zero=>
  intro x22 x23 x24 x25 res hm;cases hm
 |succ n ih=>
  intro x22 x23 x24 x25 res hm;refine qT (s_va 7 [(57,vb (decide (x24<(a3.Lengths.length:Int))))] ?_);refine q_sq (q_cq hm (λhm=>?_) (λhm=>?_))
  ·refine q_sk (q_jn (ι:=Int×Bool×Span) (λp=>qGe a3 a5 a6 v14 x19 x24 p.1 p.2.1 p.2.2) (λp=>CJ x24 (yH a3 a6 v14 x19 n) p.1 p.2.1 p.2.2=some res) ?_ ?_)
   ·rintro⟨x34,x35,x36⟩ hm;show H _ (qGe a3 a5 a6 v14 x19 x24 x34 x35 x36) _ _;exact q_vv [] 8 [56] [(56,vi (w64 (x24+1)))] (q_hl (qBx a3 a5 a6 v14 x19 x34 x35 (w64 (x24+1)) x36) (ih x34 x35 (w64 (x24+1)) x36 _ hm))
   ·refine q_bk 3 ?_;obtain⟨g27,hm⟩:=qI hm;refine s_vv [qi 0 g27] 7 [57] [(22,vi (a3.Lengths.getD x24.toNat du))] (s_vu [] 7 [22] [(23,vp 7 0)] [] [(7,bx 31 [ci x19,ci (w64 (x19+(a3.Lengths.getD x24.toNat du)))])] ?_);obtain⟨v28,h29,hm⟩:=qB hm
    refine s_vv [qd 3 (dex (cen [] [] 8 0 (UR v28) (WA v28) [66,67,68] [3,4])) (wU (K:=(kx E 88 0)) (b:=false) ⟨[(66,va [cs v14.1.product.Name,ci v14.1.product.Thick,ci v14.1.product.Width,ci v14.1.product.Allow,ci v14.1.product.Wane,tl qA du v14.1.product.Lengths,tl qA du v14.1.product.Prices,ci v14.1.rect.X.A,ci v14.1.rect.X.B,ci v14.1.rect.Y.A,ci v14.1.rect.Y.B,ci v14.1.length,.own 3 0 3 v14.1.zones.length,.own 4 0 7 v14.1.defects.length]),(67,va [ci x19,ci (w64 (x19+(a3.Lengths.getD x24.toNat du)))]),(68,vi a6)],[(3,ro 0 249 3 v14.1.zones.length (rf zJ v14.1.zones)),(4,ro 0 212 7 v14.1.defects.length (rf qP v14.1.defects))]⟩ (opAt (rg f68 16683622) 3) [] [] 8 (o1 (And.intro (ki v14.1.zones.length) (ki v14.1.defects.length))) rfl (qJw (zA.mk v14.1.product v14.1.rect v14.1.length v14.1.zones v14.1.defects) (Span.mk x19 (w64 (x19+(a3.Lengths.getD x24.toNat du)))) a6 v28 h29) (.inr ⟨(by kernel_rfl),qKn v28⟩) (by kernel_rfl))] 8 [] [(24,vi v28.1),(25,vb v28.2)] ?_
    refine q_jn (qQE a3 a5 a6 v14 x19 x22 x23 x24 x25 v28) (λp=>FM a3 x19 x22 x23 x24 x25 (yH a3 a6 v14 x19 n) v28 p=some res) ?_ ?_
    ·rintro x32 hm;refine q_cq hm (λhm=>?_) (λhm=>?_)
     ·exact q_vu [] 8 [18,19,23,24,81] [(18,vi v28.1),(19,vb true)] [6,7] [(6,bx 31 [ci x19,ci (w64 (x19+(a3.Lengths.getD x24.toNat du)))])] (q_J (v28.1,true,(Span.mk x19 (w64 (x19+(a3.Lengths.getD x24.toNat du))))) hm)
     ·exact q_sk (q_J (x22,x23,x25) hm)
    ·rcases bif_c hm with⟨b30,hm⟩|⟨b30,hm⟩
     ·rcases bif_c hm with⟨b31,hm⟩|⟨b31,hm⟩
      ·exact q_vv [qf 1 b30,qf 4 b31] 8 [25] [(81,vb true)] (q_J (true) hm)
      ·exact q_vv [qf 1 b30,qf 4 b31] 8 [25] [(81,vb (decide (v28.1>x22)))] (q_J (decide (v28.1>x22)) hm)
     ·exact q_vv [qf 1 b30] 8 [25] [(81,vb false)] (q_J (false) hm)
  ·refine q_ex 2 ?_;obtain rfl:=oi hm;exact q_l0
theorem qNt (E:Env 0) (a3:Product) (a5:Int) (a6:Int) (v14:zA×Bool):∀(n:Nat) (x17:Int) (x18:Bool) (x19:Int) (x20:Span) (res:Int×Bool×Span),KV a3 a5 a6 v14 n x17 x18 x19 x20=some res->HL (kx E 88 0) (nd f68 2036) (zL 0 (λo=>qGi o.1 o.2.1 o.2.2) res) n (qBl a3 a5 a6 v14 x17 x18 x19 x20):=by
 intro n
 induction n with
 |zero=>
  intro x17 x18 x19 x20 res hm;cases hm
 |succ n ih=>
  intro x17 x18 x19 x20 res hm;refine qT (q_sq ?_);refine s_va 7 [(49,vb (decide (x19<v14.1.length)))] (q_cq hm (λhm=>?_) (λhm=>?_))
  ·refine q_sk (q_sq ?_);refine q_bk 1 (s_vv [] 7 [49] [(54,vc (tl qA du a3.Lengths)),(55,vi (a3.Lengths.length:Int)),(56,vi 0)] ?_);obtain⟨o40,h41,hm⟩:=qB hm;refine zF (nd f68 130340) 2 (by kernel_rfl) FUEL (λo=>qGQ a3 a5 a6 v14 x19 o.1 o.2.1 o.2.2) o40 (q_hl (qBx a3 a5 a6 v14 x19 x17 x18 0 x20) (qM3 E a3 a5 a6 v14 x19 FUEL x17 x18 0 x20 o40 h41)) (q_vv [] 7 [20] [(20,vi (w64 (x19+a5)))] ?_);exact q_hl (qBl a3 a5 a6 v14 o40.1 o40.2.1 (w64 (x19+a5)) o40.2.2) (ih o40.1 o40.2.1 (w64 (x19+a5)) o40.2.2 _ hm)
  ·refine q_ex 0 ?_;obtain rfl:=oi hm;exact q_l0
theorem qUq (a1:List qC) (a2:List qF) (a3:Product) (a4:Rect) (a5:Int) (a6:Int) (r:Span×Int×Bool) (hm:EL a1 a2 a3 a4 a5 a6=some r):CtX Tryz.prog globs 68 0 0 [.one (tl qL du a1),.one (tl qP du a2),.agg (qH a3),.agg (qO a4),.one (ci a5),.one (ci a6)] [] (qVb r) (qUZ r):=by
 unfold EL at hm;refine q_E f68 88 λE=>?_;refine s_vn [] 0 ⟨[(0,vc (tl qL du a1)),(1,vc (tl qP du a2)),(4,vi a5),(5,vi a6),(8,vp 0 0),(9,vp 1 0),(12,vp 2 0)],[(0,bx 54 (qH a3)),(1,bx 33 (qO a4)),(2,bx 31 [ci 0,ci 0])]⟩ (q_sq ?_);refine q_jn (qO2 a1 a2 a3 a4 a5 a6) (λp=>CM a1 a2 a3 a4 a5 a6 p=some r) ?_ ?_
 ·rintro x12 hm;refine q_cq hm (λhm=>?_) (λhm=>?_)
  ·refine s_vu [] 3 [0,1,4,5,8,9,33] [(13,vi 0),(14,vb false)] [0,1] [] ?_;obtain rfl:=oi hm;exact q_rt q_rm
  ·refine q_sk ?_;obtain⟨v14,h15,hm⟩:=qB hm
   refine s_vu [qc 4 [36,37,38,39] 3 (qTP a1 a2 a3 a4 v14 h15)] 3 [0,1,9,33] [(15,vp 5 0),(16,vb v14.2)] [1] [(3,ro 0 249 3 v14.1.zones.length (rf zJ v14.1.zones)),(4,ro 0 212 7 v14.1.defects.length (rf qP v14.1.defects)),(5,bx 186 [cs v14.1.product.Name,ci v14.1.product.Thick,ci v14.1.product.Width,ci v14.1.product.Allow,ci v14.1.product.Wane,tl qA du v14.1.product.Lengths,tl qA du v14.1.product.Prices,ci v14.1.rect.X.A,ci v14.1.rect.X.B,ci v14.1.rect.Y.A,ci v14.1.rect.Y.B,ci v14.1.length,.own 3 0 3 v14.1.zones.length,.own 4 0 7 v14.1.defects.length])] (q_sq ?_)
   refine s_vv [] 6 [16] [(44,vb (!v14.2))] (q_cq hm (λhm=>?_) (λhm=>?_))
   ·refine s_vu [] 6 [4,5,8,15,44] [(13,vi 0),(14,vb false)] [0,3,4,5] [] ?_;obtain rfl:=oi hm;exact q_rt q_rm
   ·refine q_sk (s_vu [] 6 [44] [(17,vp 6 0)] [] [(6,bx 31 [ci 0,ci 0])] ?_);refine s_va 7 [(18,vi 0),(19,vb false)] (q_sq ?_);refine s_va 7 [(20,vi 0)] ?_;obtain⟨o45,h46,hm⟩:=qB hm;refine zF (nd f68 2036) 0 (by kernel_rfl) FUEL (λo=>qGi o.1 o.2.1 o.2.2) o45 (q_hl (qBl a3 a5 a6 v14 0 false 0 (Span.mk 0 0)) (qNt E a3 a5 a6 v14 FUEL 0 false 0 (Span.mk 0 0) o45 h46)) (s_vn [] 7 ⟨[(12,vp 2 0),(13,vi o45.1),(14,vb o45.2.1)],[(2,bx 31 (qG o45.2.2))]⟩ ?_);obtain rfl:=oi hm;exact q_rt q_rm
 ·obtain⟨v7,h8,hm⟩:=qB hm;rcases bif_c hm with⟨b9,hm⟩|⟨b9,hm⟩
  ·exact q_vv [qc 1 [26] 3 (qBt a5 v7 h8),qf 3 b9] 3 [] [(33,vb true)] (q_J (true) hm)
  ·obtain⟨v10,h11,hm⟩:=qB hm;exact q_vv [qc 1 [26] 3 (qBt a5 v7 h8),qf 3 b9,qk 5 [29,30] 3 ⟨[(29,vb false),(30,vi a6)],[]⟩ (qFX a6 v10 h11)] 3 [] [(33,vb (!v10))] (q_J (!v10) hm)
def qPO (r:(List Span)):V:=vo 0 0 2 r.length
def qO5 (r:(List Span)):List (Nat×(Nat×O)):=[(0,ro 0 31 2 r.length (rf qG r))]
def SC (a1:List qC) (l3:List Span) (l3n:Nat) (x4:Int) (x5:Int):St:=
 ⟨[(3,vo 0 0 2 l3n),(4,vi x4),(10,vc (tl qL du a1)),(11,vi (a1.length:Int)),(12,vi x5)],[(0,ro 0 31 2 l3n (rf qG l3))]⟩
def qC3 (l9:List Span):St:=
 ⟨[(3,vo 0 0 2 l9.length)],[(0,ro 0 31 2 l9.length (rf qG l9))]⟩
theorem qJt (E:Env 0) (a1:List qC):∀(n:Nat) (l3:List Span) (l3n:Nat) (x4:Int) (x5:Int) (res:(List Span)),l3.length=l3n->YP a1 n l3 x4 x5=some res->HL (kx E 32 0) (nd f167 244) (zL 0 qC3 res) n (SC a1 l3 l3n x4 x5):=by
 intro n
 induction n with
 |zero=>
  intro l3 l3n x4 x5 res hl0 hm;cases hm
 |succ n ih=>
  intro l3 l3n x4 x5 res hl0 hm;subst hl0;refine qT (s_va 1 [(13,vb (decide (x5<(a1.length:Int))))] ?_);refine q_sq (q_cq hm (λhm=>?_) (λhm=>?_))
  ·refine q_sk (q_sq ?_);refine q_bk 1 ?_;obtain⟨g7,hm⟩:=qI hm;refine s_vu [qi 1 g7] 1 [13] [(5,vi x5),(6,vp 1 0)] [] [(1,bx 72 (qL (a1.getD x5.toNat du)))] ?_;obtain⟨g8,hm⟩:=qI hm
   refine s_vu [qi 8 g8,qd 9 (drw 0 0 (rf qG (l3.set x5.toNat (Span.mk x4 (w64 (x4+((a1.getD x5.toNat du).Len))))))) (stP qG du (Span.mk x4 (w64 (x4+((a1.getD x5.toNat du).Len)))) l3 l3.length x5.toNat 0 [ci x4,ci (w64 (x4+((a1.getD x5.toNat du).Len)))] rfl (qV (zC g8)) rfl)] 2 [5] [] [0] [(0,ro 0 31 2 l3.length (rf qG (l3.set x5.toNat (Span.mk x4 (w64 (x4+((a1.getD x5.toNat du).Len)))))))] (q_vu [] 2 [4,6] [(4,vi (w64 (x4+((a1.getD x5.toNat du).Len))))] [1] [] ?_)
   exact q_vv [] 2 [12] [(12,vi (w64 (x5+1)))] (q_hl (SC a1 (l3.set x5.toNat (Span.mk x4 (w64 (x4+((a1.getD x5.toNat du).Len))))) l3.length (w64 (x4+((a1.getD x5.toNat du).Len))) (w64 (x5+1))) (ih (l3.set x5.toNat (Span.mk x4 (w64 (x4+((a1.getD x5.toNat du).Len))))) l3.length (w64 (x4+((a1.getD x5.toNat du).Len))) (w64 (x5+1)) _ (qEI rfl) hm))
  ·refine q_ex 0 ?_;obtain rfl:=oi hm;exact q_l0
theorem qOc (a1:List qC) (r:(List Span)) (hm:FJ a1=some r):CtX Tryz.prog globs 167 0 0 [.one (tl qL du a1)] [] (qPO r) (qO5 r):=by
 unfold FJ at hm;refine q_E f167 32 λE=>?_;refine s_vn [] 0 ⟨[(0,vc (tl qL du a1))],[]⟩ ?_;obtain⟨g2,hm⟩:=qI hm;refine s_vu [qd 2 (drw 0 0 (rf qG (List.replicate ((a1.length:Int).toNat) (Span.mk 0 0)))) (mkP qG du (Span.mk 0 0) (a1.length:Int) 16 [ci 0,ci 0] (qHK g2) rfl)] 0 [] [(3,vo 0 0 2 ((a1.length:Int).toNat))] [] [(0,ro 0 31 2 ((a1.length:Int).toNat) (rf qG (List.replicate ((a1.length:Int).toNat) (Span.mk 0 0))))] (s_va 1 [(4,vi 0)] ?_);refine q_sq (s_vv [] 1 [0] [(10,vc (tl qL du a1)),(11,vi (a1.length:Int)),(12,vi 0)] ?_);obtain⟨o10,h11,hm⟩:=qB hm
 refine zF (nd f167 244) 0 (by kernel_rfl) FUEL qC3 o10 (q_hl (SC a1 (List.replicate ((a1.length:Int).toNat) (Span.mk 0 0)) ((a1.length:Int).toNat) 0 0) (qJt E a1 FUEL (List.replicate ((a1.length:Int).toNat) (Span.mk 0 0)) ((a1.length:Int).toNat) 0 0 o10 qHq h11)) (s_vv [] 1 [3] [(2,vo 0 0 2 o10.length)] ?_);obtain rfl:=oi hm;exact q_rt q_rm
end Saw
end Go.SL

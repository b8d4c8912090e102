import Derived.Test.YtidlfgiogdjkaaaGreatDoorEBase
import Derived.Test.YtidlfgiogdjkaaaGreatDoorEFa2
import Derived.Test.YtidlfgiogdjkaaaGreatDoorEFa3
import Derived.Test.YtidlfgiogdjkaaaGreatDoorEFa1
set_option linter.unusedVariables false
set_option linter.unusedSimpArgs false
namespace Go.SL
namespace Saw
open Go.Proofs Go.Proofs.Tryz
set_option maxHeartbeats 4000000
set_option maxRecDepth 100000
def qRu (r:Int):V:=vi r
def qRp (r:Int):List (Nat×(Nat×O)):=[]
def qLw (a2:Box) (v3:(List qC)) (v5:(List Span)) (x8:Int) (x19:Int):St:=
 ⟨[(0,vc (tl qL du v3)),(3,vp 0 0),(5,vi x19),(12,vo 1 0 2 v5.length),(13,vi (v5.length:Int)),(14,vi x8)],[(0,bx 128 (wG a2)),(1,ro 0 31 2 v5.length (rf qG v5))]⟩
def OC (a2:Box) (v3:(List qC)) (v5:(List Span)) (x7:Int) (x8:Int):St:=
 ⟨[(0,vc (tl qL du v3)),(3,vp 0 0),(5,vi x7),(12,vo 1 0 2 v5.length),(13,vi (v5.length:Int)),(14,vi x8)],[(0,bx 128 (wG a2)),(1,ro 0 31 2 v5.length (rf qG v5))]⟩
def qDZ (x20:Int):St:=
 ⟨[(5,vi x20)],[]⟩
theorem qJ1 (E:Env 0) (a2:Box) (v3:(List qC)) (v5:(List Span)):∀(n:Nat) (x7:Int) (x8:Int) (res:Int),QY a2 v3 v5 n x7 x8=some res->HL (kx E 43 0) (nd f121 244) (zL 0 qDZ res) n (OC a2 v3 v5 x7 x8):=by
 intro n
 induction n with
 |zero=>
  intro x7 x8 res hm;cases hm
 |succ n ih=>
  intro x7 x8 res hm;refine qT (s_va 2 [(15,vb (decide (x8<(v5.length:Int))))] ?_);refine q_sq (q_cq hm (λhm=>?_) (λhm=>?_))
  ·refine q_sk (q_jn (qLw a2 v3 v5 x8) (λp=>LR x8 (QY a2 v3 v5 n) p=some res) ?_ ?_)
   ·rintro x19 hm;exact q_vv [] 3 [14] [(14,vi (w64 (x8+1)))] (q_hl (OC a2 v3 v5 x19 (w64 (x8+1))) (ih x19 (w64 (x8+1)) _ hm))
   ·refine q_bk 1 ?_;obtain⟨g10,hm⟩:=qI hm;refine s_vu [qi 1 g10,qd 2 dN (qV (zC g10))] 2 [15] [(6,vi x8),(7,vp 2 0)] [] [(2,bx 31 (qG (v5.getD x8.toNat du)))] ?_;obtain⟨v11,h12,hm⟩:=qB hm;obtain⟨v13,h14,hm⟩:=qB hm;refine s_vu [qc 3 [19,21] 3 (DO (v5.getD x8.toNat du) a2.Z v11 h12),qc 4 [22] 3 (qCW v11 v13 h14)] 3 [7] [(8,vi v13)] [2] [] (s_va 3 [(25,vb (decide (v13>0)))] ?_);refine q_cq hm (λhm=>?_) (λhm=>?_)
    ·obtain⟨g16,hm⟩:=qI hm;obtain⟨v17,h18,hm⟩:=qB hm;exact q_du [qi 4 g16,qc 12 [32,37] 3 (qEf ((v3.getD x8.toNat du).Sec) (Rect.mk a2.X a2.Y) v17 h18)] [0,0,0,0,12,28,60,0,128,0,512,1920,4092,8190,16383,32767] 3 [5,6,8,25] [(5,vi (w64 (x7+(w64 (v13*v17)))))] [] [] (q_J (w64 (x7+(w64 (v13*v17)))) hm)
    ·exact q_sk (q_J (x7) hm)
  ·refine q_ex 0 ?_;obtain rfl:=oi hm;exact q_l0
theorem qGo (a1:List qC) (a2:Box) (r:Int) (hm:ZF a1 a2=some r):CtX Tryz.prog globs 121 0 0 [.one (tl qL du a1),.agg (wG a2)] [] (qRu r) (qRp r):=by
 unfold ZF at hm;refine q_E f121 43 λE=>?_;refine s_vn [] 0 ⟨[(0,vc (tl qL du a1)),(3,vp 0 0)],[(0,bx 128 (wG a2))]⟩ ?_;obtain⟨v3,h4,hm⟩:=qB hm;refine s_vv [qc 1 [9] 1 (EF a1 v3 h4)] 1 [0] [(0,vc (tl qL du v3))] (s_va 1 [(5,vi 0)] ?_);refine q_sq ?_;obtain⟨v5,h6,hm⟩:=qB hm;refine s_vu [qc 1 [11] 1 (qOc v3 v5 h6)] 1 [] [(12,vo 1 0 2 v5.length),(13,vi (v5.length:Int)),(14,vi 0)] [] [(1,ro 0 31 2 v5.length (rf qG v5))] ?_;obtain⟨o21,h22,hm⟩:=qB hm;refine zF (nd f121 244) 0 (by kernel_rfl) FUEL qDZ o21 (q_hl (OC a2 v3 v5 0 0) (qJ1 E a2 v3 v5 FUEL 0 0 o21 h22)) (s_vn [] 2 ⟨[(4,vi o21)],[]⟩ ?_)
 obtain rfl:=oi hm;exact q_rt q_rm
def qUs (r:Int):V:=vi r
def qTT (r:Int):List (Nat×(Nat×O)):=[]
theorem DP (a1:List qC) (a2:Rect) (a3:Span) (r:Int) (hm:YZ a1 a2 a3=some r):CtX Tryz.prog globs 210 0 0 [.one (tl qL du a1),.agg (qO a2),.agg (qG a3)] [] (qUs r) (qTT r):=by
 unfold YZ at hm;refine q_E f210 15 λE=>?_;refine s_vn [] 0 ⟨[(0,vc (tl qL du a1)),(4,vp 0 0),(5,vp 1 0)],[(0,bx 33 (qO a2)),(1,bx 31 (qG a3))]⟩ ?_;obtain⟨v4,h5,hm⟩:=qB hm;refine s_vn [qc 7 [7,13] 2 (qGo a1 (Box.mk a2.X a2.Y a3) v4 h5)] 2 ⟨[(6,vi v4)],[]⟩ ?_;obtain rfl:=oi hm;exact q_rt q_rm
def qXM (r:Int):V:=vi r
def qXj (r:Int):List (Nat×(Nat×O)):=[]
theorem qVa (a1:List qC) (a2:List qF) (a3:Product) (a4:Rect) (a5:Saw) (a6:Rates) (r:Int) (hm:qCY a1 a2 a3 a4 a5 a6=some r):CtX Tryz.prog globs 209 0 0 [.one (tl qL du a1),.one (tl qP du a2),.agg (qH a3),.agg (qO a4),.agg (zW a5),.agg (zN a6)] [] (qXM r) (qXj r):=by
 unfold qCY at hm;refine q_E f209 89 λE=>?_;refine s_vn [] 0 ⟨[(0,vc (tl qL du a1)),(1,vc (tl qP du a2)),(8,vp 0 0),(9,vp 1 0),(10,vp 2 0),(11,vp 3 0)],[(0,bx 54 (qH a3)),(1,bx 33 (qO a4)),(2,bx 38 (zW a5)),(3,bx 40 (zN a6))]⟩ ?_;obtain⟨v7,h8,hm⟩:=qB hm;refine s_vu [qc 8 [21,22,23,24,26,28] 4 (qUq a1 a2 a3 a4 a5.Step a6.Fine v7 h8)] 4 [1,8] [(13,vp 4 0),(14,vi v7.2.1),(15,vb v7.2.2)] [0] [(4,bx 31 (qG v7.1))] (q_sq ?_);refine s_vv [] 5 [15] [(34,vb (!v7.2.2))] (q_cq hm (λhm=>?_) (λhm=>?_))
 ·refine s_vn [] 5 ⟨[(12,vi (-1))],[]⟩ ?_;obtain rfl:=oi hm;exact q_rt q_rm
 ·refine q_sk ?_;obtain⟨v10,h11,hm⟩:=qB hm;refine s_vv [qc 1 [35] 5 (VI a1 v10 h11)] 5 [34] [(16,vi v10)] ?_;obtain⟨v12,h13,hm⟩:=qB hm;refine s_vv [qc 4 [37,38,40] 5 (DP a1 a4 (Span.mk 0 v10) v12 h13)] 5 [] [(17,vi v12)] ?_;obtain⟨v14,h15,hm⟩:=qB hm;refine s_vv [qc 3 [42,43,44] 5 (DP a1 a4 v7.1 v14 h15)] 5 [] [(18,vi v14)] ?_;obtain⟨v16,h17,hm⟩:=qB hm;refine s_vv [qc 11 [46,47,56] 5 (DP a1 a4 (Span.mk (imax 0 (w64 (v7.1.A-a5.Trim))) v7.1.A) v16 h17)] 5 [] [(19,vi v16)] ?_;obtain⟨v18,h19,hm⟩:=qB hm
  refine s_vu [qc 13 [59,60,70] 5 (DP a1 a4 (Span.mk v7.1.B (imin (w64 (v7.1.B+a5.Trim)) v10)) v18 h19)] 5 [0,9,10,13,16,19] [(19,vi (w64 (v16+v18)))] [1,2,4] [] (s_vn [] 5 ⟨[(12,vi (w64 ((w64 ((w64 (1000000*v7.2.1))+(w64 (a6.Dust*(w64 (v16+v18))))))+(w64 (a6.Chip*(w64 ((w64 (v12-v14))-(w64 (v16+v18)))))))))],[]⟩ ?_);obtain rfl:=oi hm;exact q_rt q_rm
open Go.Proofs Go.Proofs.Tryz
def qER (r:Int):V:=vi r
def qFa (r:Int):List (Nat×(Nat×O)):=[]
def qOQ (a4:Rect) (x22:Int) (x26:Bool):St:=
 ⟨[(68,va (qO a4)),(69,vi x22),(77,vb x26)],[]⟩
def qBT (a4:Rect) (x22:Int):St:=
 ⟨[(68,va (qO a4)),(69,vi x22)],[]⟩
def qF2 :St:=
 ⟨[],[]⟩
def qOY (a4:Rect) (x20:Bool):St:=
 ⟨[(9,vp 0 0),(55,vb x20)],[(0,bx 33 (qO a4))]⟩
theorem qMR (E:Env 0) (a4:Rect):∀(n:Nat) (x22:Int) (res:Int⊕Unit),ZP a4 n x22=some res->HL (kx E 79 0) (nd f208 2036) (wN 0 (λo=>qF2) (λv st=>RetQ Tryz.prog f208 (qER v) (qFa v) .ret st) res) n (qBT a4 x22):=by
 intro n
 induction n with
 |zero=>
  intro x22 res hm;cases hm
 |succ n ih=>
  intro x22 res hm;refine qT (s_va 3 [(70,vb (decide (x22<4)))] ?_);refine q_sq (q_cq hm (λhm=>?_) (λhm=>?_))
  ·refine q_sk (q_sq ?_);refine q_bk 1 ?_;obtain⟨g24,hm⟩:=qI hm;refine s_vv [qi 0 g24] 3 [70] [(18,vi (([a4.X.A,a4.X.B,a4.Y.A,a4.Y.B]:List Int).getD x22.toNat 0))] (q_jn (qOQ a4 x22) (λp=>CU x22 (ZP a4 n) p=some res) ?_ ?_)
   ·rintro x26 hm;refine q_cq hm (λhm=>?_) (λhm=>?_)
    ·refine s_vn [] 3 ⟨[(12,vi 9)],[]⟩ ?_;obtain rfl:=oi hm;refine q_rt (zG 9 ?_);exact q_rm
    ·refine q_sk (q_vv [] 3 [69,77] [(69,vi (w64 (x22+1)))] ?_);exact q_hl (qBT a4 (w64 (x22+1))) (ih (w64 (x22+1)) _ hm)
   ·rcases bif_c hm with⟨b25,hm⟩|⟨b25,hm⟩
    ·exact q_vv [qf 2 b25] 3 [18] [(77,vb true)] (q_J (true) hm)
    ·exact q_vv [qf 2 b25] 3 [18] [(77,vb (decide ((([a4.X.A,a4.X.B,a4.Y.A,a4.Y.B]:List Int).getD x22.toNat 0)>600)))] (q_J (decide ((([a4.X.A,a4.X.B,a4.Y.A,a4.Y.B]:List Int).getD x22.toNat 0)>600)) hm)
  ·refine q_ex 0 ?_;obtain rfl:=oi hm;exact q_l1 ()
theorem qUG (a1:List qC) (a2:List qF) (a3:List Product) (a4:Rect) (a5:Saw) (a6:Rates) (r:Int) (hm:qBN a1 a2 a3 a4 a5 a6=some r):CtX Tryz.prog globs 208 0 0 [.one (tl qL du a1),.one (tl qP du a2),.one (tl qH du a3),.agg (qO a4),.agg (zW a5),.agg (zN a6)] [] (qER r) (qFa r):=by
 unfold qBN at hm;refine q_E f208 79 λE=>?_;refine s_vn [] 0 ⟨[(0,vc (tl qL du a1)),(1,vc (tl qP du a2)),(2,vc (tl qH du a3)),(9,vp 0 0),(10,vp 1 0),(11,vp 2 0)],[(0,bx 33 (qO a4)),(1,bx 38 (zW a5)),(2,bx 40 (zN a6))]⟩ (q_sq ?_);obtain⟨v7,h8,hm⟩:=qB hm;refine s_vv [qc 1 [19] 3 (YM a1 v7 h8)] 3 [0] [(13,vi v7)] (s_va 3 [(22,vb (v7 !=0))] ?_);refine q_cq hm (λhm=>?_) (λhm=>?_)
 ·refine s_vn [] 3 ⟨[(12,vi v7)],[]⟩ ?_;obtain rfl:=oi hm;exact q_rt q_rm
 ·refine q_sk (q_sq ?_);obtain⟨v10,h11,hm⟩:=qB hm;refine s_vv [qc 1 [24] 3 (UI a2 v10 h11)] 3 [1,13,22] [(14,vi v10)] (s_va 3 [(27,vb (v10 !=0))] ?_);refine q_cq hm (λhm=>?_) (λhm=>?_)
  ·refine s_vn [] 3 ⟨[(12,vi v10)],[]⟩ ?_;obtain rfl:=oi hm;exact q_rt q_rm
  ·refine q_sk (q_sq ?_);obtain⟨v13,h14,hm⟩:=qB hm;refine s_vv [qc 1 [29] 3 (jZ a3 v13 h14)] 3 [2,14,27] [(15,vi v13)] (s_va 3 [(32,vb (v13 !=0))] ?_);refine q_cq hm (λhm=>?_) (λhm=>?_)
   ·refine s_vn [] 3 ⟨[(12,vi v13)],[]⟩ ?_;obtain rfl:=oi hm;exact q_rt q_rm
   ·refine q_sk (q_sq ?_);obtain⟨v16,h17,hm⟩:=qB hm;refine s_vu [qc 2 [34,35] 3 (AJ a5 a6 v16 h17)] 3 [10,11,15,32] [(16,vi v16)] [1,2] [] (s_va 3 [(38,vb (v16 !=0))] ?_);refine q_cq hm (λhm=>?_) (λhm=>?_)
    ·refine s_vn [] 3 ⟨[(12,vi v16)],[]⟩ ?_;obtain rfl:=oi hm;exact q_rt q_rm
    ·refine q_sk (q_sq ?_);refine q_jn (qOY a4) (λp=>CQ a4 p=some r) ?_ ?_
     ·rintro x20 hm;refine q_cq hm (λhm=>?_) (λhm=>?_)
      ·refine s_vn [] 3 ⟨[(12,vi 19)],[]⟩ ?_;obtain rfl:=oi hm;exact q_rt q_rm
      ·refine q_sk (q_sq ?_);refine s_vn [] 3 ⟨[(68,va (qO a4)),(69,vi 0)],[]⟩ ?_;obtain⟨u30,h29,hm⟩:=qB hm;refine zT (nd f208 2036) 0 (by kernel_rfl) FUEL (λo=>qF2) (λv st=>RetQ Tryz.prog f208 (qER v) (qFa v) .ret st) u30 (q_hl (qBT a4 0) (qMR E a4 FUEL 0 u30 h29)) ?_ ?_
       ·rintro v31 rfl st hr;obtain rfl:=oi hm;exact hr
       ·rintro o28 rfl;replace hm:_=some r:=hm;refine s_vn [] 3 ⟨[(12,vi 0)],[]⟩ ?_;obtain rfl:=oi hm;exact q_rt q_rm
     ·rcases bif_c hm with⟨b19,hm⟩|⟨b19,hm⟩
      ·exact q_vv [qf 7 b19] 3 [16,38] [(55,vb true)] (q_J (true) hm)
      ·exact q_vv [qf 7 b19] 3 [16,38] [(55,vb (decide (a4.Y.A≥a4.Y.B)))] (q_J (decide (a4.Y.A≥a4.Y.B)) hm)
def qWr (r:(List Int)×(List Int)):V:= .tup [.one (.own 0 0 1 r.1.length),.one (.own 1 0 1 r.2.length)]
def qVc (r:(List Int)×(List Int)):List (Nat×(Nat×O)):=[(0,ro 0 3 1 r.1.length (rf qA r.1)),(1,ro 0 3 1 r.2.length (rf qA r.2))]
def qFS (a1:List Product) (a2:Int) (x8:Int) (l19:List Int) (l19n:Nat) (l20:List Int) (l20n:Nat):St:=
 ⟨[(1,vi a2),(6,vo 0 0 1 l19n),(7,vo 1 0 1 l20n),(15,vc (tl qH du a1)),(16,vi (a1.length:Int)),(17,vi x8)],[(0,ro 0 3 1 l19n (rf qA l19)),(1,ro 0 3 1 l20n (rf qA l20))]⟩
def qGg (a1:List Product) (a2:Int) (l7:List Int) (x8:Int) (l17:List Int) (l17n:Nat):St:=
 ⟨[(1,vi a2),(6,vo 0 0 1 l17n),(7,vo 1 0 1 l7.length),(8,vi x8),(15,vc (tl qH du a1)),(16,vi (a1.length:Int)),(17,vi x8)],[(0,ro 0 3 1 l17n (rf qA l17)),(1,ro 0 3 1 l7.length (rf qA l7))]⟩
def qBX (a1:List Product) (a2:Int) (l6:List Int) (l6n:Nat) (l7:List Int) (l7n:Nat) (x8:Int):St:=
 ⟨[(1,vi a2),(6,vo 0 0 1 l6n),(7,vo 1 0 1 l7n),(15,vc (tl qH du a1)),(16,vi (a1.length:Int)),(17,vi x8)],[(0,ro 0 3 1 l6n (rf qA l6)),(1,ro 0 3 1 l7n (rf qA l7))]⟩
def qGs (l21:List Int) (l22:List Int):St:=
 ⟨[(6,vo 0 0 1 l21.length),(7,vo 1 0 1 l22.length)],[(0,ro 0 3 1 l21.length (rf qA l21)),(1,ro 0 3 1 l22.length (rf qA l22))]⟩
theorem qNS (E:Env 0) (a1:List Product) (a2:Int):∀(n:Nat) (l6:List Int) (l6n:Nat) (l7:List Int) (l7n:Nat) (x8:Int) (res:(List Int)×(List Int)),l6.length=l6n->l7.length=l7n->yG a1 a2 n l6 l7 x8=some res->HL (kx E 49 0) (nd f109 244) (zL 0 (λo=>qGs o.1 o.2) res) n (qBX a1 a2 l6 l6n l7 l7n x8):=by
 intro n
 induction n with
 |zero=>
  intro l6 l6n l7 l7n x8 res hl0 hl1 hm;cases hm
 |succ n ih=>
  intro l6 l6n l7 l7n x8 res hl0 hl1 hm;subst hl0;subst hl1;refine qT (s_va 2 [(18,vb (decide (x8<(a1.length:Int))))] ?_);refine q_sq (q_cq hm (λhm=>?_) (λhm=>?_))
  ·refine q_sk (q_jn (ι:=(List Int)×Nat×(List Int)×Nat) (λp=>qFS a1 a2 x8 p.1 p.2.1 p.2.2.1 p.2.2.2) (λp=>p.1.length=p.2.1/\p.2.2.1.length=p.2.2.2/\CP x8 (yG a1 a2 n) p.1 p.2.2.1=some res) ?_ ?_)
   ·rintro⟨l19,l19n,l20,l20n⟩ ⟨el19,el20,hm⟩;replace el19:l19.length=l19n:=el19;subst el19;replace el20:l20.length=l20n:=el20;subst el20;show H _ (qFS a1 a2 x8 l19 l19.length l20 l20.length) _ _;exact q_vv [] 5 [17] [(17,vi (w64 (x8+1)))] (q_hl (qBX a1 a2 l19 l19.length l20 l20.length (w64 (x8+1))) (ih l19 l19.length l20 l20.length (w64 (x8+1)) _ rfl rfl hm))
   ·refine q_bk 1 ?_;obtain⟨g10,hm⟩:=qI hm;refine s_vu [qi 1 g10] 2 [18] [(8,vi x8),(9,vp 2 0)] [] [(2,bx 54 (qH (a1.getD x8.toNat du)))] ?_;obtain⟨v11,h12,hm⟩:=qB hm;refine s_vu [qc 1 [23] 3 (NS (a1.getD x8.toNat du) v11 h12)] 3 [9] [(10,vi v11.1),(11,vi v11.2)] [2] [] (q_jn (ι:=(List Int)×Nat) (λp=>qGg a1 a2 l7 x8 p.1 p.2) (λp=>p.1.length=p.2/\OY l7 x8 (yG a1 a2 n) p.1=some res) ?_ ?_)
    ·rintro⟨l17,l17n⟩ ⟨el17,hm⟩;replace el17:l17.length=l17n:=el17;subst el17;show H _ (qGg a1 a2 l7 x8 l17 l17.length) _ _;obtain⟨g18,hm⟩:=qI hm;exact q_vu [qd 2 (drw 4 0 (rf qA [x8])) (litP qA du 1 (λ_=>rfl) ([x8]:List Int) 1 rfl),qd 3 (drw 1 1 (rf qA (l7++[x8]))) (apP qA du l7 ([x8]:List Int) l7.length 1 1 8 (1<=1) (ki _) rfl rfl (λ_=>rfl) (zI g18))] 4 [7,8] [(7,vo 1 1 1 (l7.length+1))] [1] [(1,ro 1 3 1 (l7.length+1) (rf qA (l7++[x8])))] (q_J (l17,l17.length,(l7++[x8]),(l7.length+1)) ⟨rfl,(zE rfl rfl),hm⟩)
    ·refine s_va 3 [(27,vi a2)] (q_bk 2 ?_);refine s_va 3 [(28,vb (a2==v11.1))] (q_cq hm (λhm=>?_) (λhm=>?_))
     ·obtain⟨g14,hm⟩:=qI hm;exact q_vu [qd 2 (drw 3 0 (rf qA [v11.2])) (litP qA du 1 (λ_=>rfl) ([v11.2]:List Int) 1 rfl),qd 3 (drw 0 1 (rf qA (l6++[v11.2]))) (apP qA du l6 ([v11.2]:List Int) l6.length 1 1 8 (1<=1) (ki _) rfl rfl (λ_=>rfl) (zI g14))] 3 [6,10,11,27,28] [(6,vo 0 1 1 (l6.length+1))] [0] [(0,ro 1 3 1 (l6.length+1) (rf qA (l6++[v11.2])))] (q_J ((l6++[v11.2]),(l6.length+1)) ⟨(zE rfl rfl),hm⟩)
     ·refine s_vv [] 3 [11,27,28] [(35,vb (a2==v11.2))] (q_cq hm (λhm=>?_) (λhm=>?_))
      ·obtain⟨g16,hm⟩:=qI hm;exact q_vu [qd 2 (drw 3 0 (rf qA [v11.1])) (litP qA du 1 (λ_=>rfl) ([v11.1]:List Int) 1 rfl),qd 3 (drw 0 1 (rf qA (l6++[v11.1]))) (apP qA du l6 ([v11.1]:List Int) l6.length 1 1 8 (1<=1) (ki _) rfl rfl (λ_=>rfl) (zI g16))] 3 [6,10,35] [(6,vo 0 1 1 (l6.length+1))] [0] [(0,ro 1 3 1 (l6.length+1) (rf qA (l6++[v11.1])))] (q_J ((l6++[v11.1]),(l6.length+1)) ⟨(zE rfl rfl),hm⟩)
      ·exact q_ex 1 (q_J (l6,l6.length,l7,l7.length) ⟨rfl,rfl,hm⟩)
  ·refine q_ex 0 ?_;obtain rfl:=oi hm;exact q_l0
theorem qDA (a1:List Product) (a2:Int) (r:(List Int)×(List Int)) (hm:NW a1 a2=some r):CtX Tryz.prog globs 109 0 0 [.one (tl qH du a1),.one (ci a2)] [] (qWr r) (qVc r):=by
 unfold NW at hm;refine q_E f109 49 λE=>?_;refine s_vn [] 0 ⟨[(0,vc (tl qH du a1)),(1,vi a2)],[]⟩ (q_sq ?_);obtain⟨v3,h4,hm⟩:=qB hm;refine s_vv [qc 1 [12] 0 (jZ a1 v3 h4)] 0 [] [(14,vb (v3 !=0))] (q_cq hm (λhm=>?_) (λhm=>?_))
 ·refine s_vn [] 0 ⟨[(4,vc (.emp)),(5,vc (.emp))],[]⟩ (q_fo 4 0 3 1 qA ?_);refine q_fo 5 1 3 1 qA (q_fl 4 0 3 1 qA ?_);refine q_fl 5 1 3 1 qA ?_;obtain rfl:=oi hm;exact q_rt q_rm
 ·refine q_sk (s_vv [] 0 [14] [(6,vc (.emp)),(7,vc (.emp))] ?_);refine q_sq (s_vv [] 0 [0] [(15,vc (tl qH du a1)),(16,vi (a1.length:Int)),(17,vi 0)] ?_);refine q_fo 6 0 3 1 qA (q_fo 7 1 3 1 qA ?_);obtain⟨o23,h24,hm⟩:=qB hm;refine zF (nd f109 244) 0 (by kernel_rfl) FUEL (λo=>qGs o.1 o.2) o23 (q_hl (qBX a1 a2 ([]:List Int) 0 ([]:List Int) 0 0) (qNS E a1 a2 FUEL ([]:List Int) 0 ([]:List Int) 0 0 o23 rfl rfl h24)) (s_vv [] 2 [6,7] [(4,vo 0 0 1 o23.1.length),(5,vo 1 0 1 o23.2.length)] ?_);obtain rfl:=oi hm;exact q_rt q_rm
def qXF (r:Line×Int):V:= .tup [.agg [ci r.1.Len,ci r.1.Kerf,ci r.1.Pitch,.own 0 0 1 r.1.Sizes.length,.own 1 0 1 r.1.Gain.length,.own 2 0 1 r.1.Chip.length,.own 3 0 1 r.1.Dust.length],.one (ci r.2)]
def qXt (r:Line×Int):List (Nat×(Nat×O)):=[(0,ro 0 3 1 r.1.Sizes.length (rf qA r.1.Sizes)),(1,ro 0 28 1 r.1.Gain.length (rf (qM qA) r.1.Gain)),(2,ro 0 3 1 r.1.Chip.length (rf qA r.1.Chip)),(3,ro 0 3 1 r.1.Dust.length (rf qA r.1.Dust))]
def BY (a1:List qC) (a2:List qF) (a3:List Product) (a4:Rect) (a5:Saw) (a6:Rates) (v10:(List Int)×(List Int)) (x12:Int) (l13:List (List Int)):St:=
 ⟨[(0,vc (tl qL du a1)),(1,vc (tl qP du a2)),(2,vc (tl qH du a3)),(9,vp 0 0),(10,vp 1 0),(11,vp 2 0),(12,vp 3 0),(15,vi (w64 (a4.X.B-a4.X.A))),(17,vo 5 0 1 v10.2.length),(18,vp 6 0),(62,vo 4 0 1 v10.1.length),(63,vi (v10.1.length:Int)),(64,vi x12)],[(0,bx 33 (qO a4)),(1,bx 38 (zW a5)),(2,bx 40 (zN a6)),(3,bx 84 [ci 0,ci 0,ci 0,.emp,.emp,.emp,.emp]),(4,ro 0 3 1 v10.1.length (rf qA v10.1)),(5,ro 0 3 1 v10.2.length (rf qA v10.2)),(6,bx 84 [ci (w64 (a4.X.B-a4.X.A)),ci a5.Kerf,ci 1,.own 4 0 1 v10.1.length,.own 7 0 1 l13.length,.emp,.emp]),(7,ro 0 28 1 l13.length (rf (qM qA) l13))]⟩
def qAe (v10:(List Int)×(List Int)):St:=
 ⟨[(12,vp 3 0),(18,vp 6 0)],[(3,bx 84 [ci 0,ci 0,ci 0,.emp,.emp,.emp,.emp]),(4,ro 0 3 1 v10.1.length (rf qA v10.1))]⟩
def qQP (a1:List qC) (a2:List qF) (a3:List Product) (a4:Rect) (a5:Saw) (a6:Rates) (v10:(List Int)×(List Int)) (x12:Int) (l13:List (List Int)) (l16:List Int) (x17:Int) (x27:Int):St:=
 (BY a1 a2 a3 a4 a5 a6 v10 x12 l13).up [] [(19,vi x12),(20,vi (v10.1.getD x12.toNat du)),(21,vo 8 0 1 l16.length),(22,vi x17),(23,vi x27)] [] [(8,ro 0 3 1 l16.length (rf qA l16))]
def qCL (a1:List qC) (a2:List qF) (a3:List Product) (a4:Rect) (a5:Saw) (a6:Rates) (v10:(List Int)×(List Int)) (x12:Int) (l13:List (List Int)) (l16:List Int) (l16n:Nat) (x17:Int):St:=
 (BY a1 a2 a3 a4 a5 a6 v10 x12 l13).up [] [(19,vi x12),(20,vi (v10.1.getD x12.toNat du)),(21,vo 8 0 1 l16n),(22,vi x17)] [] [(8,ro 0 3 1 l16n (rf qA l16))]
def qH3 (a1:List qC) (a2:List qF) (a3:List Product) (a4:Rect) (a5:Saw) (a6:Rates) (v10:(List Int)×(List Int)) (x12:Int) (l13:List (List Int)) (l29:List Int):St:=
 (BY a1 a2 a3 a4 a5 a6 v10 x12 l13).up [] [(21,vo 8 0 1 l29.length)] [] [(8,ro 0 3 1 l29.length (rf qA l29))]
def qCI (a1:List qC) (a2:List qF) (a3:List Product) (a4:Rect) (a5:Saw) (a6:Rates) (v10:(List Int)×(List Int)) (x12:Int) (l13:List (List Int)) (l13n:Nat):St:=
 (BY a1 a2 a3 a4 a5 a6 v10 x12 l13).up [] [] [6,7] [(6,bx 84 [ci (w64 (a4.X.B-a4.X.A)),ci a5.Kerf,ci 1,.own 4 0 1 v10.1.length,.own 7 0 1 l13n,.emp,.emp]),(7,ro 0 28 1 l13n (rf (qM qA) l13))]
def qH4 (a1:List qC) (a4:Rect) (a5:Saw) (a6:Rates) (v10:(List Int)×(List Int)) (l33:List (List Int)):St:=
 (qAe v10).up [] [(0,vc (tl qL du a1)),(9,vp 0 0),(11,vp 2 0),(15,vi (w64 (a4.X.B-a4.X.A)))] [] [(0,bx 33 (qO a4)),(2,bx 40 (zN a6)),(6,bx 84 [ci (w64 (a4.X.B-a4.X.A)),ci a5.Kerf,ci 1,.own 4 0 1 v10.1.length,.own 7 0 1 l33.length,.emp,.emp]),(7,ro 0 28 1 l33.length (rf (qM qA) l33))]
def qCF (a1:List qC) (a4:Rect) (a5:Saw) (a6:Rates) (v10:(List Int)×(List Int)) (o34:(List (List Int))) (v36:Int) (x38:Int) (l39:List Int) (l39n:Nat) (l40:List Int) (l40n:Nat):St:=
 (qAe v10).up [] [(0,vc (tl qL du a1)),(9,vp 0 0),(11,vp 2 0),(24,vp 8 0),(113,vi (w64 (a4.X.B-a4.X.A))),(114,vi x38)] [] [(0,bx 33 (qO a4)),(2,bx 40 (zN a6)),(6,bx 84 [ci (w64 (a4.X.B-a4.X.A)),ci a5.Kerf,ci 1,.own 4 0 1 v10.1.length,.own 7 0 1 o34.length,.own 9 0 1 l39n,.own 10 0 1 l40n]),(7,ro 0 28 1 o34.length (rf (qM qA) o34)),(8,bx 31 [ci 0,ci v36]),(9,ro 0 3 1 l39n (rf qA l39)),(10,ro 0 3 1 l40n (rf qA l40))]
def qHx (a4:Rect) (a5:Saw) (v10:(List Int)×(List Int)) (o34:(List (List Int))) (l48:List Int) (l49:List Int):St:=
 (qAe v10).up [] [] [] [(6,bx 84 [ci (w64 (a4.X.B-a4.X.A)),ci a5.Kerf,ci 1,.own 4 0 1 v10.1.length,.own 7 0 1 o34.length,.own 9 0 1 l48.length,.own 10 0 1 l49.length]),(7,ro 0 28 1 o34.length (rf (qM qA) o34)),(9,ro 0 3 1 l48.length (rf qA l48)),(10,ro 0 3 1 l49.length (rf qA l49))]
theorem qO6 (E:Env 0) (a1:List qC) (a2:List qF) (a3:List Product) (a4:Rect) (a5:Saw) (a6:Rates) (v10:(List Int)×(List Int)) (x12:Int) (l13:List (List Int)):∀(n:Nat) (l16:List Int) (l16n:Nat) (x17:Int) (res:(List Int)),l16.length=l16n->JL a1 a2 a3 a4 a5 a6 v10 x12 n l16 x17=some res->HL (kx E 145 0) (nd f186 1037108) (zL 2 (λo=>qH3 a1 a2 a3 a4 a5 a6 v10 x12 l13 o) res) n (qCL a1 a2 a3 a4 a5 a6 v10 x12 l13 l16 l16n x17):=by
 intro n
 induction n with
 |zero=>
  intro l16 l16n x17 res hl0 hm;cases hm
 |succ n ih=>
  intro l16 l16n x17 res hl0 hm;subst hl0;refine qT (q_sq ?_);refine s_va 9 [(73,vb (decide ((w64 (x17+(v10.1.getD x12.toNat du)))<=(w64 (a4.X.B-a4.X.A)))))] (q_cq hm (λhm=>?_) (λhm=>?_))
  ·refine q_sk (q_sq ?_);refine q_bk 3 (s_vv [] 9 [73] [(23,vi (-1))] ?_);refine q_jn (qQP a1 a2 a3 a4 a5 a6 v10 x12 l13 l16 x17) (λp=>qA0 l16 x17 (JL a1 a2 a3 a4 a5 a6 v10 x12 n) p=some res) ?_ ?_
   ·rintro x27 hm;obtain⟨g28,hm⟩:=qI hm;refine q_vu [qd 2 (drw 9 0 (rf qA [x27])) (litP qA du 1 (λ_=>rfl) ([x27]:List Int) 1 rfl),qd 3 (drw 8 1 (rf qA (l16++[x27]))) (apP qA du l16 ([x27]:List Int) l16.length 1 1 8 (1<=1) (ki _) rfl rfl (λ_=>rfl) (zI g28))] 9 [21,23] [(21,vo 8 1 1 (l16.length+1))] [8] [(8,ro 1 3 1 (l16.length+1) (rf qA (l16++[x27])))] (q_vv [] 10 [22] [(22,vi (w64 (x17+1)))] ?_);exact q_hl (qCL a1 a2 a3 a4 a5 a6 v10 x12 l13 (l16++[x27]) (l16.length+1) (w64 (x17+1))) (ih (l16++[x27]) (l16.length+1) (w64 (x17+1)) _ (zE rfl rfl) hm)
   ·obtain⟨g19,hm⟩:=qI hm;refine s_vv [qd 3 dN (AP g19)] 9 [] [(80,vb ((Int.tmod x17 a5.Pitch)==0))] (q_cq hm (λhm=>?_) (λhm=>?_))
    ·obtain⟨g21,hm⟩:=qI hm;obtain⟨g22,hm⟩:=qI hm;obtain⟨v23,h24,hm⟩:=qB hm;obtain⟨v25,h26,hm⟩:=qB hm;exact q_du [qi 5 g21,qd 6 dN (qV (zC g21)),qi 7 g22,qc 14 [90,91,94] 9 (qE1 a4 x17 (w64 (x17+(v10.1.getD x12.toNat du))) v23 h24),qc 17 [81,82,89,95,96,97] 9 (qVa a1 a2 (a3.getD (v10.2.getD x12.toNat du).toNat du) v23 a5 a6 v25 h26)] [0,0,0,0,0,24,56,124,252,0,0,0,0,6144,15872,0,0,131071,262143] 9 [23,80] [(23,vi v25)] [] [] (q_J (v25) hm)
    ·exact q_sk (q_J ((-1)) hm)
  ·refine q_ex 2 ?_;obtain rfl:=oi hm;exact q_l0
theorem qQg (E:Env 0) (a1:List qC) (a2:List qF) (a3:List Product) (a4:Rect) (a5:Saw) (a6:Rates) (v10:(List Int)×(List Int)):∀(n:Nat) (x12:Int) (l13:List (List Int)) (l13n:Nat) (res:(List (List Int))),l13.length=l13n->RX a1 a2 a3 a4 a5 a6 v10 n x12 l13=some res->HL (kx E 145 0) (nd f186 1012) (zL 0 (λo=>qH4 a1 a4 a5 a6 v10 o) res) n (qCI a1 a2 a3 a4 a5 a6 v10 x12 l13 l13n):=by
 intro n
 induction n with
 |zero=>
  intro x12 l13 l13n res hl0 hm;cases hm
 |succ n ih=>
  intro x12 l13 l13n res hl0 hm;subst hl0;refine qT (s_va 8 [(65,vb (decide (x12<(v10.1.length:Int))))] ?_);refine q_sq (q_cq hm (λhm=>?_) (λhm=>?_))
  ·refine q_sk (q_sq ?_);refine q_bk 1 ?_;obtain⟨g15,hm⟩:=qI hm;refine s_vv [qi 1 g15,qd 2 dN (qV (zC g15))] 8 [65] [(19,vi x12),(20,vi (v10.1.getD x12.toNat du))] (s_va 8 [(21,vc (.emp))] ?_);refine q_sq (s_va 8 [(22,vi 0)] ?_);refine q_fo 21 8 3 1 qA ?_;obtain⟨o30,h31,hm⟩:=qB hm;refine zF (nd f186 1037108) 2 (by kernel_rfl) FUEL (λo=>qH3 a1 a2 a3 a4 a5 a6 v10 x12 l13 o) o30 (q_hl (qCL a1 a2 a3 a4 a5 a6 v10 x12 l13 ([]:List Int) 0 0) (qO6 E a1 a2 a3 a4 a5 a6 v10 x12 l13 FUEL ([]:List Int) 0 0 o30 rfl h31)) ?_;obtain⟨g32,hm⟩:=qI hm
   refine q_vu [qd 3 (dpr [.frz 8] (drw 9 0 (rf (qM qA) [o30]))) (And.intro (ki o30.length) (ki o30.length)),qd 3 dN (litP (qM qA) du 1 (λ_=>rfl) ([o30]:List (List Int)) 1 rfl),qd 4 (drw 7 1 (rf (qM qA) (l13++[o30]))) (apP (qM qA) du l13 ([o30]:List (List Int)) l13.length 1 1 24 (1<=1) (ki _) rfl rfl (λ_=>rfl) (zI g32))] 9 [21] [] [6,7,8] [(6,bx 84 [ci (w64 (a4.X.B-a4.X.A)),ci a5.Kerf,ci 1,.own 4 0 1 v10.1.length,.own 7 1 1 (l13.length+1),.emp,.emp]),(7,ro 1 28 1 (l13.length+1) (rf (qM qA) (l13++[o30])))] (q_vv [] 10 [64] [(64,vi (w64 (x12+1)))] ?_)
   exact q_hl (qCI a1 a2 a3 a4 a5 a6 v10 (w64 (x12+1)) (l13++[o30]) (l13.length+1)) (ih (w64 (x12+1)) (l13++[o30]) (l13.length+1) _ (zE rfl rfl) hm)
  ·refine q_ex 0 ?_;obtain rfl:=oi hm;exact q_l0
theorem qPE (E:Env 0) (a1:List qC) (a4:Rect) (a5:Saw) (a6:Rates) (v10:(List Int)×(List Int)) (o34:(List (List Int))) (v36:Int):∀(n:Nat) (x38:Int) (l39:List Int) (l39n:Nat) (l40:List Int) (l40n:Nat) (res:(List Int)×(List Int)),l39.length=l39n->l40.length=l40n->RQ a1 a4 a6 v36 n x38 l39 l40=some res->HL (kx E 145 0) (nd f186 4084) (zL 4 (λo=>qHx a4 a5 v10 o34 o.1 o.2) res) n (qCF a1 a4 a5 a6 v10 o34 v36 x38 l39 l39n l40 l40n):=by
 intro n
 induction n with
 |zero=>
  intro x38 l39 l39n l40 l40n res hl0 hl1 hm;cases hm
 |succ n ih=>
  intro x38 l39 l39n l40 l40n res hl0 hl1 hm;subst hl0;subst hl1;refine qT (s_va 11 [(115,vb (decide (x38<(w64 (a4.X.B-a4.X.A)))))] ?_);refine q_sq (q_cq hm (λhm=>?_) (λhm=>?_))
  ·refine q_sk (q_sq ?_);refine q_bk 5 (s_vv [] 11 [115] [(25,vi x38)] ?_);obtain⟨v42,h43,hm⟩:=qB hm;obtain⟨v44,h45,hm⟩:=qB hm;refine s_du [qc 5 [118,119,121] 11 (qE1 a4 x38 (w64 (x38+1)) v42 h43),qc 7 [117,122,123] 11 (DP a1 v42 (Span.mk 0 v36) v44 h45)] [0,0,0,0,8,30,0,127,255] 11 [25] [(26,vi v44)] [] [] ?_;obtain⟨g46,hm⟩:=qI hm
   refine s_vu [qd 6 (drw 11 0 (rf qA [w64 (a6.Chip*v44)])) (litP qA du 1 (λ_=>rfl) ([w64 (a6.Chip*v44)]:List Int) 1 rfl),qd 7 (drw 9 1 (rf qA (l39++[w64 (a6.Chip*v44)]))) (apP qA du l39 ([w64 (a6.Chip*v44)]:List Int) l39.length 1 1 8 (1<=1) (ki _) rfl rfl (λ_=>rfl) (zI g46))] 11 [] [] [6,9] [(6,bx 84 [ci (w64 (a4.X.B-a4.X.A)),ci a5.Kerf,ci 1,.own 4 0 1 v10.1.length,.own 7 0 1 o34.length,.own 9 1 1 (l39.length+1),.own 10 0 1 l40.length]),(9,ro 1 3 1 (l39.length+1) (rf qA (l39++[w64 (a6.Chip*v44)])))] ?_;obtain⟨g47,hm⟩:=qI hm
   refine q_vu [qd 6 (drw 12 0 (rf qA [w64 (a6.Dust*v44)])) (litP qA du 1 (λ_=>rfl) ([w64 (a6.Dust*v44)]:List Int) 1 rfl),qd 7 (drw 10 1 (rf qA (l40++[w64 (a6.Dust*v44)]))) (apP qA du l40 ([w64 (a6.Dust*v44)]:List Int) l40.length 1 1 8 (1<=1) (ki _) rfl rfl (λ_=>rfl) (zI g47))] 12 [26] [] [6,10] [(6,bx 84 [ci (w64 (a4.X.B-a4.X.A)),ci a5.Kerf,ci 1,.own 4 0 1 v10.1.length,.own 7 0 1 o34.length,.own 9 1 1 (l39.length+1),.own 10 1 1 (l40.length+1)]),(10,ro 1 3 1 (l40.length+1) (rf qA (l40++[w64 (a6.Dust*v44)])))] (q_vv [] 13 [114] [(114,vi (w64 (x38+1)))] ?_)
   exact q_hl (qCF a1 a4 a5 a6 v10 o34 v36 (w64 (x38+1)) (l39++[w64 (a6.Chip*v44)]) (l39.length+1) (l40++[w64 (a6.Dust*v44)]) (l40.length+1)) (ih (w64 (x38+1)) (l39++[w64 (a6.Chip*v44)]) (l39.length+1) (l40++[w64 (a6.Dust*v44)]) (l40.length+1) _ (zE rfl rfl) (zE rfl rfl) hm)
  ·refine q_ex 4 ?_;obtain rfl:=oi hm;exact q_l0
theorem qWq (a1:List qC) (a2:List qF) (a3:List Product) (a4:Rect) (a5:Saw) (a6:Rates) (r:Line×Int) (hm:qC6 a1 a2 a3 a4 a5 a6=some r):CtX Tryz.prog globs 186 0 0 [.one (tl qL du a1),.one (tl qP du a2),.one (tl qH du a3),.agg (qO a4),.agg (zW a5),.agg (zN a6)] [] (qXF r) (qXt r):=by
 unfold qC6 at hm;refine q_E f186 145 λE=>?_;refine s_vn [] 0 ⟨[(0,vc (tl qL du a1)),(1,vc (tl qP du a2)),(2,vc (tl qH du a3)),(9,vp 0 0),(10,vp 1 0),(11,vp 2 0),(12,vp 3 0)],[(0,bx 33 (qO a4)),(1,bx 38 (zW a5)),(2,bx 40 (zN a6)),(3,bx 84 [ci 0,ci 0,ci 0,.emp,.emp,.emp,.emp])]⟩ (q_sq ?_);obtain⟨v7,h8,hm⟩:=qB hm;refine s_vv [qc 6 [27,28,29,30,31,32] 4 (qUG a1 a2 a3 a4 a5 a6 v7 h8)] 4 [] [(14,vi v7)] (s_va 4 [(35,vb (v7 !=0))] ?_);refine q_cq hm (λhm=>?_) (λhm=>?_)
 ·refine s_vu [] 4 [0,1,2,9,10,11,14,35] [(13,vi v7)] [0,1,2] [] (q_fu [.ownB 3 3 4 3 1 (rf qA [])] [] [] [3] [(3,bx 84 [ci 0,ci 0,ci 0,.own 4 0 1 0,.emp,.emp,.emp]),(4,ro 0 3 1 0 (rf qA []))] o0 ?_);refine q_fu [.ownB 3 4 5 28 1 (rf (qM qA) [])] [] [] [3] [(3,bx 84 [ci 0,ci 0,ci 0,.own 4 0 1 0,.own 5 0 1 0,.emp,.emp]),(5,ro 0 28 1 0 (rf (qM qA) []))] o0 (q_fu [.ownB 3 5 6 3 1 (rf qA [])] [] [] [3] [(3,bx 84 [ci 0,ci 0,ci 0,.own 4 0 1 0,.own 5 0 1 0,.own 6 0 1 0,.emp]),(6,ro 0 3 1 0 (rf qA []))] o0 ?_)
  refine q_fu [.ownB 3 6 7 3 1 (rf qA [])] [] [] [3] [(3,bx 84 [ci 0,ci 0,ci 0,.own 4 0 1 0,.own 5 0 1 0,.own 6 0 1 0,.own 7 0 1 0]),(7,ro 0 3 1 0 (rf qA []))] o0 (q_fu [.len 4 (([]:List Int).length)] [] [] [3,4] [(3,bx 84 [ci 0,ci 0,ci 0,.own 4 0 1 (([]:List Int).length),.own 5 0 1 0,.own 6 0 1 0,.own 7 0 1 0]),(4,ro 0 3 1 (([]:List Int).length) (rf qA []))] (o1 (And.intro (show 0=([]:List Int).length from rfl) (show 0=([]:List Int).length from rfl))) ?_)
  refine q_fu [.len 5 (([]:List (List Int)).length)] [] [] [3,5] [(3,bx 84 [ci 0,ci 0,ci 0,.own 4 0 1 (([]:List Int).length),.own 5 0 1 (([]:List (List Int)).length),.own 6 0 1 0,.own 7 0 1 0]),(5,ro 0 28 1 (([]:List (List Int)).length) (rf (qM qA) []))] (o1 (And.intro (show 0=([]:List (List Int)).length from rfl) (show 0=([]:List (List Int)).length from rfl))) (q_fu [.len 6 (([]:List Int).length)] [] [] [3,6] [(3,bx 84 [ci 0,ci 0,ci 0,.own 4 0 1 (([]:List Int).length),.own 5 0 1 (([]:List (List Int)).length),.own 6 0 1 (([]:List Int).length),.own 7 0 1 0]),(6,ro 0 3 1 (([]:List Int).length) (rf qA []))] (o1 (And.intro (show 0=([]:List Int).length from rfl) (show 0=([]:List Int).length from rfl))) ?_)
  refine q_fu [.len 7 (([]:List Int).length)] [] [] [3,7] [(3,bx 84 [ci 0,ci 0,ci 0,.own 4 0 1 (([]:List Int).length),.own 5 0 1 (([]:List (List Int)).length),.own 6 0 1 (([]:List Int).length),.own 7 0 1 (([]:List Int).length)]),(7,ro 0 3 1 (([]:List Int).length) (rf qA []))] (o1 (And.intro (show 0=([]:List Int).length from rfl) (show 0=([]:List Int).length from rfl))) ?_;obtain rfl:=oi hm;refine q_sw 4 0 (q_sw 5 1 ?_);refine q_sw 6 2 (q_sw 7 3 ?_);exact q_rt q_rm
 ·refine q_sk (s_vv [] 4 [14,35] [(15,vi (w64 (a4.X.B-a4.X.A)))] ?_);obtain⟨v10,h11,hm⟩:=qB hm;refine s_vu [qc 8 [46,53] 4 (qDA a3 (w64 (a4.Y.B-a4.Y.A)) v10 h11)] 4 [] [(16,vo 4 0 1 v10.1.length),(17,vo 5 0 1 v10.2.length)] [] [(4,ro 0 3 1 v10.1.length (rf qA v10.1)),(5,ro 0 3 1 v10.2.length (rf qA v10.2))] (s_vu [] 6 [] [(18,vp 6 0)] [] [(6,bx 84 [ci (w64 (a4.X.B-a4.X.A)),ci a5.Kerf,ci 1,.own 4 0 1 v10.1.length,.emp,.emp,.emp])] ?_);refine q_sq (s_vv [] 7 [16] [(62,vo 4 0 1 v10.1.length),(63,vi (v10.1.length:Int)),(64,vi 0)] ?_)
  refine q_fu [.ownB 6 4 7 28 1 (rf (qM qA) [])] [] [] [6] [(6,bx 84 [ci (w64 (a4.X.B-a4.X.A)),ci a5.Kerf,ci 1,.own 4 0 1 v10.1.length,.own 7 0 1 0,.emp,.emp]),(7,ro 0 28 1 0 (rf (qM qA) []))] o0 ?_;obtain⟨o34,h35,hm⟩:=qB hm;refine zF (nd f186 1012) 0 (by kernel_rfl) FUEL (λo=>qH4 a1 a4 a5 a6 v10 o) o34 (q_hl (qCI a1 a2 a3 a4 a5 a6 v10 0 ([]:List (List Int)) 0) (qQg E a1 a2 a3 a4 a5 a6 v10 FUEL 0 ([]:List (List Int)) 0 o34 rfl h35)) ?_;obtain⟨v36,h37,hm⟩:=qB hm;refine s_vu [qc 1 [110] 8 (VI a1 v36 h37)] 8 [] [(24,vp 8 0)] [] [(8,bx 31 [ci 0,ci v36])] (q_sq ?_)
  refine s_vv [] 9 [15] [(113,vi (w64 (a4.X.B-a4.X.A))),(114,vi 0)] (q_fu [.ownB 6 5 9 3 1 (rf qA [])] [] [] [6] [(6,bx 84 [ci (w64 (a4.X.B-a4.X.A)),ci a5.Kerf,ci 1,.own 4 0 1 v10.1.length,.own 7 0 1 o34.length,.own 9 0 1 0,.emp]),(9,ro 0 3 1 0 (rf qA []))] o0 ?_);refine q_fu [.ownB 6 6 10 3 1 (rf qA [])] [] [] [6] [(6,bx 84 [ci (w64 (a4.X.B-a4.X.A)),ci a5.Kerf,ci 1,.own 4 0 1 v10.1.length,.own 7 0 1 o34.length,.own 9 0 1 0,.own 10 0 1 0]),(10,ro 0 3 1 0 (rf qA []))] o0 ?_;obtain⟨o50,h51,hm⟩:=qB hm
  refine zF (nd f186 4084) 4 (by kernel_rfl) FUEL (λo=>qHx a4 a5 v10 o34 o.1 o.2) o50 (q_hl (qCF a1 a4 a5 a6 v10 o34 v36 0 ([]:List Int) 0 ([]:List Int) 0) (qPE E a1 a4 a5 a6 v10 o34 v36 FUEL 0 ([]:List Int) 0 ([]:List Int) 0 o50 rfl rfl h51)) (s_vu [] 11 [18] [(13,vi 0)] [3,6] [(3,bx 84 [ci (w64 (a4.X.B-a4.X.A)),ci a5.Kerf,ci 1,.own 4 0 1 v10.1.length,.own 7 0 1 o34.length,.own 9 0 1 o50.1.length,.own 10 0 1 o50.2.length])] ?_);obtain rfl:=oi hm;refine q_sw 4 0 (q_sw 7 1 ?_);refine q_sw 9 2 (q_sw 10 3 ?_);exact q_rt q_rm
open Go.Proofs Go.Proofs.Tryz
def qMN (r:Int):V:=vi r
def qOk (r:Int):List (Nat×(Nat×O)):=[]
theorem qEe (a1:Line) (a2:Int) (r:Int) (hm:RA a1 a2=some r):CtX Tryz.prog globs 152 0 0 [.agg (wB a1),.one (ci a2)] [] (qMN r) (qOk r):=by
 unfold RA at hm;refine q_E f152 16 λE=>?_;refine s_vn [] 0 ⟨[(1,vi a2),(2,vp 0 0)],[(0,bx 84 (wB a1))]⟩ (q_sq ?_);refine s_va 1 [(8,vb (a2==a1.Len))] (q_cq hm (λhm=>?_) (λhm=>?_))
 ·refine s_vn [] 1 ⟨[(4,vi (-1))],[]⟩ ?_;obtain rfl:=oi hm;exact q_rt q_rm
 ·refine q_sk (s_vn [] 1 ⟨[(4,vi (imin (w64 (a2+a1.Kerf)) a1.Len))],[]⟩ ?_);obtain rfl:=oi hm;exact q_rt q_rm
def qMZ (r:Int):V:=vi r
def qN6 (r:Int):List (Nat×(Nat×O)):=[]
theorem qL5 (a1:Line) (a2:Int) (r:Int) (hm:EG a1 a2=some r):CtX Tryz.prog globs 192 0 0 [.agg (wB a1),.one (ci a2)] [] (qMZ r) (qN6 r):=by
 unfold EG at hm;refine q_E f192 11 λE=>?_;refine s_vn [] 0 ⟨[(1,vi a2),(2,vp 0 0)],[(0,bx 84 (wB a1))]⟩ (s_vn [] 1 ⟨[(4,vi (imax 0 (w64 ((w64 (a1.Len-a2))+1))))],[]⟩ ?_);obtain rfl:=oi hm;exact q_rt q_rm
def SF (r:Int):V:=vi r
def HM (r:Int):List (Nat×(Nat×O)):=[]
def qHV (a1:Line) (x10:Int) (x14:Bool):St:=
 ⟨[(38,vc (tl qA du a1.Sizes)),(39,vi (a1.Sizes.length:Int)),(40,vi x10),(49,vb x14)],[]⟩
def DC (a1:Line) (x10:Int):St:=
 ⟨[(38,vc (tl qA du a1.Sizes)),(39,vi (a1.Sizes.length:Int)),(40,vi x10)],[]⟩
def qAN :St:=
 ⟨[],[]⟩
def qHG (a1:Line) (x7:Bool):St:=
 ⟨[(1,vp 0 0),(32,vb x7)],[(0,bx 84 (wB a1))]⟩
theorem qG2 (E:Env 0) (a1:Line):∀(n:Nat) (x10:Int) (res:Int⊕Unit),jQ a1 n x10=some res->HL (kx E 51 0) (nd f191 244) (wN 0 (λo=>qAN) (λv st=>RetQ Tryz.prog f191 (SF v) (HM v) .ret st) res) n (DC a1 x10):=by
 intro n
 induction n with
 |zero=>
  intro x10 res hm;cases hm
 |succ n ih=>
  intro x10 res hm;refine qT (s_va 1 [(41,vb (decide (x10<(a1.Sizes.length:Int))))] ?_);refine q_sq (q_cq hm (λhm=>?_) (λhm=>?_))
  ·refine q_sk (q_sq ?_);refine q_bk 1 ?_;obtain⟨g12,hm⟩:=qI hm;refine s_vv [qi 0 g12] 1 [41] [(4,vi (a1.Sizes.getD x10.toNat du))] (q_jn (qHV a1 x10) (λp=>TG x10 (jQ a1 n) p=some res) ?_ ?_)
   ·rintro x14 hm;refine q_cq hm (λhm=>?_) (λhm=>?_)
    ·refine s_vn [] 1 ⟨[(2,vi 9)],[]⟩ ?_;obtain rfl:=oi hm;refine q_rt (zG 9 ?_);exact q_rm
    ·refine q_sk (q_vv [] 1 [40,49] [(40,vi (w64 (x10+1)))] ?_);exact q_hl (DC a1 (w64 (x10+1))) (ih (w64 (x10+1)) _ hm)
   ·rcases bif_c hm with⟨b13,hm⟩|⟨b13,hm⟩
    ·exact q_vv [qf 2 b13] 1 [4] [(49,vb true)] (q_J (true) hm)
    ·exact q_vv [qf 2 b13] 1 [4] [(49,vb (decide ((a1.Sizes.getD x10.toNat du)>2000)))] (q_J (decide ((a1.Sizes.getD x10.toNat du)>2000)) hm)
  ·refine q_ex 0 ?_;obtain rfl:=oi hm;exact q_l1 ()
theorem qJo (a1:Line) (r:Int) (hm:RU a1=some r):CtX Tryz.prog globs 191 0 0 [.agg (wB a1)] [] (SF r) (HM r):=by
 unfold RU at hm;refine q_E f191 51 λE=>?_;refine s_vn [] 0 ⟨[(1,vp 0 0)],[(0,bx 84 (wB a1))]⟩ (q_sq ?_);refine q_jn (qHG a1) (λp=>jP a1 p=some r) ?_ ?_
 ·rintro x7 hm;refine q_cq hm (λhm=>?_) (λhm=>?_)
  ·refine s_vn [] 1 ⟨[(2,vi 9)],[]⟩ ?_;obtain rfl:=oi hm;exact q_rt q_rm
  ·refine q_sk (q_sq ?_);refine s_vv [] 1 [32] [(36,vb (decide ((a1.Sizes.length:Int)>32)))] (q_cq hm (λhm=>?_) (λhm=>?_))
   ·refine s_vn [] 1 ⟨[(2,vi 4)],[]⟩ ?_;obtain rfl:=oi hm;exact q_rt q_rm
   ·refine q_sk (q_sq ?_);refine s_vn [] 1 ⟨[(38,vc (tl qA du a1.Sizes)),(39,vi (a1.Sizes.length:Int)),(40,vi 0)],[]⟩ ?_;obtain⟨u18,h17,hm⟩:=qB hm;refine zT (nd f191 244) 0 (by kernel_rfl) FUEL (λo=>qAN) (λv st=>RetQ Tryz.prog f191 (SF v) (HM v) .ret st) u18 (q_hl (DC a1 0) (qG2 E a1 FUEL 0 u18 h17)) ?_ ?_
    ·rintro v19 rfl st hr;obtain rfl:=oi hm;exact hr
    ·rintro o16 rfl;replace hm:_=some r:=hm;refine s_vn [] 1 ⟨[(2,vi 0)],[]⟩ ?_;obtain rfl:=oi hm;exact q_rt q_rm
 ·rcases bif_c hm with⟨b2,hm⟩|⟨b2,hm⟩
  ·exact q_vv [qf 3 b2] 1 [] [(32,vb true)] (q_J (true) hm)
  ·rcases bif_c hm with⟨b3,hm⟩|⟨b3,hm⟩
   ·exact q_vv [qf 3 b2,qf 8 b3] 1 [] [(32,vb true)] (q_J (true) hm)
   ·rcases bif_c hm with⟨b4,hm⟩|⟨b4,hm⟩
    ·exact q_vv [qf 3 b2,qf 8 b3,qf 13 b4] 1 [] [(32,vb true)] (q_J (true) hm)
    ·rcases bif_c hm with⟨b5,hm⟩|⟨b5,hm⟩
     ·exact q_vv [qf 3 b2,qf 8 b3,qf 13 b4,qf 18 b5] 1 [] [(32,vb true)] (q_J (true) hm)
     ·rcases bif_c hm with⟨b6,hm⟩|⟨b6,hm⟩
      ·exact q_vv [qf 3 b2,qf 8 b3,qf 13 b4,qf 18 b5,qf 23 b6] 1 [] [(32,vb true)] (q_J (true) hm)
      ·exact q_vv [qf 3 b2,qf 8 b3,qf 13 b4,qf 18 b5,qf 23 b6] 1 [] [(32,vb (decide (a1.Pitch>2000)))] (q_J (decide (a1.Pitch>2000)) hm)
open Go.Proofs Go.Proofs.Tryz
def KR (r:Bool):V:=vb r
def ZA (r:Bool):List (Nat×(Nat×O)):=[]
theorem qPH (r:Bool):jS (ZA r):=by
 intro i k o h;unfold ZA at h;cases h
def qA3 (a1:List (List Int)) (x2:Int) (x5:Int):St:=
 ⟨[(7,vc (tl (qM qA) du a1)),(8,vi (a1.length:Int)),(9,vi x2),(13,vc (tl qA du (a1.getD x2.toNat du))),(14,vi ((a1.getD x2.toNat du).length:Int)),(15,vi x5)],[]⟩
def qJ3 (a1:List (List Int)) (x2:Int) (x5:Int) (x9:Bool):St:=
 (qA3 a1 x2 x5).up [] [(24,vb x9)] [] []
def HC (a1:List (List Int)) (x2:Int) (x5:Int):St:=
 (qA3 a1 x2 x5).up [] [] [] []
def qDu (a1:List (List Int)) (x2:Int):St:=
 ⟨[(7,vc (tl (qM qA) du a1)),(8,vi (a1.length:Int)),(9,vi x2)],[]⟩
def SN (a1:List (List Int)) (x2:Int):St:=
 ⟨[(7,vc (tl (qM qA) du a1)),(8,vi (a1.length:Int)),(9,vi x2)],[]⟩
def qDm :St:=
 ⟨[],[]⟩
theorem qJu (E:Env 0) (a1:List (List Int)) (x2:Int):∀(n:Nat) (x5:Int) (res:Bool⊕Unit),QD a1 x2 n x5=some res->HL (kx E 27 0) (nd f193 13516) (wN 2 (λo=>qDu a1 x2) (λv st=>RetQ Tryz.prog f193 (KR v) (ZA v) .ret st) res) n (HC a1 x2 x5):=by
 intro n
 induction n with
 |zero=>
  intro x5 res hm;cases hm
 |succ n ih=>
  intro x5 res hm;refine qT (s_va 0 [(16,vb (decide (x5<((a1.getD x2.toNat du).length:Int))))] ?_);refine q_sq (q_cq hm (λhm=>?_) (λhm=>?_))
  ·refine q_sk (q_sq ?_);refine q_bk 3 ?_;obtain⟨g7,hm⟩:=qI hm;refine s_vv [qi 0 g7] 0 [16] [(6,vi ((a1.getD x2.toNat du).getD x5.toNat du))] (q_jn (qJ3 a1 x2 x5) (λp=>NX x5 (QD a1 x2 n) p=some res) ?_ ?_)
   ·rintro x9 hm;refine q_cq hm (λhm=>?_) (λhm=>?_)
    ·refine s_vn [] 0 ⟨[(2,vb false)],[]⟩ ?_;obtain rfl:=oi hm;refine q_rt (zG false ?_);exact q_rm
    ·refine q_sk (q_vv [] 0 [15,24] [(15,vi (w64 (x5+1)))] ?_);exact q_hl (HC a1 x2 (w64 (x5+1))) (ih (w64 (x5+1)) _ hm)
   ·rcases bif_c hm with⟨b8,hm⟩|⟨b8,hm⟩
    ·exact q_vv [qf 2 b8] 0 [6] [(24,vb true)] (q_J (true) hm)
    ·exact q_vv [qf 2 b8] 0 [6] [(24,vb (decide (((a1.getD x2.toNat du).getD x5.toNat du)>1125899906842624)))] (q_J (decide (((a1.getD x2.toNat du).getD x5.toNat du)>1125899906842624)) hm)
  ·refine q_ex 2 ?_;obtain rfl:=oi hm;exact q_l1 ()
theorem qJD (E:Env 0) (a1:List (List Int)):∀(n:Nat) (x2:Int) (res:Bool⊕Unit),YV a1 n x2=some res->HL (kx E 27 0) (nd f193 52) (wN 0 (λo=>qDm) (λv st=>RetQ Tryz.prog f193 (KR v) (ZA v) .ret st) res) n (SN a1 x2):=by
 intro n
 induction n with
 |zero=>
  intro x2 res hm;cases hm
 |succ n ih=>
  intro x2 res hm;refine qT (s_va 0 [(10,vb (decide (x2<(a1.length:Int))))] ?_);refine q_sq (q_cq hm (λhm=>?_) (λhm=>?_))
  ·refine q_sk (q_sq ?_);refine q_bk 1 ?_;obtain⟨g4,hm⟩:=qI hm;refine s_vv [qi 0 g4] 0 [10] [(4,vc (tl qA du (a1.getD x2.toNat du)))] (s_vv [] 0 [4] [(13,vc (tl qA du (a1.getD x2.toNat du))),(14,vi ((a1.getD x2.toNat du).length:Int)),(15,vi 0)] ?_);obtain⟨u13,h12,hm⟩:=qB hm;refine zT (nd f193 13516) 2 (by kernel_rfl) FUEL (λo=>qDu a1 x2) (λv st=>RetQ Tryz.prog f193 (KR v) (ZA v) .ret st) u13 (q_hl (HC a1 x2 0) (qJu E a1 x2 FUEL 0 u13 h12)) ?_ ?_
   ·rintro v14 rfl st hr;obtain rfl:=oi hm;exact zG v14 hr
   ·rintro o11 rfl;replace hm:_=some res:=hm;exact q_vv [] 0 [9] [(9,vi (w64 (x2+1)))] (q_hl (SN a1 (w64 (x2+1))) (ih (w64 (x2+1)) _ hm))
  ·refine q_ex 0 ?_;obtain rfl:=oi hm;exact q_l1 ()
theorem qAh (a1:List (List Int)) (r:Bool) (hm:TO a1=some r):CtX Tryz.prog globs 193 0 0 [.one (tl (qM qA) du a1)] [] (KR r) (ZA r):=by
 unfold TO at hm;refine q_E f193 27 λE=>?_;refine s_vn [] 0 ⟨[(0,vc (tl (qM qA) du a1))],[]⟩ (q_sq ?_);refine s_vn [] 0 ⟨[(7,vc (tl (qM qA) du a1)),(8,vi (a1.length:Int)),(9,vi 0)],[]⟩ ?_;obtain⟨u17,h16,hm⟩:=qB hm;refine zT (nd f193 52) 0 (by kernel_rfl) FUEL (λo=>qDm) (λv st=>RetQ Tryz.prog f193 (KR v) (ZA v) .ret st) u17 (q_hl (SN a1 0) (qJD E a1 FUEL 0 u17 h16)) ?_ ?_
 ·rintro v18 rfl st hr;obtain rfl:=oi hm;exact hr
 ·rintro o15 rfl;replace hm:_=some r:=hm;refine s_vn [] 0 ⟨[(2,vb true)],[]⟩ ?_;obtain rfl:=oi hm;exact q_rt q_rm
end Saw
end Go.SL

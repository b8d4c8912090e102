import Derived.Test.YtidlfgiogdjkaaaGreatDoorEBase
import Derived.Test.YtidlfgiogdjkaaaGreatDoorEFa7
import Derived.Test.YtidlfgiogdjkaaaGreatDoorEFa2
import Derived.Test.YtidlfgiogdjkaaaGreatDoorEFa6
import Derived.Test.YtidlfgiogdjkaaaGreatDoorEFa4
set_option linter.unusedVariables false
set_option linter.unusedSimpArgs false
namespace Go.SL
namespace Saw
open Go.Proofs
set_option maxHeartbeats 4000000
set_option maxRecDepth 100000
def qLr (r:Rect):V:=va (qE r)
def qLS (r:Rect):List (Nat×(Nat×O)):=[]
def qHK (v2:(List qB)) (x4:Int) (v8:Rect) (x11:Rect):St:=
 ⟨[(2,vp 0 0),(3,vp 1 0),(6,vp 3 0),(8,vc (tl qI default v2)),(9,vi ((v2.length:Nat):Int)),(10,vi x4)],[(0,bx 33 [ci 0,ci 0,ci 0,ci 0]),(1,bx 33 (qE x11)),(3,bx 33 (qE v8))]⟩
def MJ (v2:(List qB)) (x4:Int) (x5:Rect):St:=
 ⟨[(2,vp 0 0),(3,vp 1 0),(8,vc (tl qI default v2)),(9,vi ((v2.length:Nat):Int)),(10,vi x4)],[(0,bx 33 [ci 0,ci 0,ci 0,ci 0]),(1,bx 33 (qE x5))]⟩
def qA1 (x12:Rect):St:=
 ⟨[(2,vp 0 0),(3,vp 1 0)],[(0,bx 33 [ci 0,ci 0,ci 0,ci 0]),(1,bx 33 (qE x12))]⟩
theorem qFL (E:Env 0) (v2:(List qB)):∀(n:Nat) (x4:Int) (x5:Rect) (res:Rect),PV v2 n x4 x5=some res->HL (kx E 55 0) (nd Tryz.f37 116) (zU 0 (λo=>qA1 o) res) n (MJ v2 x4 x5):=by
 intro n
 induction n with
 |zero=>
  intro x4 x5 res hm;cases hm
 |succ n ih=>
  intro x4 x5 res hm;refine qM ?_;refine s_va 2 [(11,vb (decide (x4<((v2.length:Nat):Int))))] ?_;refine q_sq ?_;refine q_cm hm (λb6 hm=>?_) (λb6 hm=>?_)
  ·refine q_sk ?_;refine q_sq ?_;refine q_bk 1 ?_;obtain⟨g7,hm⟩:=qG hm;refine s_vu [qi 1 g7] 2 [11] [(4,vi x4),(5,vp 2 0)] [] [(2,bx 72 [ci ((v2.getD x4.toNat default).Len),ci (((v2.getD x4.toNat default).Sec).Low),tl e_Span default (((v2.getD x4.toNat default).Sec).Rows)])] ?_;obtain⟨v8,h9,hm⟩:=qA hm;refine s_vu [qc 2 [16] 3 (qHw ((v2.getD x4.toNat default).Sec) v8 h9)] 3 [5] [(6,vp 3 0)] [2] [(3,bx 33 (qE v8))] ?_;refine q_jn (qHK v2 x4 v8) (λp=>IF x4 (PV v2 n) v8 p=some res) ?_ ?_
   ·rintro x11 hm;refine s_vu [] 4 [] [] [1] [(1,bx 33 [ci (imin x11.X.A v8.X.A),ci (imax x11.X.B v8.X.B),ci x11.Y.A,ci x11.Y.B])] ?_;refine q_vu [] 4 [6] [] [1,3] [(1,bx 33 [ci (imin x11.X.A v8.X.A),ci (imax x11.X.B v8.X.B),ci (imin x11.Y.A v8.Y.A),ci (imax x11.Y.B v8.Y.B)])] ?_;refine q_vv [] 4 [10] [(10,vi (w64 (x4+1)))] ?_
    exact q_hl (MJ v2 (w64 (x4+1)) (Rect.mk (Span.mk (imin x11.X.A v8.X.A) (imax x11.X.B v8.X.B)) (Span.mk (imin x11.Y.A v8.Y.A) (imax x11.Y.B v8.Y.B)))) (ih (w64 (x4+1)) (Rect.mk (Span.mk (imin x11.X.A v8.X.A) (imax x11.X.B v8.X.B)) (Span.mk (imin x11.Y.A v8.Y.A) (imax x11.Y.B v8.Y.B))) _ hm)
   ·refine s_vv [] 4 [4] [(19,vb (x4==0))] ?_;refine q_cm hm (λb10 hm=>?_) (λb10 hm=>?_)
    ·refine q_vu [] 4 [19] [] [1] [(1,bx 33 (qE v8))] ?_;exact q_J (v8) hm
    ·refine q_sk ?_;exact q_J (x5) hm
  ·refine q_ex 0 ?_;obtain rfl:=oi hm;exact wH (by kernel_rfl) (by kernel_rfl)
theorem qKY (a1:List qB) (r:Rect) (hm:qB5 a1=some r):CtX Tryz.prog globs 37 0 0 [.one (tl qI default a1)] [] (qLr r) (qLS r):=by
 unfold qB5 at hm;refine q_E Tryz.f37 55 λE=>?_;refine s_vn [] 0 ⟨[(0,vc (tl qI default a1)),(2,vp 0 0)],[(0,bx 33 [ci 0,ci 0,ci 0,ci 0])]⟩ ?_;refine s_vu [] 1 [] [(3,vp 1 0)] [] [(1,bx 33 [ci 0,ci 0,ci 0,ci 0])] ?_;refine q_sq ?_;obtain⟨v2,h3,hm⟩:=qA hm;refine s_vv [qc 1 [7] 2 (LX a1 v2 h3)] 2 [0] [(8,vc (tl qI default v2)),(9,vi ((v2.length:Nat):Int)),(10,vi 0)] ?_;obtain⟨o13,h14,hm⟩:=qA hm;refine zN (nd Tryz.f37 116) 0 (by kernel_rfl) FUEL (λo=>qA1 o) o13 (q_hl (MJ v2 0 (Rect.mk (Span.mk 0 0) (Span.mk 0 0))) (qFL E v2 FUEL 0 (Rect.mk (Span.mk 0 0) (Span.mk 0 0)) o13 h14)) ?_
 refine s_vu [] 2 [3] [] [0,1] [(0,bx 33 (qE o13))] ?_;obtain rfl:=oi hm;refine q_rt ?_;exact q_rm
def qFY (r:Rect):V:=va (qE r)
def AT (r:Rect):List (Nat×(Nat×O)):=[]
theorem qPP (r:Rect):yT (AT r):=by
 intro i k o h;unfold AT at h;cases h
theorem qNt (a1:List qB) (r:Rect) (hm:EN a1=some r):CtX Tryz.prog globs 16 0 0 [.one (tl qI default a1)] [] (qFY r) (AT r):=by
 unfold EN at hm;refine q_E Tryz.f16 5 λE=>?_;refine s_vn [] 0 ⟨[(0,vc (tl qI default a1)),(2,vp 0 0)],[(0,bx 33 [ci 0,ci 0,ci 0,ci 0])]⟩ ?_;obtain⟨v2,h3,hm⟩:=qA hm;refine s_vu [qc 1 [3] 1 (qKY a1 v2 h3)] 1 [0] [] [0] [(0,bx 33 (qE v2))] ?_;obtain rfl:=oi hm;refine q_rt ?_;exact q_rm
def qDf (r:Int):V:=vi r
def qDl (r:Int):List (Nat×(Nat×O)):=[]
def SR (a1:List Node) (x3:Int):St:=
 ⟨[(0,vc (tl e_Node default a1)),(4,vi x3),(6,vc (tl e_Node default a1)),(7,vi ((a1.length:Nat):Int)),(8,vi x3)],[]⟩
def qLW (a1:List Node) (x3:Int) (x9:Int):St:=
 (SR a1 x3).up [] [(3,vi x9)] [] []
def qLf (a1:List Node) (x2:Int) (x3:Int) (x7:Bool):St:=
 (SR a1 x3).up [] [(3,vi (w64 (x2-1))),(22,vb x7)] [] []
def OA (a1:List Node) (x2:Int) (x3:Int):St:=
 (SR a1 x3).up [4] [(3,vi x2)] [] []
def qDP (a1:List Node):St:=
 ⟨[(0,vc (tl e_Node default a1))],[]⟩
theorem qJP (E:Env 0) (a1:List Node):∀(n:Nat) (x2:Int) (x3:Int) (res:Int⊕Unit),jN a1 n x2 x3=some res->HL (kx E 32 0) (nd Tryz.f106 116) (wI 0 (λo=>qDP a1) (λv st=>RetQ Tryz.prog Tryz.f106 (qDf v) (qDl v) .ret st) res) n (OA a1 x2 x3):=by
 intro n
 induction n with
 |zero=>
  intro x2 x3 res hm;cases hm
 |succ n ih=>
  intro x2 x3 res hm;refine qM ?_;refine s_va 0 [(9,vb (decide (x3<((a1.length:Nat):Int))))] ?_;refine q_sq ?_;refine q_cm hm (λb4 hm=>?_) (λb4 hm=>?_)
  ·refine q_sk ?_;refine q_sq ?_;refine q_bk 1 ?_;obtain⟨g5,hm⟩:=qG hm;refine s_vu [qi 1 g5] 0 [9] [(4,vi x3),(5,vp 0 0)] [] [(0,bx 65 [ci ((a1.getD x3.toNat default).Kind),ci ((a1.getD x3.toNat default).At)])] ?_;refine s_vv [] 1 [3] [(3,vi (w64 (x2-1)))] ?_;refine q_jn (qLW a1 x3) (λp=>NH x3 (jN a1 n) p=some res) ?_ ?_
   ·rintro x9 hm;refine s_va 1 [(26,vb (x9==0))] ?_;refine q_cm hm (λb10 hm=>?_) (λb10 hm=>?_)
    ·refine s_vn [] 1 ⟨[(2,vi (w64 (x3+1)))],[]⟩ ?_;obtain rfl:=oi hm;refine q_rt ?_;refine qY (w64 (x3+1)) ?_;exact q_rm
    ·refine q_sk ?_;refine q_vv [] 1 [4,8,26] [(8,vi (w64 (x3+1)))] ?_;exact q_hl (OA a1 x9 (w64 (x3+1))) (ih x9 (w64 (x3+1)) _ hm)
   ·refine q_jn (qLf a1 x2 x3) (λp=>UI x2 x3 (jN a1 n) p=some res) ?_ ?_
    ·rintro x7 hm;refine q_cm hm (λb8 hm=>?_) (λb8 hm=>?_)
     ·refine q_vv [] 1 [3,22] [(3,vi (w64 ((w64 (x2-1))+2)))] ?_;exact q_J (w64 ((w64 (x2-1))+2)) hm
     ·refine q_sk ?_;exact q_J (w64 (x2-1)) hm
    ·rcases bif_c hm with⟨b6,hm⟩|⟨b6,hm⟩
     ·refine q_vu [qf 3 b6] 1 [5] [(22,vb true)] [0] [] ?_;exact q_J (true) hm
     ·refine q_vu [qf 3 b6] 1 [5] [(22,vb (((a1.getD x3.toNat default).Kind)==3))] [0] [] ?_;exact q_J (((a1.getD x3.toNat default).Kind)==3) hm
  ·refine q_ex 0 ?_;obtain rfl:=oi hm;exact wR () (by kernel_rfl) (by kernel_rfl)
theorem qPy (a1:List Node) (r:Int) (hm:qAm a1=some r):CtX Tryz.prog globs 106 0 0 [.one (tl e_Node default a1)] [] (qDf r) (qDl r):=by
 unfold qAm at hm;refine q_E Tryz.f106 32 λE=>?_;refine s_vn [] 0 ⟨[(0,vc (tl e_Node default a1))],[]⟩ ?_;refine s_va 0 [(3,vi 1)] ?_;refine q_sq ?_;refine s_va 0 [(6,vc (tl e_Node default a1)),(7,vi ((a1.length:Nat):Int)),(8,vi 0)] ?_;obtain⟨u13,h12,hm⟩:=qA hm;refine zQ (nd Tryz.f106 116) 0 (by kernel_rfl) FUEL (λo=>qDP a1) (λv st=>RetQ Tryz.prog Tryz.f106 (qDf v) (qDl v) .ret st) u13 (q_hl (OA a1 1 0) (qJP E a1 FUEL 1 0 u13 h12)) ?_ ?_
 ·rintro v14 rfl st hr;obtain rfl:=oi hm;exact hr
 ·rintro o11 rfl;replace hm:_=some r:=hm;refine s_vn [] 0 ⟨[(2,vi ((a1.length:Nat):Int))],[]⟩ ?_;obtain rfl:=oi hm;refine q_rt ?_;exact q_rm
def XJ (r:Bool):V:=vb r
def yQ (r:Bool):List (Nat×(Nat×O)):=[]
theorem qEV (r:Bool):yT (yQ r):=by
 intro i k o h;unfold yQ at h;cases h
def PL (a1:List Node) (a2:List Node) (x4:Int):St:=
 ⟨[(0,vc (tl e_Node default a1)),(1,vc (tl e_Node default a2)),(12,vi ((a1.length:Nat):Int)),(13,vi x4)],[]⟩
def MC :St:=
 ⟨[],[]⟩
theorem qBH (E:Env 0) (a1:List Node) (a2:List Node):∀(n:Nat) (x4:Int) (res:Bool⊕Unit),jX a1 a2 n x4=some res->HL (kx E 26 0) (nd Tryz.f107 116) (wI 0 (λo=>MC) (λv st=>RetQ Tryz.prog Tryz.f107 (XJ v) (yQ v) .ret st) res) n (PL a1 a2 x4):=by
 intro n
 induction n with
 |zero=>
  intro x4 res hm;cases hm
 |succ n ih=>
  intro x4 res hm;refine qM ?_;refine s_va 0 [(14,vb (decide (x4<((a1.length:Nat):Int))))] ?_;refine q_sq ?_;refine q_cm hm (λb5 hm=>?_) (λb5 hm=>?_)
  ·refine q_sk ?_;refine q_sq ?_;refine q_bk 1 ?_;refine s_vv [] 0 [14] [(5,vi x4)] ?_;obtain⟨g6,hm⟩:=qG hm;obtain⟨g7,hm⟩:=qG hm;refine s_du [qi 2 g6,qi 6 g7] [0,0,3,7,0,0,48,112,255] 0 [5] [(24,vb (!((((a1.getD x4.toNat default).Kind)==((a2.getD x4.toNat default).Kind))&&((((a1.getD x4.toNat default).At)==((a2.getD x4.toNat default).At))&&true))))] [] [] ?_;refine q_cm hm (λb8 hm=>?_) (λb8 hm=>?_)
   ·refine s_vn [] 0 ⟨[(4,vb false)],[]⟩ ?_;obtain rfl:=oi hm;refine q_rt ?_;refine qY false ?_;exact q_rm
   ·refine q_sk ?_;refine q_vv [] 0 [13,24] [(13,vi (w64 (x4+1)))] ?_;exact q_hl (PL a1 a2 (w64 (x4+1))) (ih (w64 (x4+1)) _ hm)
  ·refine q_ex 0 ?_;obtain rfl:=oi hm;exact wR () (by kernel_rfl) (by kernel_rfl)
theorem qDx (a1:List Node) (a2:List Node) (r:Bool) (hm:YD a1 a2=some r):CtX Tryz.prog globs 107 0 0 [.one (tl e_Node default a1),.one (tl e_Node default a2)] [] (XJ r) (yQ r):=by
 unfold YD at hm;refine q_E Tryz.f107 26 λE=>?_;refine s_vn [] 0 ⟨[(0,vc (tl e_Node default a1)),(1,vc (tl e_Node default a2))],[]⟩ ?_;refine q_sq ?_;refine s_va 0 [(10,vb (((a1.length:Nat):Int) !=((a2.length:Nat):Int)))] ?_;refine q_cm hm (λb3 hm=>?_) (λb3 hm=>?_)
 ·refine s_vn [] 0 ⟨[(4,vb false)],[]⟩ ?_;obtain rfl:=oi hm;refine q_rt ?_;exact q_rm
 ·refine q_sk ?_;refine q_sq ?_;refine s_vv [] 0 [10] [(12,vi ((a1.length:Nat):Int)),(13,vi 0)] ?_;obtain⟨u11,h10,hm⟩:=qA hm;refine zQ (nd Tryz.f107 116) 0 (by kernel_rfl) FUEL (λo=>MC) (λv st=>RetQ Tryz.prog Tryz.f107 (XJ v) (yQ v) .ret st) u11 (q_hl (PL a1 a2 0) (qBH E a1 a2 FUEL 0 u11 h10)) ?_ ?_
  ·rintro v12 rfl st hr;obtain rfl:=oi hm;exact hr
  ·rintro o9 rfl;replace hm:_=some r:=hm;refine s_vn [] 0 ⟨[(4,vb true)],[]⟩ ?_;obtain rfl:=oi hm;refine q_rt ?_;exact q_rm
def qRE (r:(List Span)×(List (List Node))×Bool):V:= .tup [.one (.own 0 0 2 r.1.length),.one (.own 1 0 1 r.2.1.length),.one (cb r.2.2)]
def qRX (r:(List Span)×(List (List Node))×Bool):List (Nat×(Nat×O)):=[(0,ro 0 31 2 r.1.length (rf e_Span r.1)),(1,ro 0 44 1 r.2.1.length (rf (qH e_Node) r.2.1))]
def ZK (a1:Rect) (a2:Int) (a3:Int) (a4:List Node) (x7:Span):St:=
 ⟨[(1,vi a2),(2,vi a3),(3,vc (tl e_Node default a4)),(4,vp 0 0),(11,vp 1 0)],[(0,bx 33 (qE a1)),(1,bx 31 (e_Span x7))]⟩
def qE6 (a1:Rect) (a2:Int) (a3:Int) (a4:List Node) (x7:Span) (l11:List Node) (v18:Int) (l27:List Span) (l27n:Nat) (l28:List (List Node)) (l28n:Nat) (x29:Int):St:=
 (ZK a1 a2 a3 a4 x7).up [] [(12,vo 2 0 2 l27n),(13,vo 3 0 1 l28n),(14,vi x29),(15,vc (tl e_Node default (l11.drop ((1:Int).toNat)))),(17,vi v18)] [] [(2,ro 0 31 2 l27n (rf e_Span l27)),(3,ro 0 44 1 l28n (rf (qH e_Node) l28))]
def qNh (a1:Rect) (a2:Int) (a3:Int) (a4:List Node) (x7:Span) (l8:List Span) (l9:List (List Node)) (x10:Int) (l11:List Node) (v18:Int) (x22:Bool):St:=
 (ZK a1 a2 a3 a4 x7).up [] [(12,vo 2 0 2 l8.length),(13,vo 3 0 1 l9.length),(14,vi x10),(15,vc (tl e_Node default (l11.drop ((1:Int).toNat)))),(16,vp 4 0),(17,vi v18),(58,vb x22)] [] [(2,ro 0 31 2 l8.length (rf e_Span l8)),(3,ro 0 44 1 l9.length (rf (qH e_Node) l9)),(4,bx 65 [ci ((l11.getD (0:Int).toNat default).Kind),ci ((l11.getD (0:Int).toNat default).At)])]
def qNJ (a1:Rect) (a2:Int) (a3:Int) (a4:List Node) (x7:Span) (l8:List Span) (l9:List (List Node)) (x10:Int) (l11:List Node) (x14:Bool):St:=
 (ZK a1 a2 a3 a4 x7).up [] [(12,vo 2 0 2 l8.length),(13,vo 3 0 1 l9.length),(14,vi x10),(15,vc (tl e_Node default l11)),(42,vb x14)] [] [(2,ro 0 31 2 l8.length (rf e_Span l8)),(3,ro 0 44 1 l9.length (rf (qH e_Node) l9))]
def qAN (a1:Rect) (a2:Int) (a3:Int) (a4:List Node) (x7:Span) (l8:List Span) (l8n:Nat) (l9:List (List Node)) (l9n:Nat) (x10:Int) (l11:List Node):St:=
 (ZK a1 a2 a3 a4 x7).up [] [(12,vo 2 0 2 l8n),(13,vo 3 0 1 l9n),(14,vi x10),(15,vc (tl e_Node default l11))] [] [(2,ro 0 31 2 l8n (rf e_Span l8)),(3,ro 0 44 1 l9n (rf (qH e_Node) l9))]
def qEZ (a1:Rect) (a2:Int) (a3:Int) (a4:List Node) (x7:Span) (l31:List Span) (l32:List (List Node)) (x33:Int) (l34:List Node):St:=
 (ZK a1 a2 a3 a4 x7).up [] [(12,vo 2 0 2 l31.length),(13,vo 3 0 1 l32.length),(14,vi x33),(15,vc (tl e_Node default l34))] [] [(2,ro 0 31 2 l31.length (rf e_Span l31)),(3,ro 0 44 1 l32.length (rf (qH e_Node) l32))]
def qNy (l43:List Span) (l44:List (List Node)) (x50:Bool):St:=
 ⟨[(12,vo 2 0 2 l43.length),(13,vo 3 0 1 l44.length),(123,vb x50)],[(2,ro 0 31 2 l43.length (rf e_Span l43)),(3,ro 0 44 1 l44.length (rf (qH e_Node) l44))]⟩
def qE5 (a1:Rect) (a2:Int) (a3:Int) (a4:List Node) (l43:List Span) (l43n:Nat) (l44:List (List Node)) (l44n:Nat):St:=
 ⟨[(1,vi a2),(2,vi a3),(3,vc (tl e_Node default a4)),(4,vp 0 0),(12,vo 2 0 2 l43n),(13,vo 3 0 1 l44n)],[(0,bx 33 (qE a1)),(2,ro 0 31 2 l43n (rf e_Span l43)),(3,ro 0 44 1 l44n (rf (qH e_Node) l44))]⟩
def qNs (a1:Rect) (a2:Int) (a3:Int) (a4:List Node) (x7:Span) (o35:(List Span)×(List (List Node))×Int×(List Node)) (x39:Bool):St:=
 (ZK a1 a2 a3 a4 x7).up [] [(12,vo 2 0 2 o35.1.length),(13,vo 3 0 1 o35.2.1.length),(14,vi o35.2.2.1),(15,vc (tl e_Node default o35.2.2.2)),(95,vb x39)] [] [(2,ro 0 31 2 o35.1.length (rf e_Span o35.1)),(3,ro 0 44 1 o35.2.1.length (rf (qH e_Node) o35.2.1))]
def qNG (a1:Rect) (a2:Int) (a3:Int) (a4:List Node) (x7:Span):St:=
 (ZK a1 a2 a3 a4 x7).up [] [] [] []
theorem qLe (E:Env 0) (a1:Rect) (a2:Int) (a3:Int) (a4:List Node) (x7:Span):∀(n:Nat) (l8:List Span) (l8n:Nat) (l9:List (List Node)) (l9n:Nat) (x10:Int) (l11:List Node) (res:(List Span)×(List (List Node))×Int×(List Node)),l8.length=l8n->l9.length=l9n->ZF a2 a3 x7 n l8 l9 x10 l11=some res->HL (kx E 126 0) (nd Tryz.f52 4088) (zU 0 (λo=>qEZ a1 a2 a3 a4 x7 o.1 o.2.1 o.2.2.1 o.2.2.2) res) n (qAN a1 a2 a3 a4 x7 l8 l8n l9 l9n x10 l11):=by
 intro n
 induction n with
 |zero=>
  intro l8 l8n l9 l9n x10 l11 res hl0 hl1 hm;cases hm
 |succ n ih=>
  intro l8 l8n l9 l9n x10 l11 res hl0 hl1 hm;subst hl0;subst hl1;refine qM ?_;refine q_sq ?_;refine q_jn (qNJ a1 a2 a3 a4 x7 l8 l9 x10 l11) (λp=>HE a3 x7 l8 l9 x10 l11 (ZF a2 a3 x7 n) p=some res) ?_ ?_
  ·rintro x14 hm;refine q_cm hm (λb15 hm=>?_) (λb15 hm=>?_)
   ·refine q_sk ?_;refine q_bk 1 ?_;obtain⟨g16,hm⟩:=qG hm;refine s_vu [qi 1 g16] 4 [42] [(16,vp 4 0)] [] [(4,bx 65 [ci ((l11.getD (0:Int).toNat default).Kind),ci ((l11.getD (0:Int).toNat default).At)])] ?_;obtain⟨g17,hm⟩:=qG hm;refine s_vv [qd 1 (drw ((l11.drop ((1:Int).toNat)).length) 0 (rf e_Node (l11.drop ((1:Int).toNat)))) (slPlo e_Node default l11 1 (And.intro (slOk_of g17).1 (slOk_of g17).2.1))] 5 [15] [(15,vc (tl e_Node default (l11.drop ((1:Int).toNat))))] ?_;obtain⟨v18,h19,hm⟩:=qA hm;refine s_vv [qc 1 [48] 5 (qPy (l11.drop ((1:Int).toNat)) v18 h19)] 5 [] [(17,vi v18)] ?_
    refine q_jn (ι:=(List Span)×Nat×(List (List Node))×Nat×Int) (λp=>qE6 a1 a2 a3 a4 x7 l11 v18 p.1 p.2.1 p.2.2.1 p.2.2.2.1 p.2.2.2.2) (λp=>p.1.length=p.2.1/\p.2.2.1.length=p.2.2.2.1/\CC l11 (ZF a2 a3 x7 n) v18 p.1 p.2.2.1 p.2.2.2.2=some res) ?_ ?_
    ·rintro⟨l27,l27n,l28,l28n,x29⟩ ⟨el27,el28,hm⟩;replace el27:l27.length=l27n:=el27;subst el27;replace el28:l28.length=l28n:=el28;subst el28;show H _ (qE6 a1 a2 a3 a4 x7 l11 v18 l27 l27.length l28 l28.length x29) _ _;obtain⟨g30,hm⟩:=qG hm;refine q_vv [qd 2 (drw (((l11.drop ((1:Int).toNat)).drop v18.toNat).length) 0 (rf e_Node ((l11.drop ((1:Int).toNat)).drop v18.toNat))) (slPlo e_Node default (l11.drop ((1:Int).toNat)) v18 (And.intro (slOk_of g30).1 (slOk_of g30).2.1))] 7 [15,17] [(15,vc (tl e_Node default ((l11.drop ((1:Int).toNat)).drop v18.toNat)))] ?_
     exact q_hl (qAN a1 a2 a3 a4 x7 l27 l27.length l28 l28.length x29 ((l11.drop ((1:Int).toNat)).drop v18.toNat)) (ih l27 l27.length l28 l28.length x29 ((l11.drop ((1:Int).toNat)).drop v18.toNat) _ rfl rfl hm)
    ·refine q_jn (qNh a1 a2 a3 a4 x7 l8 l9 x10 l11 v18) (λp=>CE a3 x7 l8 l9 x10 l11 (ZF a2 a3 x7 n) v18 p=some res) ?_ ?_
     ·rintro x22 hm;refine q_cm hm (λb23 hm=>?_) (λb23 hm=>?_)
      ·refine q_vu [] 5 [14,16,58] [(14,vi (w64 (((l11.getD (0:Int).toNat default).At)+a3)))] [4] [] ?_;exact q_J (l8,l8.length,l9,l9.length,w64 (((l11.getD (0:Int).toNat default).At)+a3)) ⟨rfl,rfl,hm⟩
      ·obtain⟨g24,hm⟩:=qG hm
       refine s_vu [qd 5 (drw 5 0 (rf e_Span ([(Span.mk x10 ((l11.getD (0:Int).toNat default).At))]:List Span))) (litP e_Span default 2 (λ_=>rfl) ([(Span.mk x10 ((l11.getD (0:Int).toNat default).At))]:List Span) 1 rfl),qd 6 (drw 2 1 (rf e_Span (l8++([(Span.mk x10 ((l11.getD (0:Int).toNat default).At))]:List Span)))) (apP e_Span default l8 ([(Span.mk x10 ((l11.getD (0:Int).toNat default).At))]:List Span) l8.length 1 2 16 (1<=1) (Nat.le_refl _) rfl rfl (λ_=>rfl) (zI g24))] 5 [12,14,58] [(12,vo 2 1 2 (l8.length+1))] [2] [(2,ro 1 31 2 (l8.length+1) (rf e_Span (l8++([(Span.mk x10 ((l11.getD (0:Int).toNat default).At))]:List Span))))] ?_
       obtain⟨g25,hm⟩:=qG hm;obtain⟨g26,hm⟩:=qG hm
       refine s_vu [qd 3 (drw (((l11.drop ((1:Int).toNat)).take v18.toNat).length) 0 (rf e_Node ((l11.drop ((1:Int).toNat)).take v18.toNat))) (slPhi e_Node default (l11.drop ((1:Int).toNat)) v18 (And.intro (slOk_of g25).2.1 (slOk_of g25).2.2)),qd 4 (drw 6 0 (rf (qH e_Node) ([((l11.drop ((1:Int).toNat)).take v18.toNat)]:List (List Node)))) (litP (qH e_Node) default 1 (λ_=>rfl) ([((l11.drop ((1:Int).toNat)).take v18.toNat)]:List (List Node)) 1 rfl),qd 5 (drw 3 1 (rf (qH e_Node) (l9++([((l11.drop ((1:Int).toNat)).take v18.toNat)]:List (List Node))))) (apP (qH e_Node) default l9 ([((l11.drop ((1:Int).toNat)).take v18.toNat)]:List (List Node)) l9.length 1 1 24 (1<=1) (Nat.le_refl _) rfl rfl (λ_=>rfl) (zI g26))] 6 [13] [(13,vo 3 1 1 (l9.length+1))] [3] [(3,ro 1 44 1 (l9.length+1) (rf (qH e_Node) (l9++([((l11.drop ((1:Int).toNat)).take v18.toNat)]:List (List Node)))))] ?_
       refine q_vu [] 7 [16] [(14,vi (imin (w64 (((l11.getD (0:Int).toNat default).At)+a3)) x7.B))] [4] [] ?_;exact q_J ((l8++([(Span.mk x10 ((l11.getD (0:Int).toNat default).At))]:List Span)),(l8.length+1),(l9++([((l11.drop ((1:Int).toNat)).take v18.toNat)]:List (List Node))),(l9.length+1),imin (w64 (((l11.getD (0:Int).toNat default).At)+a3)) x7.B) ⟨(len_app rfl rfl),(len_app rfl rfl),hm⟩
     ·rcases bif_c hm with⟨b20,hm⟩|⟨b20,hm⟩
      ·obtain⟨g21,hm⟩:=qG hm;refine q_vv [qf 2 b20,qi 4 g21] 5 [] [(58,vb ((((l11.drop ((1:Int).toNat)).getD (0:Int).toNat default).Kind)==0))] ?_;exact q_J ((((l11.drop ((1:Int).toNat)).getD (0:Int).toNat default).Kind)==0) hm
      ·refine q_vv [qf 2 b20] 5 [] [(58,vb false)] ?_;exact q_J (false) hm
   ·refine q_ex 0 ?_;obtain rfl:=oi hm;exact wH (by kernel_rfl) (by kernel_rfl)
  ·rcases bif_c hm with⟨b12,hm⟩|⟨b12,hm⟩
   ·obtain⟨g13,hm⟩:=qG hm;refine q_vv [qf 3 b12,qi 5 g13] 4 [] [(42,vb (((l11.getD (0:Int).toNat default).Kind)==a2))] ?_;exact q_J (((l11.getD (0:Int).toNat default).Kind)==a2) hm
   ·refine q_vv [qf 3 b12] 4 [] [(42,vb false)] ?_;exact q_J (false) hm
theorem qH0 (a1:Rect) (a2:Int) (a3:Int) (a4:List Node) (r:(List Span)×(List (List Node))×Bool) (hm:IW a1 a2 a3 a4=some r):CtX Tryz.prog globs 52 0 0 [.agg (qE a1),.one (ci a2),.one (ci a3),.one (tl e_Node default a4)] [] (qRE r) (qRX r):=by
 unfold IW at hm;refine q_E Tryz.f52 126 λE=>?_;refine s_vn [] 0 ⟨[(1,vi a2),(2,vi a3),(3,vc (tl e_Node default a4)),(4,vp 0 0)],[(0,bx 33 (qE a1))]⟩ ?_;refine q_sq ?_;refine s_va 1 [(22,vb (decide (((a4.length:Nat):Int)>127)))] ?_;refine q_cm hm (λb5 hm=>?_) (λb5 hm=>?_)
 ·refine s_vn [] 1 ⟨[(8,vc (.emp)),(9,vc (.emp)),(10,vb false)],[]⟩ ?_;refine q_fu [.own 8 1 31 2 (rf e_Span ([]:List Span))] [8] [(8,vo 1 0 2 0)] [] [(1,ro 0 31 2 0 (rf e_Span ([]:List Span)))] o0 ?_;refine q_fu [.own 9 2 44 1 (rf (qH e_Node) ([]:List (List Node)))] [9] [(9,vo 2 0 1 0)] [] [(2,ro 0 44 1 0 (rf (qH e_Node) ([]:List (List Node))))] o0 ?_
  refine q_fu [.len 1 (([]:List Span).length)] [8] [(8,vo 1 0 2 (([]:List Span).length))] [1] [(1,ro 0 31 2 (([]:List Span).length) (rf e_Span ([]:List Span)))] (o1 (And.intro (show 0=([]:List Span).length from rfl) (show 0=([]:List Span).length from rfl))) ?_;refine q_fu [.len 2 (([]:List (List Node)).length)] [9] [(9,vo 2 0 1 (([]:List (List Node)).length))] [2] [(2,ro 0 44 1 (([]:List (List Node)).length) (rf (qH e_Node) ([]:List (List Node))))] (o1 (And.intro (show 0=([]:List (List Node)).length from rfl) (show 0=([]:List (List Node)).length from rfl))) ?_;obtain rfl:=oi hm
  refine qT 1 0 (by kernel_rfl) ?_;refine qT 2 1 (by kernel_rfl) ?_;refine q_rt ?_;exact q_rm
 ·refine q_sk ?_;refine s_vu [] 1 [22] [(11,vp 1 0)] [] [(1,bx 31 (e_Span a1.X))] ?_;refine q_jn (qNG a1 a2 a3 a4) (λp=>XP a1 a2 a3 a4 p=some r) ?_ ?_
  ·rintro x7 hm;refine s_va 2 [(12,vc (.emp))] ?_;refine s_va 2 [(13,vc (.emp))] ?_;refine s_va 2 [(14,vi x7.A)] ?_;refine s_va 2 [(15,vc (tl e_Node default a4))] ?_;refine q_sq ?_;refine q_fu [.own 12 2 31 2 (rf e_Span ([]:List Span))] [12] [(12,vo 2 0 2 0)] [] [(2,ro 0 31 2 0 (rf e_Span ([]:List Span)))] o0 ?_;refine q_fu [.own 13 3 44 1 (rf (qH e_Node) ([]:List (List Node)))] [13] [(13,vo 3 0 1 0)] [] [(3,ro 0 44 1 0 (rf (qH e_Node) ([]:List (List Node))))] o0 ?_;obtain⟨o35,h36,hm⟩:=qA hm
   refine zN (nd Tryz.f52 4088) 0 (by kernel_rfl) FUEL (λo=>qEZ a1 a2 a3 a4 x7 o.1 o.2.1 o.2.2.1 o.2.2.2) o35 (q_hl (qAN a1 a2 a3 a4 x7 ([]:List Span) 0 ([]:List (List Node)) 0 x7.A a4) (qLe E a1 a2 a3 a4 x7 FUEL ([]:List Span) 0 ([]:List (List Node)) 0 x7.A a4 o35 rfl rfl h36)) ?_;refine q_jn (ι:=(List Span)×Nat×(List (List Node))×Nat) (λp=>qE5 a1 a2 a3 a4 p.1 p.2.1 p.2.2.1 p.2.2.2) (λp=>p.1.length=p.2.1/\p.2.2.1.length=p.2.2.2/\HK a1 a2 a3 a4 p.1 p.2.2.1=some r) ?_ ?_
   ·rintro⟨l43,l43n,l44,l44n⟩ ⟨el43,el44,hm⟩;replace el43:l43.length=l43n:=el43;subst el43;replace el44:l44.length=l44n:=el44;subst el44;show H _ (qE5 a1 a2 a3 a4 l43 l43.length l44 l44.length) _ _;obtain⟨v45,h46,hm⟩:=qA hm
    refine s_vu [qd 5 (dex (cen [] [] 6 0 (PS v45) (WG v45) [108,109,110,111,112] [2,3])) (wV (K:=(kx E 126 0)) (b:=false) ⟨[(108,va (qE a1)),(109,vi a2),(110,vi a3),(111,vo 2 0 2 l43.length),(112,vo 3 0 1 l44.length)],[(2,ro 0 31 2 l43.length (rf e_Span l43)),(3,ro 0 44 1 l44.length (rf (qH e_Node) l44))]⟩ (opAt (rg Tryz.f52 4094) 5) [] [] 6 (o1 (And.intro (Nat.le_refl l43.length) (Nat.le_refl l44.length))) rfl (pattern_Row_ok a1 a2 a3 l43 l44 v45 h46) (.inr ⟨(by kernel_rfl),qAE v45⟩) (by kernel_rfl))] 6 [1,2,4] [(18,vo 6 0 2 v45.1.length),(19,vi v45.2)] [0] [(6,ro 0 65 2 v45.1.length (rf e_Node v45.1))] ?_
    refine q_sq ?_;refine q_jn (qNy l43 l44) (λp=>CJ l43 l44 p=some r) ?_ ?_
    ·rintro x50 hm;refine q_cm hm (λb51 hm=>?_) (λb51 hm=>?_)
     ·refine s_vn [] 7 ⟨[(8,vc (.emp)),(9,vc (.emp)),(10,vb false)],[]⟩ ?_;refine q_fu [.own 8 7 31 2 (rf e_Span ([]:List Span))] [8] [(8,vo 7 0 2 0)] [] [(7,ro 0 31 2 0 (rf e_Span ([]:List Span)))] o0 ?_;refine q_fu [.own 9 8 44 1 (rf (qH e_Node) ([]:List (List Node)))] [9] [(9,vo 8 0 1 0)] [] [(8,ro 0 44 1 0 (rf (qH e_Node) ([]:List (List Node))))] o0 ?_
      refine q_fu [.len 7 (([]:List Span).length)] [8] [(8,vo 7 0 2 (([]:List Span).length))] [7] [(7,ro 0 31 2 (([]:List Span).length) (rf e_Span ([]:List Span)))] (o1 (And.intro (show 0=([]:List Span).length from rfl) (show 0=([]:List Span).length from rfl))) ?_;refine q_fu [.len 8 (([]:List (List Node)).length)] [9] [(9,vo 8 0 1 (([]:List (List Node)).length))] [8] [(8,ro 0 44 1 (([]:List (List Node)).length) (rf (qH e_Node) ([]:List (List Node))))] (o1 (And.intro (show 0=([]:List (List Node)).length from rfl) (show 0=([]:List (List Node)).length from rfl))) ?_;obtain rfl:=oi hm
      refine qT 7 0 (by kernel_rfl) ?_;refine qT 8 1 (by kernel_rfl) ?_;refine q_rt ?_;exact q_rm
     ·refine q_sk ?_;refine s_vv [] 7 [12,13,123] [(8,vo 2 0 2 l43.length),(9,vo 3 0 1 l44.length),(10,vb true)] ?_;obtain rfl:=oi hm;refine qT 2 0 (by kernel_rfl) ?_;refine qT 3 1 (by kernel_rfl) ?_;refine q_rt ?_;exact q_rm
    ·rcases bif_c hm with⟨b47,hm⟩|⟨b47,hm⟩
     ·refine q_vu [qf 2 b47] 7 [3,18,19] [(123,vb true)] [6] [] ?_;exact q_J (true) hm
     ·obtain⟨v48,h49,hm⟩:=qA hm;refine q_vu [qf 2 b47,qd 5 (dex (cen [] [] 7 0 (XJ v48) (yQ v48) [118,119,120] [6])) (wV (K:=(kx E 126 0)) (b:=false) ⟨[(118,vb false),(119,vc (tl e_Node default a4)),(120,vo 6 0 2 v45.1.length)],[(6,ro 0 65 2 v45.1.length (rf e_Node v45.1))]⟩ (opAt (rg Tryz.f52 16380) 5) [] [] 7 (o1 (Nat.le_refl v45.1.length)) rfl (qDx a4 v45.1 v48 h49) (.inr ⟨(by kernel_rfl),qEV v48⟩) (by kernel_rfl))] 7 [3,18,19] [(123,vb (!v48))] [6] [] ?_;exact q_J (!v48) hm
   ·refine q_jn (qNs a1 a2 a3 a4 x7 o35) (λp=>CT a1 a2 a3 a4 x7 o35 p=some r) ?_ ?_
    ·rintro x39 hm;refine q_cm hm (λb40 hm=>?_) (λb40 hm=>?_)
     ·obtain⟨g41,hm⟩:=qG hm;refine s_vu [qd 5 (drw 4 0 (rf e_Span ([(Span.mk o35.2.2.1 x7.B)]:List Span))) (litP e_Span default 2 (λ_=>rfl) ([(Span.mk o35.2.2.1 x7.B)]:List Span) 1 rfl),qd 6 (drw 2 1 (rf e_Span (o35.1++([(Span.mk o35.2.2.1 x7.B)]:List Span)))) (apP e_Span default o35.1 ([(Span.mk o35.2.2.1 x7.B)]:List Span) o35.1.length 1 2 16 (1<=1) (Nat.le_refl _) rfl rfl (λ_=>rfl) (zI g41))] 4 [11,12,14,95] [(12,vo 2 1 2 (o35.1.length+1))] [1,2] [(2,ro 1 31 2 (o35.1.length+1) (rf e_Span (o35.1++([(Span.mk o35.2.2.1 x7.B)]:List Span))))] ?_;obtain⟨g42,hm⟩:=qG hm
      refine q_vu [qd 2 (drw 5 0 (rf (qH e_Node) ([o35.2.2.2]:List (List Node)))) (litP (qH e_Node) default 1 (λ_=>rfl) ([o35.2.2.2]:List (List Node)) 1 rfl),qd 3 (drw 3 1 (rf (qH e_Node) (o35.2.1++([o35.2.2.2]:List (List Node))))) (apP (qH e_Node) default o35.2.1 ([o35.2.2.2]:List (List Node)) o35.2.1.length 1 1 24 (1<=1) (Nat.le_refl _) rfl rfl (λ_=>rfl) (zI g42))] 5 [13,15] [(13,vo 3 1 1 (o35.2.1.length+1))] [3] [(3,ro 1 44 1 (o35.2.1.length+1) (rf (qH e_Node) (o35.2.1++([o35.2.2.2]:List (List Node)))))] ?_
      exact q_J ((o35.1++([(Span.mk o35.2.2.1 x7.B)]:List Span)),(o35.1.length+1),(o35.2.1++([o35.2.2.2]:List (List Node))),(o35.2.1.length+1)) ⟨(len_app rfl rfl),(len_app rfl rfl),hm⟩
     ·refine q_sk ?_;exact q_J (o35.1,o35.1.length,o35.2.1,o35.2.1.length) ⟨rfl,rfl,hm⟩
    ·rcases bif_c hm with⟨b37,hm⟩|⟨b37,hm⟩
     ·obtain⟨g38,hm⟩:=qG hm;refine q_vv [qf 3 b37,qi 5 g38] 4 [] [(95,vb (((o35.2.2.2.getD (0:Int).toNat default).Kind) !=0))] ?_;exact q_J (((o35.2.2.2.getD (0:Int).toNat default).Kind) !=0) hm
     ·refine q_vv [qf 3 b37] 4 [] [(95,vb false)] ?_;exact q_J (false) hm
  ·refine s_va 2 [(26,vb (a2==3))] ?_;refine q_cm hm (λb6 hm=>?_) (λb6 hm=>?_)
   ·refine q_vu [] 2 [26] [] [1] [(1,bx 31 (e_Span a1.Y))] ?_;exact q_J (a1.Y) hm
   ·refine q_sk ?_;exact q_J (a1.X) hm
def OI (r:Bool):V:=vb r
def OE (r:Bool):List (Nat×(Nat×O)):=[]
def WO (a1:Rect) (a3:Saw) (v5:(List Span)×(List (List Node))×Bool) (v10:(List Int)×(List Int)) (x12:Int):St:=
 ⟨[(4,vp 0 0),(6,vp 1 0),(10,vo 3 0 1 v5.2.1.length),(12,vo 4 0 1 v10.1.length),(13,vo 5 0 1 v10.2.length),(14,vi x12),(15,vp 6 0),(47,vo 2 0 2 v5.1.length),(48,vi ((v5.1.length:Nat):Int)),(49,vi x12)],[(0,bx 33 (qE a1)),(1,bx 38 (zB a3)),(2,ro 0 31 2 v5.1.length (rf e_Span v5.1)),(3,ro 0 44 1 v5.2.1.length (rf (qH e_Node) v5.2.1)),(4,ro 0 3 1 v10.1.length (rf e_i64 v10.1)),(5,ro 0 3 1 v10.2.length (rf e_i64 v10.2)),(6,bx 31 [ci ((v5.1.getD x12.toNat default).A),ci ((v5.1.getD x12.toNat default).B)])]⟩
def qHx (a1:Rect) (a3:Saw) (v5:(List Span)×(List (List Node))×Bool) (v10:(List Int)×(List Int)) (x12:Int) (x23:Int) (x31:Bool):St:=
 (WO a1 a3 v5 v10 x12).up [] [(16,vb x31),(82,vo 4 0 1 v10.1.length),(83,vi ((v10.1.length:Nat):Int)),(84,vi x23)] [] []
def MR (a1:Rect) (a3:Saw) (v5:(List Span)×(List (List Node))×Bool) (v10:(List Int)×(List Int)) (x12:Int) (x22:Bool) (x23:Int):St:=
 (WO a1 a3 v5 v10 x12).up [] [(16,vb x22),(82,vo 4 0 1 v10.1.length),(83,vi ((v10.1.length:Nat):Int)),(84,vi x23)] [] []
def qAT (a1:Rect) (a3:Saw) (v5:(List Span)×(List (List Node))×Bool) (v10:(List Int)×(List Int)) (x12:Int) (x32:Bool):St:=
 (WO a1 a3 v5 v10 x12).up [14,15] [(16,vb x32)] [6] []
def qHL (a1:Rect) (a3:Saw) (v5:(List Span)×(List (List Node))×Bool) (v10:(List Int)×(List Int)) (x12:Int) (x20:Bool):St:=
 (WO a1 a3 v5 v10 x12).up [] [(81,vb x20)] [] []
def MI (a1:Rect) (a3:Saw) (v5:(List Span)×(List (List Node))×Bool) (v10:(List Int)×(List Int)) (x12:Int):St:=
 (WO a1 a3 v5 v10 x12).up [14,15] [] [6] []
def qAY :St:=
 ⟨[],[]⟩
def qHM (a1:Rect) (a2:List Product) (a3:Saw) (v5:(List Span)×(List (List Node))×Bool) (x8:Bool):St:=
 ⟨[(1,vc (tl qC default a2)),(4,vp 0 0),(6,vp 1 0),(9,vo 2 0 2 v5.1.length),(10,vo 3 0 1 v5.2.1.length),(34,vb x8)],[(0,bx 33 (qE a1)),(1,bx 38 (zB a3)),(2,ro 0 31 2 v5.1.length (rf e_Span v5.1)),(3,ro 0 44 1 v5.2.1.length (rf (qH e_Node) v5.2.1))]⟩
theorem qFE (E:Env 0) (a1:Rect) (a3:Saw) (v5:(List Span)×(List (List Node))×Bool) (v10:(List Int)×(List Int)) (x12:Int):∀(n:Nat) (x22:Bool) (x23:Int) (res:Bool),wZ v5 v10 x12 n x22 x23=some res->HL (kx E 117 0) (nd Tryz.f54 1025652) (zU 2 (λo=>qAT a1 a3 v5 v10 x12 o) res) n (MR a1 a3 v5 v10 x12 x22 x23):=by
 intro n
 induction n with
 |zero=>
  intro x22 x23 res hm;cases hm
 |succ n ih=>
  intro x22 x23 res hm;refine qM ?_;refine s_va 7 [(85,vb (decide (x23<((v10.1.length:Nat):Int))))] ?_;refine q_sq ?_;refine q_cm hm (λb24 hm=>?_) (λb24 hm=>?_)
  ·refine q_sk ?_;refine q_jn (qHx a1 a3 v5 v10 x12 x23) (λp=>RE x23 (wZ v5 v10 x12 n) p=some res) ?_ ?_
   ·rintro x31 hm;refine q_vv [] 7 [84] [(84,vi (w64 (x23+1)))] ?_;exact q_hl (MR a1 a3 v5 v10 x12 x31 (w64 (x23+1))) (ih x31 (w64 (x23+1)) _ hm)
   ·refine q_bk 3 ?_;obtain⟨g25,hm⟩:=qG hm;refine s_vv [qi 1 g25,qd 2 dN (toNat_lt (inb_of g25))] 7 [85] [(17,vi x23),(18,vi (v10.1.getD x23.toNat default))] ?_;rcases bif_c hm with⟨b26,hm⟩|⟨b26,hm⟩
    ·refine q_du [qf 1 b26] [0,1,3,3,11,3,35,123,255,511,1023,1023,4095,8191,1023,1023,50175,115711,246783,508927,1033215,2097151,4194303,8388607,16777215] 7 [16,17,18] [(16,vb true)] [] [] ?_;exact q_J (true) hm
    ·rcases bif_c hm with⟨b27,hm⟩|⟨b27,hm⟩
     ·obtain⟨g28,hm⟩:=qG hm;obtain⟨g29,hm⟩:=qG hm;obtain⟨g30,hm⟩:=qG hm;refine q_du [qf 1 b26,qf 9 b27,qi 12 g28,qd 13 dN (toNat_lt (inb_of g28)),qi 16 g29,qd 17 dN (toNat_lt (inb_of g29)),qi 18 g30] [0,1,3,3,11,3,35,123,255,511,1023,1023,4095,8191,1023,1023,50175,115711,246783,508927,1033215,2097151,4194303,8388607,16777215] 7 [16,17,18] [(16,vb ((v10.2.getD x23.toNat default)==(((v5.2.1.getD x12.toNat default).getD (0:Int).toNat default).At)))] [] [] ?_;exact q_J ((v10.2.getD x23.toNat default)==(((v5.2.1.getD x12.toNat default).getD (0:Int).toNat default).At)) hm
     ·refine q_du [qf 1 b26,qf 9 b27] [0,1,3,3,11,3,35,123,255,511,1023,1023,4095,8191,1023,1023,50175,115711,246783,508927,1033215,2097151,4194303,8388607,16777215] 7 [16,17,18] [(16,vb false)] [] [] ?_;exact q_J (false) hm
  ·refine q_ex 2 ?_;obtain rfl:=oi hm;exact wH (by kernel_rfl) (by kernel_rfl)
theorem qFR (E:Env 0) (a1:Rect) (a3:Saw) (v5:(List Span)×(List (List Node))×Bool) (v10:(List Int)×(List Int)):∀(n:Nat) (x12:Int) (res:Bool⊕Unit),jV a1 a3 v5 v10 n x12=some res->HL (kx E 117 0) (nd Tryz.f54 500) (wI 0 (λo=>qAY) (λv st=>RetQ Tryz.prog Tryz.f54 (OI v) (OE v) .ret st) res) n (MI a1 a3 v5 v10 x12):=by
 intro n
 induction n with
 |zero=>
  intro x12 res hm;cases hm
 |succ n ih=>
  intro x12 res hm;refine qM ?_;refine s_va 6 [(50,vb (decide (x12<((v5.1.length:Nat):Int))))] ?_;refine q_sq ?_;refine q_cm hm (λb13 hm=>?_) (λb13 hm=>?_)
  ·refine q_sk ?_;refine q_sq ?_;refine q_bk 1 ?_;obtain⟨g14,hm⟩:=qG hm;refine s_vu [qi 1 g14,qd 2 dN (toNat_lt (inb_of g14))] 6 [50] [(14,vi x12),(15,vp 6 0)] [] [(6,bx 31 [ci ((v5.1.getD x12.toNat default).A),ci ((v5.1.getD x12.toNat default).B)])] ?_;refine q_sq ?_;refine q_jn (qHL a1 a3 v5 v10 x12) (λp=>RD v5 v10 x12 (jV a1 a3 v5 v10 n) p=some res) ?_ ?_
   ·rintro x20 hm;refine q_cm hm (λb21 hm=>?_) (λb21 hm=>?_)
    ·refine s_vn [] 7 ⟨[(8,vb false)],[]⟩ ?_;obtain rfl:=oi hm;refine q_rt ?_;refine qY false ?_;exact q_rm
    ·refine q_sk ?_;refine s_vv [] 7 [81] [(16,vb false)] ?_;refine q_sq ?_;refine s_va 7 [(82,vo 4 0 1 v10.1.length),(83,vi ((v10.1.length:Nat):Int)),(84,vi 0)] ?_;obtain⟨o33,h34,hm⟩:=qA hm;refine zN (nd Tryz.f54 1025652) 2 (by kernel_rfl) FUEL (λo=>qAT a1 a3 v5 v10 x12 o) o33 (q_hl (MR a1 a3 v5 v10 x12 false 0) (qFE E a1 a3 v5 v10 x12 FUEL false 0 o33 h34)) ?_;refine s_vv [] 7 [16] [(115,vb (!o33))] ?_;refine q_cm hm (λb35 hm=>?_) (λb35 hm=>?_)
     ·refine s_vn [] 7 ⟨[(8,vb false)],[]⟩ ?_;obtain rfl:=oi hm;refine q_rt ?_;refine qY false ?_;exact q_rm
     ·refine q_sk ?_;refine q_vv [] 7 [49,115] [(49,vi (w64 (x12+1)))] ?_;exact q_hl (MI a1 a3 v5 v10 (w64 (x12+1))) (ih (w64 (x12+1)) _ hm)
   ·obtain⟨g15,hm⟩:=qG hm;rcases bif_c hm with⟨b16,hm⟩|⟨b16,hm⟩
    ·refine q_vv [qd 8 dN (CN g15),qf 10 b16] 7 [] [(81,vb true)] ?_;exact q_J (true) hm
    ·obtain⟨g17,hm⟩:=qG hm;rcases bif_c hm with⟨b18,hm⟩|⟨b18,hm⟩
     ·refine q_vv [qd 8 dN (CN g15),qf 10 b16,qi 13 g17,qd 14 dN (toNat_lt (inb_of g17)),qf 18 b18] 7 [] [(81,vb true)] ?_;exact q_J (true) hm
     ·obtain⟨g19,hm⟩:=qG hm;refine q_vv [qd 8 dN (CN g15),qf 10 b16,qi 13 g17,qd 14 dN (toNat_lt (inb_of g17)),qf 18 b18,qi 21 g17,qd 22 dN (toNat_lt (inb_of g17)),qi 23 g19] 7 [] [(81,vb ((((v5.2.1.getD x12.toNat default).getD (0:Int).toNat default).Kind) !=1))] ?_;exact q_J ((((v5.2.1.getD x12.toNat default).getD (0:Int).toNat default).Kind) !=1) hm
  ·refine q_ex 0 ?_;obtain rfl:=oi hm;exact wR () (by kernel_rfl) (by kernel_rfl)
theorem qKv (a1:Rect) (a2:List Product) (a3:Saw) (a4:List Node) (r:Bool) (hm:NQ a1 a2 a3 a4=some r):CtX Tryz.prog globs 54 0 0 [.agg (qE a1),.one (tl qC default a2),.agg (zB a3),.one (tl e_Node default a4)] [] (OI r) (OE r):=by
 unfold NQ at hm;refine q_E Tryz.f54 117 λE=>?_;refine s_vn [] 0 ⟨[(1,vc (tl qC default a2)),(3,vc (tl e_Node default a4)),(4,vp 0 0),(6,vp 1 0)],[(0,bx 33 (qE a1)),(1,bx 38 (zB a3))]⟩ ?_;obtain⟨v5,h6,hm⟩:=qA hm;refine s_vu [qk 4 [20,22,23] 2 ⟨[(20,va (qE a1)),(22,vi a3.Kerf),(23,vc (tl e_Node default a4))],[]⟩ (qH0 a1 2 a3.Kerf a4 v5 h6)] 2 [3] [(9,vo 2 0 2 v5.1.length),(10,vo 3 0 1 v5.2.1.length),(11,vb v5.2.2)] [] [(2,ro 0 31 2 v5.1.length (rf e_Span v5.1)),(3,ro 0 44 1 v5.2.1.length (rf (qH e_Node) v5.2.1))] ?_;refine q_sq ?_
 refine q_jn (qHM a1 a2 a3 v5) (λp=>BN a1 a2 a3 v5 p=some r) ?_ ?_
 ·rintro x8 hm;refine q_cm hm (λb9 hm=>?_) (λb9 hm=>?_)
  ·refine s_vn [] 4 ⟨[(8,vb false)],[]⟩ ?_;obtain rfl:=oi hm;refine q_rt ?_;exact q_rm
  ·refine q_sk ?_;obtain⟨v10,h11,hm⟩:=qA hm;refine s_vu [qc 8 [36,43] 4 (qAF a2 (w64 (a1.Y.B-a1.Y.A)) v10 h11)] 4 [1,34] [(12,vo 4 0 1 v10.1.length),(13,vo 5 0 1 v10.2.length)] [] [(4,ro 0 3 1 v10.1.length (rf e_i64 v10.1)),(5,ro 0 3 1 v10.2.length (rf e_i64 v10.2))] ?_;refine q_sq ?_;refine s_vv [] 6 [9] [(47,vo 2 0 2 v5.1.length),(48,vi ((v5.1.length:Nat):Int)),(49,vi 0)] ?_;obtain⟨u38,h37,hm⟩:=qA hm;refine zQ (nd Tryz.f54 500) 0 (by kernel_rfl) FUEL (λo=>qAY) (λv st=>RetQ Tryz.prog Tryz.f54 (OI v) (OE v) .ret st) u38 (q_hl (MI a1 a3 v5 v10 0) (qFR E a1 a3 v5 v10 FUEL 0 u38 h37)) ?_ ?_
   ·rintro v39 rfl st hr;obtain rfl:=oi hm;exact hr
   ·rintro o36 rfl;replace hm:_=some r:=hm;refine s_vn [] 6 ⟨[(8,vb true)],[]⟩ ?_;obtain rfl:=oi hm;refine q_rt ?_;exact q_rm
 ·rcases bif_c hm with⟨b7,hm⟩|⟨b7,hm⟩
  ·refine q_vv [qf 2 b7] 4 [11] [(34,vb true)] ?_;exact q_J (true) hm
  ·refine q_vv [qf 2 b7] 4 [11] [(34,vb (((v5.1.length:Nat):Int)==0))] ?_;exact q_J (((v5.1.length:Nat):Int)==0) hm
def BE (r:Int):V:=vi r
def BD (r:Int):List (Nat×(Nat×O)):=[]
def TK (a1:List Int) (a2:Int) (x3:Int):St:=
 ⟨[(0,vc (tl e_i64 default a1)),(1,vi a2),(7,vi ((a1.length:Nat):Int)),(8,vi x3)],[]⟩
def HI :St:=
 ⟨[],[]⟩
theorem qCd (E:Env 0) (a1:List Int) (a2:Int):∀(n:Nat) (x3:Int) (res:Int⊕Unit),yS a1 a2 n x3=some res->HL (kx E 19 0) (nd Tryz.f108 52) (wI 0 (λo=>HI) (λv st=>RetQ Tryz.prog Tryz.f108 (BE v) (BD v) .ret st) res) n (TK a1 a2 x3):=by
 intro n
 induction n with
 |zero=>
  intro x3 res hm;cases hm
 |succ n ih=>
  intro x3 res hm;refine qM ?_;refine s_va 0 [(9,vb (decide (x3<((a1.length:Nat):Int))))] ?_;refine q_sq ?_;refine q_cm hm (λb4 hm=>?_) (λb4 hm=>?_)
  ·refine q_sk ?_;refine q_sq ?_;refine q_bk 1 ?_;refine s_vv [] 0 [9] [(5,vi x3)] ?_;obtain⟨g5,hm⟩:=qG hm;refine s_vv [qi 3 g5] 0 [] [(16,vb (a2==(a1.getD x3.toNat default)))] ?_;refine q_cm hm (λb6 hm=>?_) (λb6 hm=>?_)
   ·refine s_vn [] 0 ⟨[(4,vi x3)],[]⟩ ?_;obtain rfl:=oi hm;refine q_rt ?_;refine qY x3 ?_;exact q_rm
   ·refine q_sk ?_;refine q_vv [] 0 [5,8,16] [(8,vi (w64 (x3+1)))] ?_;exact q_hl (TK a1 a2 (w64 (x3+1))) (ih (w64 (x3+1)) _ hm)
  ·refine q_ex 0 ?_;obtain rfl:=oi hm;exact wR () (by kernel_rfl) (by kernel_rfl)
theorem qEu (a1:List Int) (a2:Int) (r:Int) (hm:TO a1 a2=some r):CtX Tryz.prog globs 108 0 0 [.one (tl e_i64 default a1),.one (ci a2)] [] (BE r) (BD r):=by
 unfold TO at hm;refine q_E Tryz.f108 19 λE=>?_;refine s_vn [] 0 ⟨[(0,vc (tl e_i64 default a1)),(1,vi a2)],[]⟩ ?_;refine q_sq ?_;refine s_va 0 [(7,vi ((a1.length:Nat):Int)),(8,vi 0)] ?_;obtain⟨u9,h8,hm⟩:=qA hm;refine zQ (nd Tryz.f108 52) 0 (by kernel_rfl) FUEL (λo=>HI) (λv st=>RetQ Tryz.prog Tryz.f108 (BE v) (BD v) .ret st) u9 (q_hl (TK a1 a2 0) (qCd E a1 a2 FUEL 0 u9 h8)) ?_ ?_
 ·rintro v10 rfl st hr;obtain rfl:=oi hm;exact hr
 ·rintro o7 rfl;replace hm:_=some r:=hm;refine s_vn [] 0 ⟨[(4,vi (-1))],[]⟩ ?_;obtain rfl:=oi hm;refine q_rt ?_;exact q_rm
def HN (r:Bool):V:=vb r
def JM (r:Bool):List (Nat×(Nat×O)):=[]
theorem qDg (r:Bool):yT (JM r):=by
 intro i k o h;unfold JM at h;cases h
theorem qCb (a1:List Int) (a2:Int) (r:Bool) (hm:ZQ a1 a2=some r):CtX Tryz.prog globs 53 0 0 [.one (tl e_i64 default a1),.one (ci a2)] [] (HN r) (JM r):=by
 unfold ZQ at hm;refine q_E Tryz.f53 9 λE=>?_;refine s_vn [] 0 ⟨[(0,vc (tl e_i64 default a1)),(1,vi a2)],[]⟩ ?_;obtain⟨v3,h4,hm⟩:=qA hm;refine s_vn [qc 2 [5,6] 0 (qEu a1 a2 v3 h4)] 0 ⟨[(4,vb (decide (v3≥0)))],[]⟩ ?_;obtain rfl:=oi hm;refine q_rt ?_;exact q_rm
end Saw
end Go.SL

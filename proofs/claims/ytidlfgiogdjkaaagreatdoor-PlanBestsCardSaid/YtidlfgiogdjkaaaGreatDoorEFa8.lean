import Derived.Test.YtidlfgiogdjkaaaGreatDoorEBase
import Derived.Test.YtidlfgiogdjkaaaGreatDoorEFa7
import Derived.Test.YtidlfgiogdjkaaaGreatDoorEFa1
import Derived.Test.YtidlfgiogdjkaaaGreatDoorEFa6
import Derived.Test.YtidlfgiogdjkaaaGreatDoorEFa4
set_option linter.unusedVariables false
set_option linter.unusedSimpArgs false
namespace Go.SL
namespace Saw
open Go.Proofs Go.Proofs.Tryz
set_option maxHeartbeats 4000000
set_option maxRecDepth 100000
def qRe (r:Rect):V:=va (qO r)
def qRs (r:Rect):List (Nat×(Nat×O)):=[]
def qLz (v2:(List qC)) (x4:Int) (v8:Rect) (x11:Rect):St:=
 ⟨[(2,vp 0 0),(3,vp 1 0),(6,vp 3 0),(8,vc (tl qL du v2)),(9,vi (v2.length:Int)),(10,vi x4)],[(0,bx 33 [ci 0,ci 0,ci 0,ci 0]),(1,bx 33 (qO x11)),(3,bx 33 (qO v8))]⟩
def OE (v2:(List qC)) (x4:Int) (x5:Rect):St:=
 ⟨[(2,vp 0 0),(3,vp 1 0),(8,vc (tl qL du v2)),(9,vi (v2.length:Int)),(10,vi x4)],[(0,bx 33 [ci 0,ci 0,ci 0,ci 0]),(1,bx 33 (qO x5))]⟩
def qD8 (x12:Rect):St:=
 ⟨[(2,vp 0 0),(3,vp 1 0)],[(0,bx 33 [ci 0,ci 0,ci 0,ci 0]),(1,bx 33 (qO x12))]⟩
theorem qKz (E:Env 0) (v2:(List qC)):∀(n:Nat) (x4:Int) (x5:Rect) (res:Rect),UX v2 n x4 x5=some res->HL (kx E 55 0) (nd f37 116) (zL 0 qD8 res) n (OE v2 x4 x5):=by
 intro n
 induction n with
 |zero=>
  intro x4 x5 res hm;cases hm
 |succ n ih=>
  intro x4 x5 res hm;refine qT (s_va 2 [(11,vb (decide (x4<(v2.length:Int))))] ?_);refine q_sq (q_cq hm (λhm=>?_) (λhm=>?_))
  ·refine q_sk (q_sq ?_);refine q_bk 1 ?_;obtain⟨g7,hm⟩:=qI hm;refine s_vu [qi 1 g7] 2 [11] [(4,vi x4),(5,vp 2 0)] [] [(2,bx 72 (qL (v2.getD x4.toNat du)))] ?_;obtain⟨v8,h9,hm⟩:=qB hm;refine s_vu [qc 2 [16] 3 (qLD ((v2.getD x4.toNat du).Sec) v8 h9)] 3 [5] [(6,vp 3 0)] [2] [(3,bx 33 (qO v8))] (q_jn (qLz v2 x4 v8) (λp=>qBG x4 (UX v2 n) v8 p=some res) ?_ ?_)
   ·rintro x11 hm;refine s_vu [] 4 [] [] [1] [(1,bx 33 [ci (imin x11.X.A v8.X.A),ci (imax x11.X.B v8.X.B),ci x11.Y.A,ci x11.Y.B])] (q_vu [] 4 [6] [] [1,3] [(1,bx 33 [ci (imin x11.X.A v8.X.A),ci (imax x11.X.B v8.X.B),ci (imin x11.Y.A v8.Y.A),ci (imax x11.Y.B v8.Y.B)])] ?_)
    exact q_vv [] 4 [10] [(10,vi (w64 (x4+1)))] (q_hl (OE v2 (w64 (x4+1)) (Rect.mk (Span.mk (imin x11.X.A v8.X.A) (imax x11.X.B v8.X.B)) (Span.mk (imin x11.Y.A v8.Y.A) (imax x11.Y.B v8.Y.B)))) (ih (w64 (x4+1)) (Rect.mk (Span.mk (imin x11.X.A v8.X.A) (imax x11.X.B v8.X.B)) (Span.mk (imin x11.Y.A v8.Y.A) (imax x11.Y.B v8.Y.B))) _ hm))
   ·refine s_vv [] 4 [4] [(19,vb (x4==0))] (q_cq hm (λhm=>?_) (λhm=>?_))
    ·exact q_vu [] 4 [19] [] [1] [(1,bx 33 (qO v8))] (q_J (v8) hm)
    ·exact q_sk (q_J (x5) hm)
  ·refine q_ex 0 ?_;obtain rfl:=oi hm;exact q_l0
theorem qP3 (a1:List qC) (r:Rect) (hm:qFl a1=some r):CtX Tryz.prog globs 37 0 0 [.one (tl qL du a1)] [] (qRe r) (qRs r):=by
 unfold qFl at hm;refine q_E f37 55 λE=>?_;refine s_vn [] 0 ⟨[(0,vc (tl qL du a1)),(2,vp 0 0)],[(0,bx 33 [ci 0,ci 0,ci 0,ci 0])]⟩ (s_vu [] 1 [] [(3,vp 1 0)] [] [(1,bx 33 [ci 0,ci 0,ci 0,ci 0])] ?_);refine q_sq ?_;obtain⟨v2,h3,hm⟩:=qB hm;refine s_vv [qc 1 [7] 2 (EF a1 v2 h3)] 2 [0] [(8,vc (tl qL du v2)),(9,vi (v2.length:Int)),(10,vi 0)] ?_;obtain⟨o13,h14,hm⟩:=qB hm;refine zF (nd f37 116) 0 (by kernel_rfl) FUEL qD8 o13 (q_hl (OE v2 0 (Rect.mk (Span.mk 0 0) (Span.mk 0 0))) (qKz E v2 FUEL 0 (Rect.mk (Span.mk 0 0) (Span.mk 0 0)) o13 h14)) (s_vu [] 2 [3] [] [0,1] [(0,bx 33 (qO o13))] ?_)
 obtain rfl:=oi hm;exact q_rt q_rm
def qJS (r:Rect):V:=va (qO r)
def qBJ (r:Rect):List (Nat×(Nat×O)):=[]
theorem qWt (r:Rect):jS (qBJ r):=by
 intro i k o h;unfold qBJ at h;cases h
theorem qUy (a1:List qC) (r:Rect) (hm:qBL a1=some r):CtX Tryz.prog globs 16 0 0 [.one (tl qL du a1)] [] (qJS r) (qBJ r):=by
 unfold qBL at hm;refine q_E f16 5 λE=>?_;refine s_vn [] 0 ⟨[(0,vc (tl qL du a1)),(2,vp 0 0)],[(0,bx 33 [ci 0,ci 0,ci 0,ci 0])]⟩ ?_;obtain⟨v2,h3,hm⟩:=qB hm;refine s_vu [qc 1 [3] 1 (qP3 a1 v2 h3)] 1 [0] [] [0] [(0,bx 33 (qO v2))] ?_;obtain rfl:=oi hm;exact q_rt q_rm
def qHf (r:Int):V:=vi r
def qHj (r:Int):List (Nat×(Nat×O)):=[]
def qAf (a1:List Node) (x3:Int):St:=
 ⟨[(0,vc (tl qE du a1)),(4,vi x3),(6,vc (tl qE du a1)),(7,vi (a1.length:Int)),(8,vi x3)],[]⟩
def qRR (a1:List Node) (x3:Int) (x9:Int):St:=
 (qAf a1 x3).up [] [(3,vi x9)] [] []
def qQR (a1:List Node) (x2:Int) (x3:Int) (x7:Bool):St:=
 (qAf a1 x3).up [] [(3,vi (w64 (x2-1))),(22,vb x7)] [] []
def qCu (a1:List Node) (x2:Int) (x3:Int):St:=
 (qAf a1 x3).up [4] [(3,vi x2)] [] []
def qIj (a1:List Node):St:=
 ⟨[(0,vc (tl qE du a1))],[]⟩
theorem qPx (E:Env 0) (a1:List Node):∀(n:Nat) (x2:Int) (x3:Int) (res:Int⊕Unit),DM a1 n x2 x3=some res->HL (kx E 32 0) (nd f106 116) (wN 0 (λo=>qIj a1) (λv st=>RetQ Tryz.prog f106 (qHf v) (qHj v) .ret st) res) n (qCu a1 x2 x3):=by
 intro n
 induction n with
 |zero=>
  intro x2 x3 res hm;cases hm
 |succ n ih=>
  intro x2 x3 res hm;refine qT (s_va 0 [(9,vb (decide (x3<(a1.length:Int))))] ?_);refine q_sq (q_cq hm (λhm=>?_) (λhm=>?_))
  ·refine q_sk (q_sq ?_);refine q_bk 1 ?_;obtain⟨g5,hm⟩:=qI hm;refine s_vu [qi 1 g5] 0 [9] [(4,vi x3),(5,vp 0 0)] [] [(0,bx 65 (qE (a1.getD x3.toNat du)))] (s_vv [] 1 [3] [(3,vi (w64 (x2-1)))] ?_);refine q_jn (qRR a1 x3) (λp=>qEN x3 (DM a1 n) p=some res) ?_ ?_
   ·rintro x9 hm;refine s_va 1 [(26,vb (x9==0))] (q_cq hm (λhm=>?_) (λhm=>?_))
    ·refine s_vn [] 1 ⟨[(2,vi (w64 (x3+1)))],[]⟩ ?_;obtain rfl:=oi hm;refine q_rt (zG (w64 (x3+1)) ?_);exact q_rm
    ·refine q_sk (q_vv [] 1 [4,8,26] [(8,vi (w64 (x3+1)))] ?_);exact q_hl (qCu a1 x9 (w64 (x3+1))) (ih x9 (w64 (x3+1)) _ hm)
   ·refine q_jn (qQR a1 x2 x3) (λp=>qFn x2 x3 (DM a1 n) p=some res) ?_ ?_
    ·rintro x7 hm;refine q_cq hm (λhm=>?_) (λhm=>?_)
     ·exact q_vv [] 1 [3,22] [(3,vi (w64 ((w64 (x2-1))+2)))] (q_J (w64 ((w64 (x2-1))+2)) hm)
     ·exact q_sk (q_J (w64 (x2-1)) hm)
    ·rcases bif_c hm with⟨b6,hm⟩|⟨b6,hm⟩
     ·exact q_vu [qf 3 b6] 1 [5] [(22,vb true)] [0] [] (q_J (true) hm)
     ·exact q_vu [qf 3 b6] 1 [5] [(22,vb (((a1.getD x3.toNat du).Kind)==3))] [0] [] (q_J (((a1.getD x3.toNat du).Kind)==3) hm)
  ·refine q_ex 0 ?_;obtain rfl:=oi hm;exact q_l1 ()
theorem qVU (a1:List Node) (r:Int) (hm:qJR a1=some r):CtX Tryz.prog globs 106 0 0 [.one (tl qE du a1)] [] (qHf r) (qHj r):=by
 unfold qJR at hm;refine q_E f106 32 λE=>?_;refine s_vn [] 0 ⟨[(0,vc (tl qE du a1))],[]⟩ (s_va 0 [(3,vi 1)] ?_);refine q_sq (s_va 0 [(6,vc (tl qE du a1)),(7,vi (a1.length:Int)),(8,vi 0)] ?_);obtain⟨u13,h12,hm⟩:=qB hm;refine zT (nd f106 116) 0 (by kernel_rfl) FUEL (λo=>qIj a1) (λv st=>RetQ Tryz.prog f106 (qHf v) (qHj v) .ret st) u13 (q_hl (qCu a1 1 0) (qPx E a1 FUEL 1 0 u13 h12)) ?_ ?_
 ·rintro v14 rfl st hr;obtain rfl:=oi hm;exact hr
 ·rintro o11 rfl;replace hm:_=some r:=hm;refine s_vn [] 0 ⟨[(2,vi (a1.length:Int))],[]⟩ ?_;obtain rfl:=oi hm;exact q_rt q_rm
open Go.Proofs Go.Proofs.Tryz
def PL (r:Bool):V:=vb r
def QK (r:Bool):List (Nat×(Nat×O)):=[]
theorem qIZ (r:Bool):jS (QK r):=by
 intro i k o h;unfold QK at h;cases h
def TK (a1:List Node) (a2:List Node) (x4:Int):St:=
 ⟨[(0,vc (tl qE du a1)),(1,vc (tl qE du a2)),(12,vi (a1.length:Int)),(13,vi x4)],[]⟩
def AX :St:=
 ⟨[],[]⟩
theorem qE9 (E:Env 0) (a1:List Node) (a2:List Node):∀(n:Nat) (x4:Int) (res:Bool⊕Unit),DS a1 a2 n x4=some res->HL (kx E 26 0) (nd f107 116) (wN 0 (λo=>AX) (λv st=>RetQ Tryz.prog f107 (PL v) (QK v) .ret st) res) n (TK a1 a2 x4):=by
 intro n
 induction n with
 |zero=>
  intro x4 res hm;cases hm
 |succ n ih=>
  intro x4 res hm;refine qT (s_va 0 [(14,vb (decide (x4<(a1.length:Int))))] ?_);refine q_sq (q_cq hm (λhm=>?_) (λhm=>?_))
  ·refine q_sk (q_sq ?_);refine q_bk 1 (s_vv [] 0 [14] [(5,vi x4)] ?_);obtain⟨g6,hm⟩:=qI hm;obtain⟨g7,hm⟩:=qI hm;refine s_du [qi 2 g6,qi 6 g7] [0,0,3,7,0,0,48,112,255] 0 [5] [(24,vb (!((((a1.getD x4.toNat du).Kind)==((a2.getD x4.toNat du).Kind))&&((((a1.getD x4.toNat du).At)==((a2.getD x4.toNat du).At))&&true))))] [] [] (q_cq hm (λhm=>?_) (λhm=>?_))
   ·refine s_vn [] 0 ⟨[(4,vb false)],[]⟩ ?_;obtain rfl:=oi hm;refine q_rt (zG false ?_);exact q_rm
   ·refine q_sk (q_vv [] 0 [13,24] [(13,vi (w64 (x4+1)))] ?_);exact q_hl (TK a1 a2 (w64 (x4+1))) (ih (w64 (x4+1)) _ hm)
  ·refine q_ex 0 ?_;obtain rfl:=oi hm;exact q_l1 ()
theorem qId (a1:List Node) (a2:List Node) (r:Bool) (hm:MS a1 a2=some r):CtX Tryz.prog globs 107 0 0 [.one (tl qE du a1),.one (tl qE du a2)] [] (PL r) (QK r):=by
 unfold MS at hm;refine q_E f107 26 λE=>?_;refine s_vn [] 0 ⟨[(0,vc (tl qE du a1)),(1,vc (tl qE du a2))],[]⟩ (q_sq ?_);refine s_va 0 [(10,vb ((a1.length:Int) !=(a2.length:Int)))] (q_cq hm (λhm=>?_) (λhm=>?_))
 ·refine s_vn [] 0 ⟨[(4,vb false)],[]⟩ ?_;obtain rfl:=oi hm;exact q_rt q_rm
 ·refine q_sk (q_sq ?_);refine s_vv [] 0 [10] [(12,vi (a1.length:Int)),(13,vi 0)] ?_;obtain⟨u11,h10,hm⟩:=qB hm;refine zT (nd f107 116) 0 (by kernel_rfl) FUEL (λo=>AX) (λv st=>RetQ Tryz.prog f107 (PL v) (QK v) .ret st) u11 (q_hl (TK a1 a2 0) (qE9 E a1 a2 FUEL 0 u11 h10)) ?_ ?_
  ·rintro v12 rfl st hr;obtain rfl:=oi hm;exact hr
  ·rintro o9 rfl;replace hm:_=some r:=hm;refine s_vn [] 0 ⟨[(4,vb true)],[]⟩ ?_;obtain rfl:=oi hm;exact q_rt q_rm
def qZq (r:(List Span)×(List (List Node))×Bool):V:= .tup [.one (.own 0 0 2 r.1.length),.one (.own 1 0 1 r.2.1.length),.one (cb r.2.2)]
def qZt (r:(List Span)×(List (List Node))×Bool):List (Nat×(Nat×O)):=[(0,ro 0 31 2 r.1.length (rf qG r.1)),(1,ro 0 44 1 r.2.1.length (rf (qM qE) r.2.1))]
def JH (a1:Rect) (a2:Int) (a3:Int) (a4:List Node) (x7:Span):St:=
 ⟨[(1,vi a2),(2,vi a3),(3,vc (tl qE du a4)),(4,vp 0 0),(11,vp 1 0)],[(0,bx 33 (qO a1)),(1,bx 31 (qG x7))]⟩
def qJe (a1:Rect) (a2:Int) (a3:Int) (a4:List Node) (x7:Span) (l11:List Node) (v18:Int) (l27:List Span) (l27n:Nat) (l28:List (List Node)) (l28n:Nat) (x29:Int):St:=
 (JH a1 a2 a3 a4 x7).up [] [(12,vo 2 0 2 l27n),(13,vo 3 0 1 l28n),(14,vi x29),(15,vc (tl qE du (l11.drop ((1:Int).toNat)))),(17,vi v18)] [] [(2,ro 0 31 2 l27n (rf qG l27)),(3,ro 0 44 1 l28n (rf (qM qE) l28))]
def qTW (a1:Rect) (a2:Int) (a3:Int) (a4:List Node) (x7:Span) (l8:List Span) (l9:List (List Node)) (x10:Int) (l11:List Node) (v18:Int) (x22:Bool):St:=
 (JH a1 a2 a3 a4 x7).up [] [(12,vo 2 0 2 l8.length),(13,vo 3 0 1 l9.length),(14,vi x10),(15,vc (tl qE du (l11.drop ((1:Int).toNat)))),(16,vp 4 0),(17,vi v18),(58,vb x22)] [] [(2,ro 0 31 2 l8.length (rf qG l8)),(3,ro 0 44 1 l9.length (rf (qM qE) l9)),(4,bx 65 (qE (l11.getD (0:Int).toNat du)))]
def qUg (a1:Rect) (a2:Int) (a3:Int) (a4:List Node) (x7:Span) (l8:List Span) (l9:List (List Node)) (x10:Int) (l11:List Node) (x14:Bool):St:=
 (JH a1 a2 a3 a4 x7).up [] [(12,vo 2 0 2 l8.length),(13,vo 3 0 1 l9.length),(14,vi x10),(15,vc (tl qE du l11)),(42,vb x14)] [] [(2,ro 0 31 2 l8.length (rf qG l8)),(3,ro 0 44 1 l9.length (rf (qM qE) l9))]
def qDP (a1:Rect) (a2:Int) (a3:Int) (a4:List Node) (x7:Span) (l8:List Span) (l8n:Nat) (l9:List (List Node)) (l9n:Nat) (x10:Int) (l11:List Node):St:=
 (JH a1 a2 a3 a4 x7).up [] [(12,vo 2 0 2 l8n),(13,vo 3 0 1 l9n),(14,vi x10),(15,vc (tl qE du l11))] [] [(2,ro 0 31 2 l8n (rf qG l8)),(3,ro 0 44 1 l9n (rf (qM qE) l9))]
def qJk (a1:Rect) (a2:Int) (a3:Int) (a4:List Node) (x7:Span) (l31:List Span) (l32:List (List Node)) (x33:Int) (l34:List Node):St:=
 (JH a1 a2 a3 a4 x7).up [] [(12,vo 2 0 2 l31.length),(13,vo 3 0 1 l32.length),(14,vi x33),(15,vc (tl qE du l34))] [] [(2,ro 0 31 2 l31.length (rf qG l31)),(3,ro 0 44 1 l32.length (rf (qM qE) l32))]
def qUo (l43:List Span) (l44:List (List Node)) (x50:Bool):St:=
 ⟨[(12,vo 2 0 2 l43.length),(13,vo 3 0 1 l44.length),(123,vb x50)],[(2,ro 0 31 2 l43.length (rf qG l43)),(3,ro 0 44 1 l44.length (rf (qM qE) l44))]⟩
def qJa (a1:Rect) (a2:Int) (a3:Int) (a4:List Node) (l43:List Span) (l43n:Nat) (l44:List (List Node)) (l44n:Nat):St:=
 ⟨[(1,vi a2),(2,vi a3),(3,vc (tl qE du a4)),(4,vp 0 0),(12,vo 2 0 2 l43n),(13,vo 3 0 1 l44n)],[(0,bx 33 (qO a1)),(2,ro 0 31 2 l43n (rf qG l43)),(3,ro 0 44 1 l44n (rf (qM qE) l44))]⟩
def qUd (a1:Rect) (a2:Int) (a3:Int) (a4:List Node) (x7:Span) (o35:(List Span)×(List (List Node))×Int×(List Node)) (x39:Bool):St:=
 (JH a1 a2 a3 a4 x7).up [] [(12,vo 2 0 2 o35.1.length),(13,vo 3 0 1 o35.2.1.length),(14,vi o35.2.2.1),(15,vc (tl qE du o35.2.2.2)),(95,vb x39)] [] [(2,ro 0 31 2 o35.1.length (rf qG o35.1)),(3,ro 0 44 1 o35.2.1.length (rf (qM qE) o35.2.1))]
def qT1 (a1:Rect) (a2:Int) (a3:Int) (a4:List Node) (x7:Span):St:=
 (JH a1 a2 a3 a4 x7).up [] [] [] []
theorem qRH (E:Env 0) (a1:Rect) (a2:Int) (a3:Int) (a4:List Node) (x7:Span):∀(n:Nat) (l8:List Span) (l8n:Nat) (l9:List (List Node)) (l9n:Nat) (x10:Int) (l11:List Node) (res:(List Span)×(List (List Node))×Int×(List Node)),l8.length=l8n->l9.length=l9n->GF a2 a3 x7 n l8 l9 x10 l11=some res->HL (kx E 126 0) (nd f52 4088) (zL 0 (λo=>qJk a1 a2 a3 a4 x7 o.1 o.2.1 o.2.2.1 o.2.2.2) res) n (qDP a1 a2 a3 a4 x7 l8 l8n l9 l9n x10 l11):=by
 intro n
 induction n with
 |zero=>
  intro l8 l8n l9 l9n x10 l11 res hl0 hl1 hm;cases hm
 |succ n ih=>
  intro l8 l8n l9 l9n x10 l11 res hl0 hl1 hm;subst hl0;subst hl1;refine qT (q_sq ?_);refine q_jn (qUg a1 a2 a3 a4 x7 l8 l9 x10 l11) (λp=>qHg a3 x7 l8 l9 x10 l11 (GF a2 a3 x7 n) p=some res) ?_ ?_
  ·rintro x14 hm;refine q_cq hm (λhm=>?_) (λhm=>?_)
   ·refine q_sk (q_bk 1 ?_);obtain⟨g16,hm⟩:=qI hm;refine s_vu [qi 1 g16] 4 [42] [(16,vp 4 0)] [] [(4,bx 65 (qE (l11.getD (0:Int).toNat du)))] ?_;obtain⟨g17,hm⟩:=qI hm;refine s_vv [qd 1 (drw ((l11.drop ((1:Int).toNat)).length) 0 (rf qE (l11.drop ((1:Int).toNat)))) (slPlo qE du l11 1 (And.intro (ZY g17).1 (ZY g17).2.1))] 5 [15] [(15,vc (tl qE du (l11.drop ((1:Int).toNat))))] ?_;obtain⟨v18,h19,hm⟩:=qB hm
    refine s_vv [qc 1 [48] 5 (qVU (l11.drop ((1:Int).toNat)) v18 h19)] 5 [] [(17,vi v18)] (q_jn (ι:=(List Span)×Nat×(List (List Node))×Nat×Int) (λp=>qJe a1 a2 a3 a4 x7 l11 v18 p.1 p.2.1 p.2.2.1 p.2.2.2.1 p.2.2.2.2) (λp=>p.1.length=p.2.1/\p.2.2.1.length=p.2.2.2.1/\qHa l11 (GF a2 a3 x7 n) v18 p.1 p.2.2.1 p.2.2.2.2=some res) ?_ ?_)
    ·rintro⟨l27,l27n,l28,l28n,x29⟩ ⟨el27,el28,hm⟩;replace el27:l27.length=l27n:=el27;subst el27;replace el28:l28.length=l28n:=el28;subst el28;show H _ (qJe a1 a2 a3 a4 x7 l11 v18 l27 l27.length l28 l28.length x29) _ _;obtain⟨g30,hm⟩:=qI hm
     exact q_vv [qd 2 (drw (((l11.drop ((1:Int).toNat)).drop v18.toNat).length) 0 (rf qE ((l11.drop ((1:Int).toNat)).drop v18.toNat))) (slPlo qE du (l11.drop ((1:Int).toNat)) v18 (And.intro (ZY g30).1 (ZY g30).2.1))] 7 [15,17] [(15,vc (tl qE du ((l11.drop ((1:Int).toNat)).drop v18.toNat)))] (q_hl (qDP a1 a2 a3 a4 x7 l27 l27.length l28 l28.length x29 ((l11.drop ((1:Int).toNat)).drop v18.toNat)) (ih l27 l27.length l28 l28.length x29 ((l11.drop ((1:Int).toNat)).drop v18.toNat) _ rfl rfl hm))
    ·refine q_jn (qTW a1 a2 a3 a4 x7 l8 l9 x10 l11 v18) (λp=>qHc a3 x7 l8 l9 x10 l11 (GF a2 a3 x7 n) v18 p=some res) ?_ ?_
     ·rintro x22 hm;refine q_cq hm (λhm=>?_) (λhm=>?_)
      ·exact q_vu [] 5 [14,16,58] [(14,vi (w64 (((l11.getD (0:Int).toNat du).At)+a3)))] [4] [] (q_J (l8,l8.length,l9,l9.length,w64 (((l11.getD (0:Int).toNat du).At)+a3)) ⟨rfl,rfl,hm⟩)
      ·obtain⟨g24,hm⟩:=qI hm;refine s_vu [qd 5 (drw 5 0 (rf qG [(Span.mk x10 ((l11.getD (0:Int).toNat du).At))])) (litP qG du 2 (λ_=>rfl) ([(Span.mk x10 ((l11.getD (0:Int).toNat du).At))]:List Span) 1 rfl),qd 6 (drw 2 1 (rf qG (l8++[(Span.mk x10 ((l11.getD (0:Int).toNat du).At))]))) (apP qG du l8 ([(Span.mk x10 ((l11.getD (0:Int).toNat du).At))]:List Span) l8.length 1 2 16 (1<=1) (ki _) rfl rfl (λ_=>rfl) (zI g24))] 5 [12,14,58] [(12,vo 2 1 2 (l8.length+1))] [2] [(2,ro 1 31 2 (l8.length+1) (rf qG (l8++[(Span.mk x10 ((l11.getD (0:Int).toNat du).At))])))] ?_;obtain⟨g25,hm⟩:=qI hm
       obtain⟨g26,hm⟩:=qI hm
       refine s_vu [qd 3 (drw (((l11.drop ((1:Int).toNat)).take v18.toNat).length) 0 (rf qE ((l11.drop ((1:Int).toNat)).take v18.toNat))) (slPhi qE du (l11.drop ((1:Int).toNat)) v18 (And.intro (ZY g25).2.1 (ZY g25).2.2)),qd 4 (drw 6 0 (rf (qM qE) [((l11.drop ((1:Int).toNat)).take v18.toNat)])) (litP (qM qE) du 1 (λ_=>rfl) ([((l11.drop ((1:Int).toNat)).take v18.toNat)]:List (List Node)) 1 rfl),qd 5 (drw 3 1 (rf (qM qE) (l9++[((l11.drop ((1:Int).toNat)).take v18.toNat)]))) (apP (qM qE) du l9 ([((l11.drop ((1:Int).toNat)).take v18.toNat)]:List (List Node)) l9.length 1 1 24 (1<=1) (ki _) rfl rfl (λ_=>rfl) (zI g26))] 6 [13] [(13,vo 3 1 1 (l9.length+1))] [3] [(3,ro 1 44 1 (l9.length+1) (rf (qM qE) (l9++[((l11.drop ((1:Int).toNat)).take v18.toNat)])))] ?_
       exact q_vu [] 7 [16] [(14,vi (imin (w64 (((l11.getD (0:Int).toNat du).At)+a3)) x7.B))] [4] [] (q_J ((l8++[(Span.mk x10 ((l11.getD (0:Int).toNat du).At))]),(l8.length+1),(l9++[((l11.drop ((1:Int).toNat)).take v18.toNat)]),(l9.length+1),imin (w64 (((l11.getD (0:Int).toNat du).At)+a3)) x7.B) ⟨(zE rfl rfl),(zE rfl rfl),hm⟩)
     ·rcases bif_c hm with⟨b20,hm⟩|⟨b20,hm⟩
      ·obtain⟨g21,hm⟩:=qI hm;exact q_vv [qf 2 b20,qi 4 g21] 5 [] [(58,vb ((((l11.drop ((1:Int).toNat)).getD (0:Int).toNat du).Kind)==0))] (q_J ((((l11.drop ((1:Int).toNat)).getD (0:Int).toNat du).Kind)==0) hm)
      ·exact q_vv [qf 2 b20] 5 [] [(58,vb false)] (q_J (false) hm)
   ·refine q_ex 0 ?_;obtain rfl:=oi hm;exact q_l0
  ·rcases bif_c hm with⟨b12,hm⟩|⟨b12,hm⟩
   ·obtain⟨g13,hm⟩:=qI hm;exact q_vv [qf 3 b12,qi 5 g13] 4 [] [(42,vb (((l11.getD (0:Int).toNat du).Kind)==a2))] (q_J (((l11.getD (0:Int).toNat du).Kind)==a2) hm)
   ·exact q_vv [qf 3 b12] 4 [] [(42,vb false)] (q_J (false) hm)
theorem qMu (a1:Rect) (a2:Int) (a3:Int) (a4:List Node) (r:(List Span)×(List (List Node))×Bool) (hm:qI6 a1 a2 a3 a4=some r):CtX Tryz.prog globs 52 0 0 [.agg (qO a1),.one (ci a2),.one (ci a3),.one (tl qE du a4)] [] (qZq r) (qZt r):=by
 unfold qI6 at hm;refine q_E f52 126 λE=>?_;refine s_vn [] 0 ⟨[(1,vi a2),(2,vi a3),(3,vc (tl qE du a4)),(4,vp 0 0)],[(0,bx 33 (qO a1))]⟩ (q_sq ?_);refine s_va 1 [(22,vb (decide ((a4.length:Int)>127)))] (q_cq hm (λhm=>?_) (λhm=>?_))
 ·refine s_vn [] 1 ⟨[(8,vc (.emp)),(9,vc (.emp)),(10,vb false)],[]⟩ (q_fo 8 1 31 2 qG ?_);refine q_fo 9 2 44 1 (qM qE) (q_fl 8 1 31 2 qG ?_);refine q_fl 9 2 44 1 (qM qE) ?_;obtain rfl:=oi hm;refine q_sw 1 0 (q_sw 2 1 ?_);exact q_rt q_rm
 ·refine q_sk (s_vu [] 1 [22] [(11,vp 1 0)] [] [(1,bx 31 (qG a1.X))] ?_);refine q_jn (qT1 a1 a2 a3 a4) (λp=>qG7 a1 a2 a3 a4 p=some r) ?_ ?_
  ·rintro x7 hm;refine s_va 2 [(12,vc (.emp))] (s_va 2 [(13,vc (.emp))] ?_);refine s_va 2 [(14,vi x7.A)] (s_va 2 [(15,vc (tl qE du a4))] ?_);refine q_sq (q_fo 12 2 31 2 qG ?_);refine q_fo 13 3 44 1 (qM qE) ?_;obtain⟨o35,h36,hm⟩:=qB hm
   refine zF (nd f52 4088) 0 (by kernel_rfl) FUEL (λo=>qJk a1 a2 a3 a4 x7 o.1 o.2.1 o.2.2.1 o.2.2.2) o35 (q_hl (qDP a1 a2 a3 a4 x7 ([]:List Span) 0 ([]:List (List Node)) 0 x7.A a4) (qRH E a1 a2 a3 a4 x7 FUEL ([]:List Span) 0 ([]:List (List Node)) 0 x7.A a4 o35 rfl rfl h36)) (q_jn (ι:=(List Span)×Nat×(List (List Node))×Nat) (λp=>qJa a1 a2 a3 a4 p.1 p.2.1 p.2.2.1 p.2.2.2) (λp=>p.1.length=p.2.1/\p.2.2.1.length=p.2.2.2/\qGZ a1 a2 a3 a4 p.1 p.2.2.1=some r) ?_ ?_)
   ·rintro⟨l43,l43n,l44,l44n⟩ ⟨el43,el44,hm⟩;replace el43:l43.length=l43n:=el43;subst el43;replace el44:l44.length=l44n:=el44;subst el44;show H _ (qJa a1 a2 a3 a4 l43 l43.length l44 l44.length) _ _;obtain⟨v45,h46,hm⟩:=qB hm
    refine s_vu [qd 5 (dex (cen [] [] 6 0 (TR v45) (JR v45) [108,109,110,111,112] [2,3])) (wU (K:=(kx E 126 0)) (b:=false) ⟨[(108,va (qO a1)),(109,vi a2),(110,vi a3),(111,vo 2 0 2 l43.length),(112,vo 3 0 1 l44.length)],[(2,ro 0 31 2 l43.length (rf qG l43)),(3,ro 0 44 1 l44.length (rf (qM qE) l44))]⟩ (opAt (rg f52 4094) 5) [] [] 6 (o1 (And.intro (ki l43.length) (ki l44.length))) rfl (qCz a1 a2 a3 l43 l44 v45 h46) (.inr ⟨(by kernel_rfl),qDE v45⟩) (by kernel_rfl))] 6 [1,2,4] [(18,vo 6 0 2 v45.1.length),(19,vi v45.2)] [0] [(6,ro 0 65 2 v45.1.length (rf qE v45.1))] (q_sq ?_)
    refine q_jn (qUo l43 l44) (λp=>qHd l43 l44 p=some r) ?_ ?_
    ·rintro x50 hm;refine q_cq hm (λhm=>?_) (λhm=>?_)
     ·refine s_vn [] 7 ⟨[(8,vc (.emp)),(9,vc (.emp)),(10,vb false)],[]⟩ (q_fo 8 7 31 2 qG ?_);refine q_fo 9 8 44 1 (qM qE) (q_fl 8 7 31 2 qG ?_);refine q_fl 9 8 44 1 (qM qE) ?_;obtain rfl:=oi hm;refine q_sw 7 0 (q_sw 8 1 ?_);exact q_rt q_rm
     ·refine q_sk (s_vv [] 7 [12,13,123] [(8,vo 2 0 2 l43.length),(9,vo 3 0 1 l44.length),(10,vb true)] ?_);obtain rfl:=oi hm;refine q_sw 2 0 (q_sw 3 1 ?_);exact q_rt q_rm
    ·rcases bif_c hm with⟨b47,hm⟩|⟨b47,hm⟩
     ·exact q_vu [qf 2 b47] 7 [3,18,19] [(123,vb true)] [6] [] (q_J (true) hm)
     ·obtain⟨v48,h49,hm⟩:=qB hm;exact q_vu [qf 2 b47,qd 5 (dex (cen [] [] 7 0 (PL v48) (QK v48) [118,119,120] [6])) (wU (K:=(kx E 126 0)) (b:=false) ⟨[(118,vb false),(119,vc (tl qE du a4)),(120,vo 6 0 2 v45.1.length)],[(6,ro 0 65 2 v45.1.length (rf qE v45.1))]⟩ (opAt (rg f52 16380) 5) [] [] 7 (o1 (ki v45.1.length)) rfl (qId a4 v45.1 v48 h49) (.inr ⟨(by kernel_rfl),qIZ v48⟩) (by kernel_rfl))] 7 [3,18,19] [(123,vb (!v48))] [6] [] (q_J (!v48) hm)
   ·refine q_jn (qUd a1 a2 a3 a4 x7 o35) (λp=>qG5 a1 a2 a3 a4 x7 o35 p=some r) ?_ ?_
    ·rintro x39 hm;refine q_cq hm (λhm=>?_) (λhm=>?_)
     ·obtain⟨g41,hm⟩:=qI hm;refine s_vu [qd 5 (drw 4 0 (rf qG [(Span.mk o35.2.2.1 x7.B)])) (litP qG du 2 (λ_=>rfl) ([(Span.mk o35.2.2.1 x7.B)]:List Span) 1 rfl),qd 6 (drw 2 1 (rf qG (o35.1++[(Span.mk o35.2.2.1 x7.B)]))) (apP qG du o35.1 ([(Span.mk o35.2.2.1 x7.B)]:List Span) o35.1.length 1 2 16 (1<=1) (ki _) rfl rfl (λ_=>rfl) (zI g41))] 4 [11,12,14,95] [(12,vo 2 1 2 (o35.1.length+1))] [1,2] [(2,ro 1 31 2 (o35.1.length+1) (rf qG (o35.1++[(Span.mk o35.2.2.1 x7.B)])))] ?_;obtain⟨g42,hm⟩:=qI hm
      exact q_vu [qd 2 (drw 5 0 (rf (qM qE) [o35.2.2.2])) (litP (qM qE) du 1 (λ_=>rfl) ([o35.2.2.2]:List (List Node)) 1 rfl),qd 3 (drw 3 1 (rf (qM qE) (o35.2.1++[o35.2.2.2]))) (apP (qM qE) du o35.2.1 ([o35.2.2.2]:List (List Node)) o35.2.1.length 1 1 24 (1<=1) (ki _) rfl rfl (λ_=>rfl) (zI g42))] 5 [13,15] [(13,vo 3 1 1 (o35.2.1.length+1))] [3] [(3,ro 1 44 1 (o35.2.1.length+1) (rf (qM qE) (o35.2.1++[o35.2.2.2])))] (q_J ((o35.1++[(Span.mk o35.2.2.1 x7.B)]),(o35.1.length+1),(o35.2.1++[o35.2.2.2]),(o35.2.1.length+1)) ⟨(zE rfl rfl),(zE rfl rfl),hm⟩)
     ·exact q_sk (q_J (o35.1,o35.1.length,o35.2.1,o35.2.1.length) ⟨rfl,rfl,hm⟩)
    ·rcases bif_c hm with⟨b37,hm⟩|⟨b37,hm⟩
     ·obtain⟨g38,hm⟩:=qI hm;exact q_vv [qf 3 b37,qi 5 g38] 4 [] [(95,vb (((o35.2.2.2.getD (0:Int).toNat du).Kind) !=0))] (q_J (((o35.2.2.2.getD (0:Int).toNat du).Kind) !=0) hm)
     ·exact q_vv [qf 3 b37] 4 [] [(95,vb false)] (q_J (false) hm)
  ·refine s_va 2 [(26,vb (a2==3))] (q_cq hm (λhm=>?_) (λhm=>?_))
   ·exact q_vu [] 2 [26] [] [1] [(1,bx 31 (qG a1.Y))] (q_J (a1.Y) hm)
   ·exact q_sk (q_J (a1.X) hm)
def qCC (r:Bool):V:=vb r
def qCg (r:Bool):List (Nat×(Nat×O)):=[]
def YG (a1:Rect) (a3:Saw) (v5:(List Span)×(List (List Node))×Bool) (v10:(List Int)×(List Int)) (x12:Int):St:=
 ⟨[(4,vp 0 0),(6,vp 1 0),(10,vo 3 0 1 v5.2.1.length),(12,vo 4 0 1 v10.1.length),(13,vo 5 0 1 v10.2.length),(14,vi x12),(15,vp 6 0),(47,vo 2 0 2 v5.1.length),(48,vi (v5.1.length:Int)),(49,vi x12)],[(0,bx 33 (qO a1)),(1,bx 38 (zW a3)),(2,ro 0 31 2 v5.1.length (rf qG v5.1)),(3,ro 0 44 1 v5.2.1.length (rf (qM qE) v5.2.1)),(4,ro 0 3 1 v10.1.length (rf qA v10.1)),(5,ro 0 3 1 v10.2.length (rf qA v10.2)),(6,bx 31 (qG (v5.1.getD x12.toNat du)))]⟩
def qLA (a1:Rect) (a3:Saw) (v5:(List Span)×(List (List Node))×Bool) (v10:(List Int)×(List Int)) (x12:Int) (x23:Int) (x31:Bool):St:=
 (YG a1 a3 v5 v10 x12).up [] [(16,vb x31),(82,vo 4 0 1 v10.1.length),(83,vi (v10.1.length:Int)),(84,vi x23)] [] []
def IM (a1:Rect) (a3:Saw) (v5:(List Span)×(List (List Node))×Bool) (v10:(List Int)×(List Int)) (x12:Int) (x22:Bool) (x23:Int):St:=
 (YG a1 a3 v5 v10 x12).up [] [(16,vb x22),(82,vo 4 0 1 v10.1.length),(83,vi (v10.1.length:Int)),(84,vi x23)] [] []
def qD0 (a1:Rect) (a3:Saw) (v5:(List Span)×(List (List Node))×Bool) (v10:(List Int)×(List Int)) (x12:Int) (x32:Bool):St:=
 (YG a1 a3 v5 v10 x12).up [14,15] [(16,vb x32)] [6] []
def qMj (a1:Rect) (a3:Saw) (v5:(List Span)×(List (List Node))×Bool) (v10:(List Int)×(List Int)) (x12:Int) (x20:Bool):St:=
 (YG a1 a3 v5 v10 x12).up [] [(81,vb x20)] [] []
def IY (a1:Rect) (a3:Saw) (v5:(List Span)×(List (List Node))×Bool) (v10:(List Int)×(List Int)) (x12:Int):St:=
 (YG a1 a3 v5 v10 x12).up [14,15] [] [6] []
def qDX :St:=
 ⟨[],[]⟩
def qL0 (a1:Rect) (a2:List Product) (a3:Saw) (v5:(List Span)×(List (List Node))×Bool) (x8:Bool):St:=
 ⟨[(1,vc (tl qH du a2)),(4,vp 0 0),(6,vp 1 0),(9,vo 2 0 2 v5.1.length),(10,vo 3 0 1 v5.2.1.length),(34,vb x8)],[(0,bx 33 (qO a1)),(1,bx 38 (zW a3)),(2,ro 0 31 2 v5.1.length (rf qG v5.1)),(3,ro 0 44 1 v5.2.1.length (rf (qM qE) v5.2.1))]⟩
theorem qKi (E:Env 0) (a1:Rect) (a3:Saw) (v5:(List Span)×(List (List Node))×Bool) (v10:(List Int)×(List Int)) (x12:Int):∀(n:Nat) (x22:Bool) (x23:Int) (res:Bool),XX v5 v10 x12 n x22 x23=some res->HL (kx E 117 0) (nd f54 1025652) (zL 2 (λo=>qD0 a1 a3 v5 v10 x12 o) res) n (IM a1 a3 v5 v10 x12 x22 x23):=by
 intro n
 induction n with
 |zero=>
  intro x22 x23 res hm;cases hm
 |succ n ih=>
  intro x22 x23 res hm;refine qT (s_va 7 [(85,vb (decide (x23<(v10.1.length:Int))))] ?_);refine q_sq (q_cq hm (λhm=>?_) (λhm=>?_))
  ·refine q_sk (q_jn (qLA a1 a3 v5 v10 x12 x23) (λp=>MA x23 (XX v5 v10 x12 n) p=some res) ?_ ?_)
   ·rintro x31 hm;exact q_vv [] 7 [84] [(84,vi (w64 (x23+1)))] (q_hl (IM a1 a3 v5 v10 x12 x31 (w64 (x23+1))) (ih x31 (w64 (x23+1)) _ hm))
   ·refine q_bk 3 ?_;obtain⟨g25,hm⟩:=qI hm;refine s_vv [qi 1 g25,qd 2 dN (qV (zC g25))] 7 [85] [(17,vi x23),(18,vi (v10.1.getD x23.toNat du))] ?_;rcases bif_c hm with⟨b26,hm⟩|⟨b26,hm⟩
    ·exact q_du [qf 1 b26] [0,1,3,3,11,3,35,123,255,511,1023,1023,4095,8191,1023,1023,50175,115711,246783,508927,1033215,2097151,4194303,8388607,16777215] 7 [16,17,18] [(16,vb true)] [] [] (q_J (true) hm)
    ·rcases bif_c hm with⟨b27,hm⟩|⟨b27,hm⟩
     ·obtain⟨g28,hm⟩:=qI hm;obtain⟨g29,hm⟩:=qI hm;obtain⟨g30,hm⟩:=qI hm;exact q_du [qf 1 b26,qf 9 b27,qi 12 g28,qd 13 dN (qV (zC g28)),qi 16 g29,qd 17 dN (qV (zC g29)),qi 18 g30] [0,1,3,3,11,3,35,123,255,511,1023,1023,4095,8191,1023,1023,50175,115711,246783,508927,1033215,2097151,4194303,8388607,16777215] 7 [16,17,18] [(16,vb ((v10.2.getD x23.toNat du)==(((v5.2.1.getD x12.toNat du).getD (0:Int).toNat du).At)))] [] [] (q_J ((v10.2.getD x23.toNat du)==(((v5.2.1.getD x12.toNat du).getD (0:Int).toNat du).At)) hm)
     ·exact q_du [qf 1 b26,qf 9 b27] [0,1,3,3,11,3,35,123,255,511,1023,1023,4095,8191,1023,1023,50175,115711,246783,508927,1033215,2097151,4194303,8388607,16777215] 7 [16,17,18] [(16,vb false)] [] [] (q_J (false) hm)
  ·refine q_ex 2 ?_;obtain rfl:=oi hm;exact q_l0
theorem qKZ (E:Env 0) (a1:Rect) (a3:Saw) (v5:(List Span)×(List (List Node))×Bool) (v10:(List Int)×(List Int)):∀(n:Nat) (x12:Int) (res:Bool⊕Unit),KJ a1 a3 v5 v10 n x12=some res->HL (kx E 117 0) (nd f54 500) (wN 0 (λo=>qDX) (λv st=>RetQ Tryz.prog f54 (qCC v) (qCg v) .ret st) res) n (IY a1 a3 v5 v10 x12):=by
 intro n
 induction n with
 |zero=>
  intro x12 res hm;cases hm
 |succ n ih=>
  intro x12 res hm;refine qT (s_va 6 [(50,vb (decide (x12<(v5.1.length:Int))))] ?_);refine q_sq (q_cq hm (λhm=>?_) (λhm=>?_))
  ·refine q_sk (q_sq ?_);refine q_bk 1 ?_;obtain⟨g14,hm⟩:=qI hm;refine s_vu [qi 1 g14,qd 2 dN (qV (zC g14))] 6 [50] [(14,vi x12),(15,vp 6 0)] [] [(6,bx 31 (qG (v5.1.getD x12.toNat du)))] (q_sq ?_);refine q_jn (qMj a1 a3 v5 v10 x12) (λp=>LV v5 v10 x12 (KJ a1 a3 v5 v10 n) p=some res) ?_ ?_
   ·rintro x20 hm;refine q_cq hm (λhm=>?_) (λhm=>?_)
    ·refine s_vn [] 7 ⟨[(8,vb false)],[]⟩ ?_;obtain rfl:=oi hm;refine q_rt (zG false ?_);exact q_rm
    ·refine q_sk (s_vv [] 7 [81] [(16,vb false)] ?_);refine q_sq (s_va 7 [(82,vo 4 0 1 v10.1.length),(83,vi (v10.1.length:Int)),(84,vi 0)] ?_);obtain⟨o33,h34,hm⟩:=qB hm;refine zF (nd f54 1025652) 2 (by kernel_rfl) FUEL (λo=>qD0 a1 a3 v5 v10 x12 o) o33 (q_hl (IM a1 a3 v5 v10 x12 false 0) (qKi E a1 a3 v5 v10 x12 FUEL false 0 o33 h34)) (s_vv [] 7 [16] [(115,vb (!o33))] ?_);refine q_cq hm (λhm=>?_) (λhm=>?_)
     ·refine s_vn [] 7 ⟨[(8,vb false)],[]⟩ ?_;obtain rfl:=oi hm;refine q_rt (zG false ?_);exact q_rm
     ·refine q_sk (q_vv [] 7 [49,115] [(49,vi (w64 (x12+1)))] ?_);exact q_hl (IY a1 a3 v5 v10 (w64 (x12+1))) (ih (w64 (x12+1)) _ hm)
   ·obtain⟨g15,hm⟩:=qI hm;rcases bif_c hm with⟨b16,hm⟩|⟨b16,hm⟩
    ·exact q_vv [qd 8 dN (AP g15),qf 10 b16] 7 [] [(81,vb true)] (q_J (true) hm)
    ·obtain⟨g17,hm⟩:=qI hm;rcases bif_c hm with⟨b18,hm⟩|⟨b18,hm⟩
     ·exact q_vv [qd 8 dN (AP g15),qf 10 b16,qi 13 g17,qd 14 dN (qV (zC g17)),qf 18 b18] 7 [] [(81,vb true)] (q_J (true) hm)
     ·obtain⟨g19,hm⟩:=qI hm;exact q_vv [qd 8 dN (AP g15),qf 10 b16,qi 13 g17,qd 14 dN (qV (zC g17)),qf 18 b18,qi 21 g17,qd 22 dN (qV (zC g17)),qi 23 g19] 7 [] [(81,vb ((((v5.2.1.getD x12.toNat du).getD (0:Int).toNat du).Kind) !=1))] (q_J ((((v5.2.1.getD x12.toNat du).getD (0:Int).toNat du).Kind) !=1) hm)
  ·refine q_ex 0 ?_;obtain rfl:=oi hm;exact q_l1 ()
theorem qPD (a1:Rect) (a2:List Product) (a3:Saw) (a4:List Node) (r:Bool) (hm:qFd a1 a2 a3 a4=some r):CtX Tryz.prog globs 54 0 0 [.agg (qO a1),.one (tl qH du a2),.agg (zW a3),.one (tl qE du a4)] [] (qCC r) (qCg r):=by
 unfold qFd at hm;refine q_E f54 117 λE=>?_;refine s_vn [] 0 ⟨[(1,vc (tl qH du a2)),(3,vc (tl qE du a4)),(4,vp 0 0),(6,vp 1 0)],[(0,bx 33 (qO a1)),(1,bx 38 (zW a3))]⟩ ?_;obtain⟨v5,h6,hm⟩:=qB hm;refine s_vu [qk 4 [20,22,23] 2 ⟨[(20,va (qO a1)),(22,vi a3.Kerf),(23,vc (tl qE du a4))],[]⟩ (qMu a1 2 a3.Kerf a4 v5 h6)] 2 [3] [(9,vo 2 0 2 v5.1.length),(10,vo 3 0 1 v5.2.1.length),(11,vb v5.2.2)] [] [(2,ro 0 31 2 v5.1.length (rf qG v5.1)),(3,ro 0 44 1 v5.2.1.length (rf (qM qE) v5.2.1))] (q_sq ?_);refine q_jn (qL0 a1 a2 a3 v5) (λp=>qBq a1 a2 a3 v5 p=some r) ?_ ?_
 ·rintro x8 hm;refine q_cq hm (λhm=>?_) (λhm=>?_)
  ·refine s_vn [] 4 ⟨[(8,vb false)],[]⟩ ?_;obtain rfl:=oi hm;exact q_rt q_rm
  ·refine q_sk ?_;obtain⟨v10,h11,hm⟩:=qB hm;refine s_vu [qc 8 [36,43] 4 (qDA a2 (w64 (a1.Y.B-a1.Y.A)) v10 h11)] 4 [1,34] [(12,vo 4 0 1 v10.1.length),(13,vo 5 0 1 v10.2.length)] [] [(4,ro 0 3 1 v10.1.length (rf qA v10.1)),(5,ro 0 3 1 v10.2.length (rf qA v10.2))] (q_sq ?_);refine s_vv [] 6 [9] [(47,vo 2 0 2 v5.1.length),(48,vi (v5.1.length:Int)),(49,vi 0)] ?_;obtain⟨u38,h37,hm⟩:=qB hm;refine zT (nd f54 500) 0 (by kernel_rfl) FUEL (λo=>qDX) (λv st=>RetQ Tryz.prog f54 (qCC v) (qCg v) .ret st) u38 (q_hl (IY a1 a3 v5 v10 0) (qKZ E a1 a3 v5 v10 FUEL 0 u38 h37)) ?_ ?_
   ·rintro v39 rfl st hr;obtain rfl:=oi hm;exact hr
   ·rintro o36 rfl;replace hm:_=some r:=hm;refine s_vn [] 6 ⟨[(8,vb true)],[]⟩ ?_;obtain rfl:=oi hm;exact q_rt q_rm
 ·rcases bif_c hm with⟨b7,hm⟩|⟨b7,hm⟩
  ·exact q_vv [qf 2 b7] 4 [11] [(34,vb true)] (q_J (true) hm)
  ·exact q_vv [qf 2 b7] 4 [11] [(34,vb ((v5.1.length:Int)==0))] (q_J ((v5.1.length:Int)==0) hm)
open Go.Proofs Go.Proofs.Tryz
def LH (r:Int):V:=vi r
def LN (r:Int):List (Nat×(Nat×O)):=[]
def GE (a1:List Int) (a2:Int) (x3:Int):St:=
 ⟨[(0,vc (tl qA du a1)),(1,vi a2),(7,vi (a1.length:Int)),(8,vi x3)],[]⟩
def OO :St:=
 ⟨[],[]⟩
theorem qFI (E:Env 0) (a1:List Int) (a2:Int):∀(n:Nat) (x3:Int) (res:Int⊕Unit),NB a1 a2 n x3=some res->HL (kx E 19 0) (nd f108 52) (wN 0 (λo=>OO) (λv st=>RetQ Tryz.prog f108 (LH v) (LN v) .ret st) res) n (GE a1 a2 x3):=by
 intro n
 induction n with
 |zero=>
  intro x3 res hm;cases hm
 |succ n ih=>
  intro x3 res hm;refine qT (s_va 0 [(9,vb (decide (x3<(a1.length:Int))))] ?_);refine q_sq (q_cq hm (λhm=>?_) (λhm=>?_))
  ·refine q_sk (q_sq ?_);refine q_bk 1 (s_vv [] 0 [9] [(5,vi x3)] ?_);obtain⟨g5,hm⟩:=qI hm;refine s_vv [qi 3 g5] 0 [] [(16,vb (a2==(a1.getD x3.toNat du)))] (q_cq hm (λhm=>?_) (λhm=>?_))
   ·refine s_vn [] 0 ⟨[(4,vi x3)],[]⟩ ?_;obtain rfl:=oi hm;refine q_rt (zG x3 ?_);exact q_rm
   ·refine q_sk (q_vv [] 0 [5,8,16] [(8,vi (w64 (x3+1)))] ?_);exact q_hl (GE a1 a2 (w64 (x3+1))) (ih (w64 (x3+1)) _ hm)
  ·refine q_ex 0 ?_;obtain rfl:=oi hm;exact q_l1 ()
theorem qIC (a1:List Int) (a2:Int) (r:Int) (hm:IQ a1 a2=some r):CtX Tryz.prog globs 108 0 0 [.one (tl qA du a1),.one (ci a2)] [] (LH r) (LN r):=by
 unfold IQ at hm;refine q_E f108 19 λE=>?_;refine s_vn [] 0 ⟨[(0,vc (tl qA du a1)),(1,vi a2)],[]⟩ (q_sq ?_);refine s_va 0 [(7,vi (a1.length:Int)),(8,vi 0)] ?_;obtain⟨u9,h8,hm⟩:=qB hm;refine zT (nd f108 52) 0 (by kernel_rfl) FUEL (λo=>OO) (λv st=>RetQ Tryz.prog f108 (LH v) (LN v) .ret st) u9 (q_hl (GE a1 a2 0) (qFI E a1 a2 FUEL 0 u9 h8)) ?_ ?_
 ·rintro v10 rfl st hr;obtain rfl:=oi hm;exact hr
 ·rintro o7 rfl;replace hm:_=some r:=hm;refine s_vn [] 0 ⟨[(4,vi (-1))],[]⟩ ?_;obtain rfl:=oi hm;exact q_rt q_rm
def OL (r:Bool):V:=vb r
def XB (r:Bool):List (Nat×(Nat×O)):=[]
theorem qHe (r:Bool):jS (XB r):=by
 intro i k o h;unfold XB at h;cases h
theorem qFJ (a1:List Int) (a2:Int) (r:Bool) (hm:NH a1 a2=some r):CtX Tryz.prog globs 53 0 0 [.one (tl qA du a1),.one (ci a2)] [] (OL r) (XB r):=by
 unfold NH at hm;refine q_E f53 9 λE=>?_;refine s_vn [] 0 ⟨[(0,vc (tl qA du a1)),(1,vi a2)],[]⟩ ?_;obtain⟨v3,h4,hm⟩:=qB hm;refine s_vn [qc 2 [5,6] 0 (qIC a1 a2 v3 h4)] 0 ⟨[(4,vb (decide (v3≥0)))],[]⟩ ?_;obtain rfl:=oi hm;exact q_rt q_rm
end Saw
end Go.SL

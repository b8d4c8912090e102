import Derived.Test.YtidlfgiogdjkaaaGreatDoorEBase
import Derived.Test.YtidlfgiogdjkaaaGreatDoorEFa8
import Derived.Test.YtidlfgiogdjkaaaGreatDoorEFa1
import Derived.Test.YtidlfgiogdjkaaaGreatDoorEFa6
import Derived.Test.YtidlfgiogdjkaaaGreatDoorEFa4
set_option linter.unusedVariables false
set_option linter.unusedSimpArgs false
namespace Go.SL
namespace Saw
open Go.Proofs
set_option maxHeartbeats 4000000
set_option maxRecDepth 100000
def qJS (r:Rect):V:=va (qE r)
def qJ4 (r:Rect):List (Nat×(Nat×O)):=[]
def qAk (v2:(List qA)) (x4:Int) (v8:Rect) (x11:Rect):St:=
 ⟨[(2,vp 0 0),(3,vp 1 0),(6,vp 3 0),(8,vc (tl qG default v2)),(9,vi ((v2.length:Nat):Int)),(10,vi x4)],[(0,bx 33 [ci 0,ci 0,ci 0,ci 0]),(1,bx 33 (qE x11)),(3,bx 33 (qE v8))]⟩
def FI (v2:(List qA)) (x4:Int) (x5:Rect):St:=
 ⟨[(2,vp 0 0),(3,vp 1 0),(8,vc (tl qG default v2)),(9,vi ((v2.length:Nat):Int)),(10,vi x4)],[(0,bx 33 [ci 0,ci 0,ci 0,ci 0]),(1,bx 33 (qE x5))]⟩
def qAu (x12:Rect):St:=
 ⟨[(2,vp 0 0),(3,vp 1 0)],[(0,bx 33 [ci 0,ci 0,ci 0,ci 0]),(1,bx 33 (qE x12))]⟩
theorem qFy (E:Env 0) (v2:(List qA)):∀(n:Nat) (x4:Int) (x5:Rect) (res:Rect),PH v2 n x4 x5=some res->HL (kx E 55 0) (nd Tryz.f37 116) (zS 0 (λo=>qAu o) res) n (FI v2 x4 x5):=by
 intro n
 induction n with
 |zero=>
  intro x4 x5 res hm;cases hm
 |succ n ih=>
  intro x4 x5 res hm;refine qM ?_;refine s_vu [] 2 [] [(11,vb (decide (x4<((v2.length:Nat):Int))))] [] [] ?_;refine q_sq ?_;refine q_cm hm (λb6 hm=>?_) (λb6 hm=>?_)
  ·refine q_sk ?_;refine q_sq ?_;refine q_bk 1 ?_;obtain⟨g7,hm⟩:=qI hm;refine s_vu [qd 1 (Dir.none) (inb_of g7)] 2 [11] [(4,vi x4),(5,vp 2 0)] [] [(2,bx 72 [ci ((v2.getD x4.toNat default).Len),ci (((v2.getD x4.toNat default).Sec).Low),tl e_Span default (((v2.getD x4.toNat default).Sec).Rows)])] ?_;obtain⟨v8,h9,hm⟩:=qB hm;refine s_vu [qc 2 [16] 3 (qGB ((v2.getD x4.toNat default).Sec) v8 h9)] 3 [5] [(6,vp 3 0)] [2] [(3,bx 33 (qE v8))] ?_;refine q_jn (ι:=Rect) (λp=>qAk v2 x4 v8 p) (λp=>EA x4 (PH v2 n) v8 p=some res) ?_ ?_
   ·rintro x11 hm;show H _ (qAk v2 x4 v8 x11) _ _;refine s_vu [] 4 [] [] [1] [(1,bx 33 [ci (imin x11.X.A v8.X.A),ci (imax x11.X.B v8.X.B),ci x11.Y.A,ci x11.Y.B])] ?_;refine q_vu [] 4 [6] [] [1,3] [(1,bx 33 [ci (imin x11.X.A v8.X.A),ci (imax x11.X.B v8.X.B),ci (imin x11.Y.A v8.Y.A),ci (imax x11.Y.B v8.Y.B)])] ?_;refine q_vu [] 4 [10] [(10,vi (w64 (x4+1)))] [] [] ?_
    exact q_hl (FI v2 (w64 (x4+1)) (Rect.mk (Span.mk (imin x11.X.A v8.X.A) (imax x11.X.B v8.X.B)) (Span.mk (imin x11.Y.A v8.Y.A) (imax x11.Y.B v8.Y.B)))) (ih (w64 (x4+1)) (Rect.mk (Span.mk (imin x11.X.A v8.X.A) (imax x11.X.B v8.X.B)) (Span.mk (imin x11.Y.A v8.Y.A) (imax x11.Y.B v8.Y.B))) _ hm)
   ·refine s_vu [] 4 [4] [(19,vb (x4==0))] [] [] ?_;refine q_cm hm (λb10 hm=>?_) (λb10 hm=>?_)
    ·refine q_vu [] 4 [19] [] [1] [(1,bx 33 (qE v8))] ?_;exact q_J (v8) hm
    ·refine q_sk ?_;exact q_J (x5) hm
  ·refine q_ex 0 ?_;obtain rfl:=oi hm;exact wO (by kernel_rfl) (by kernel_rfl)
theorem qIi (a1:List qA) (r:Rect) (hm:qA5 a1=some r):CtX Tryz.prog globs 37 0 0 [.one (tl qG default a1)] [] (qJS r) (qJ4 r):=by
 unfold qA5 at hm;refine q_E Tryz.f37 55 λE=>?_;refine s_vn [] 0 ⟨[(0,vc (tl qG default a1)),(2,vp 0 0)],[(0,bx 33 [ci 0,ci 0,ci 0,ci 0])]⟩ ?_;refine s_vu [] 1 [] [(3,vp 1 0)] [] [(1,bx 33 [ci 0,ci 0,ci 0,ci 0])] ?_;refine q_sq ?_;obtain⟨v2,h3,hm⟩:=qB hm;refine s_vu [qc 1 [7] 2 (NF a1 v2 h3)] 2 [0] [(8,vc (tl qG default v2)),(9,vi ((v2.length:Nat):Int)),(10,vi 0)] [] [] ?_;obtain⟨o13,h14,hm⟩:=qB hm;refine zL (nd Tryz.f37 116) 0 (by kernel_rfl) FUEL (λo=>qAu o) o13 (q_hl (FI v2 0 (Rect.mk (Span.mk 0 0) (Span.mk 0 0))) (qFy E v2 FUEL 0 (Rect.mk (Span.mk 0 0) (Span.mk 0 0)) o13 h14)) ?_
 refine s_vu [] 2 [3] [] [0,1] [(0,bx 33 (qE o13))] ?_;obtain rfl:=oi hm;refine q_rt ?_;exact q_rm
def qFx (r:Rect):V:=va (qE r)
def SM (r:Rect):List (Nat×(Nat×O)):=[]
theorem qM7 (r:Rect):jW (SM r):=by
 intro i k o h;unfold SM at h;cases h
theorem qLr (a1:List qA) (r:Rect) (hm:SV a1=some r):CtX Tryz.prog globs 16 0 0 [.one (tl qG default a1)] [] (qFx r) (SM r):=by
 unfold SV at hm;refine q_E Tryz.f16 5 λE=>?_;refine s_vn [] 0 ⟨[(0,vc (tl qG default a1)),(2,vp 0 0)],[(0,bx 33 [ci 0,ci 0,ci 0,ci 0])]⟩ ?_;obtain⟨v2,h3,hm⟩:=qB hm;refine s_vu [qc 1 [3] 1 (qIi a1 v2 h3)] 1 [0] [] [0] [(0,bx 33 (qE v2))] ?_;obtain rfl:=oi hm;refine q_rt ?_;exact q_rm
def qC2 (r:Int):V:=vi r
def qCS (r:Int):List (Nat×(Nat×O)):=[]
def qDo (a1:List Node) (x3:Int) (x9:Int):St:=
 ⟨[(0,vc (tl e_Node default a1)),(3,vi x9),(4,vi x3),(6,vc (tl e_Node default a1)),(7,vi ((a1.length:Nat):Int)),(8,vi x3)],[]⟩
def qDb (a1:List Node) (x2:Int) (x3:Int) (x7:Bool):St:=
 ⟨[(0,vc (tl e_Node default a1)),(3,vi (w64 (x2-1))),(4,vi x3),(6,vc (tl e_Node default a1)),(7,vi ((a1.length:Nat):Int)),(8,vi x3),(22,vb x7)],[]⟩
def EZ (a1:List Node) (x2:Int) (x3:Int):St:=
 ⟨[(0,vc (tl e_Node default a1)),(3,vi x2),(6,vc (tl e_Node default a1)),(7,vi ((a1.length:Nat):Int)),(8,vi x3)],[]⟩
def qDv (a1:List Node):St:=
 ⟨[(0,vc (tl e_Node default a1))],[]⟩
theorem qIf (E:Env 0) (a1:List Node):∀(n:Nat) (x2:Int) (x3:Int) (res:Int⊕Unit),jE a1 n x2 x3=some res->HL (kx E 32 0) (nd Tryz.f106 116) (wY 0 (λo=>qDv a1) (λv st=>RetQ Tryz.prog Tryz.f106 (qC2 v) (qCS v) .ret st) res) n (EZ a1 x2 x3):=by
 intro n
 induction n with
 |zero=>
  intro x2 x3 res hm;cases hm
 |succ n ih=>
  intro x2 x3 res hm;refine qM ?_;refine s_vu [] 0 [] [(9,vb (decide (x3<((a1.length:Nat):Int))))] [] [] ?_;refine q_sq ?_;refine q_cm hm (λb4 hm=>?_) (λb4 hm=>?_)
  ·refine q_sk ?_;refine q_sq ?_;refine q_bk 1 ?_;obtain⟨g5,hm⟩:=qI hm;refine s_vu [qd 1 (Dir.none) (inb_of g5)] 0 [9] [(4,vi x3),(5,vp 0 0)] [] [(0,bx 65 [ci ((a1.getD x3.toNat default).Kind),ci ((a1.getD x3.toNat default).At)])] ?_;refine s_vu [] 1 [3] [(3,vi (w64 (x2-1)))] [] [] ?_;refine q_jn (ι:=Int) (λp=>qDo a1 x3 p) (λp=>DX x3 (jE a1 n) p=some res) ?_ ?_
   ·rintro x9 hm;show H _ (qDo a1 x3 x9) _ _;refine s_vu [] 1 [] [(26,vb (x9==0))] [] [] ?_;refine q_cm hm (λb10 hm=>?_) (λb10 hm=>?_)
    ·refine s_vn [] 1 ⟨[(2,vi (w64 (x3+1)))],[]⟩ ?_;obtain rfl:=oi hm;refine q_rt ?_;refine zH (w64 (x3+1)) ?_;exact q_rm
    ·refine q_sk ?_;refine q_vu [] 1 [4,8,26] [(8,vi (w64 (x3+1)))] [] [] ?_;exact q_hl (EZ a1 x9 (w64 (x3+1))) (ih x9 (w64 (x3+1)) _ hm)
   ·refine q_jn (ι:=Bool) (λp=>qDb a1 x2 x3 p) (λp=>RR x2 x3 (jE a1 n) p=some res) ?_ ?_
    ·rintro x7 hm;show H _ (qDb a1 x2 x3 x7) _ _;refine q_cm hm (λb8 hm=>?_) (λb8 hm=>?_)
     ·refine q_vu [] 1 [3,22] [(3,vi (w64 ((w64 (x2-1))+2)))] [] [] ?_;exact q_J (w64 ((w64 (x2-1))+2)) hm
     ·refine q_sk ?_;exact q_J (w64 (x2-1)) hm
    ·rcases bif_c hm with⟨b6,hm⟩|⟨b6,hm⟩
     ·refine q_vu [qf 3 b6] 1 [5] [(22,vb true)] [0] [] ?_;exact q_J (true) hm
     ·refine q_vu [qf 3 b6] 1 [5] [(22,vb (((a1.getD x3.toNat default).Kind)==3))] [0] [] ?_;exact q_J (((a1.getD x3.toNat default).Kind)==3) hm
  ·refine q_ex 0 ?_;obtain rfl:=oi hm;exact jI () (by kernel_rfl) (by kernel_rfl)
theorem qNB (a1:List Node) (r:Int) (hm:CM a1=some r):CtX Tryz.prog globs 106 0 0 [.one (tl e_Node default a1)] [] (qC2 r) (qCS r):=by
 unfold CM at hm;refine q_E Tryz.f106 32 λE=>?_;refine s_vn [] 0 ⟨[(0,vc (tl e_Node default a1))],[]⟩ ?_;refine s_vu [] 0 [] [(3,vi 1)] [] [] ?_;refine q_sq ?_;refine s_vu [] 0 [] [(6,vc (tl e_Node default a1)),(7,vi ((a1.length:Nat):Int)),(8,vi 0)] [] [] ?_;obtain⟨u13,h12,hm⟩:=qB hm;refine zP (nd Tryz.f106 116) 0 (by kernel_rfl) FUEL (λo=>qDv a1) (λv st=>RetQ Tryz.prog Tryz.f106 (qC2 v) (qCS v) .ret st) u13 (q_hl (EZ a1 1 0) (qIf E a1 FUEL 1 0 u13 h12)) ?_ ?_
 ·rintro v14 rfl st hr;obtain rfl:=oi hm;exact hr
 ·rintro o11 rfl;replace hm:_=some r:=hm;refine s_vn [] 0 ⟨[(2,vi ((a1.length:Nat):Int))],[]⟩ ?_;obtain rfl:=oi hm;refine q_rt ?_;exact q_rm
def YI (r:Bool):V:=vb r
def yG (r:Bool):List (Nat×(Nat×O)):=[]
theorem qEf (r:Bool):jW (yG r):=by
 intro i k o h;unfold yG at h;cases h
def KD (a1:List Node) (a2:List Node) (x4:Int):St:=
 ⟨[(0,vc (tl e_Node default a1)),(1,vc (tl e_Node default a2)),(12,vi ((a1.length:Nat):Int)),(13,vi x4)],[]⟩
def NV :St:=
 ⟨[],[]⟩
theorem qBF (E:Env 0) (a1:List Node) (a2:List Node):∀(n:Nat) (x4:Int) (res:Bool⊕Unit),jQ a1 a2 n x4=some res->HL (kx E 26 0) (nd Tryz.f107 116) (wY 0 (λo=>NV) (λv st=>RetQ Tryz.prog Tryz.f107 (YI v) (yG v) .ret st) res) n (KD a1 a2 x4):=by
 intro n
 induction n with
 |zero=>
  intro x4 res hm;cases hm
 |succ n ih=>
  intro x4 res hm;refine qM ?_;refine s_vu [] 0 [] [(14,vb (decide (x4<((a1.length:Nat):Int))))] [] [] ?_;refine q_sq ?_;refine q_cm hm (λb5 hm=>?_) (λb5 hm=>?_)
  ·refine q_sk ?_;refine q_sq ?_;refine q_bk 1 ?_;refine s_vu [] 0 [14] [(5,vi x4)] [] [] ?_;obtain⟨g6,hm⟩:=qI hm;obtain⟨g7,hm⟩:=qI hm;refine s_du [qd 2 (Dir.none) (inb_of g6),qd 6 (Dir.none) (inb_of g7)] [0,0,3,7,0,0,48,112,255] 0 [5] [(24,vb (!((((a1.getD x4.toNat default).Kind)==((a2.getD x4.toNat default).Kind))&&((((a1.getD x4.toNat default).At)==((a2.getD x4.toNat default).At))&&true))))] [] [] ?_;refine q_cm hm (λb8 hm=>?_) (λb8 hm=>?_)
   ·refine s_vn [] 0 ⟨[(4,vb false)],[]⟩ ?_;obtain rfl:=oi hm;refine q_rt ?_;refine zH false ?_;exact q_rm
   ·refine q_sk ?_;refine q_vu [] 0 [13,24] [(13,vi (w64 (x4+1)))] [] [] ?_;exact q_hl (KD a1 a2 (w64 (x4+1))) (ih (w64 (x4+1)) _ hm)
  ·refine q_ex 0 ?_;obtain rfl:=oi hm;exact jI () (by kernel_rfl) (by kernel_rfl)
theorem qDm (a1:List Node) (a2:List Node) (r:Bool) (hm:JG a1 a2=some r):CtX Tryz.prog globs 107 0 0 [.one (tl e_Node default a1),.one (tl e_Node default a2)] [] (YI r) (yG r):=by
 unfold JG at hm;refine q_E Tryz.f107 26 λE=>?_;refine s_vn [] 0 ⟨[(0,vc (tl e_Node default a1)),(1,vc (tl e_Node default a2))],[]⟩ ?_;refine q_sq ?_;refine s_vu [] 0 [] [(10,vb (((a1.length:Nat):Int) !=((a2.length:Nat):Int)))] [] [] ?_;refine q_cm hm (λb3 hm=>?_) (λb3 hm=>?_)
 ·refine s_vn [] 0 ⟨[(4,vb false)],[]⟩ ?_;obtain rfl:=oi hm;refine q_rt ?_;exact q_rm
 ·refine q_sk ?_;refine q_sq ?_;refine s_vu [] 0 [10] [(12,vi ((a1.length:Nat):Int)),(13,vi 0)] [] [] ?_;obtain⟨u11,h10,hm⟩:=qB hm;refine zP (nd Tryz.f107 116) 0 (by kernel_rfl) FUEL (λo=>NV) (λv st=>RetQ Tryz.prog Tryz.f107 (YI v) (yG v) .ret st) u11 (q_hl (KD a1 a2 0) (qBF E a1 a2 FUEL 0 u11 h10)) ?_ ?_
  ·rintro v12 rfl st hr;obtain rfl:=oi hm;exact hr
  ·rintro o9 rfl;replace hm:_=some r:=hm;refine s_vn [] 0 ⟨[(4,vb true)],[]⟩ ?_;obtain rfl:=oi hm;refine q_rt ?_;exact q_rm
def qPU (r:(List Span)×(List (List Node))×Bool):V:= .tup [.one (.own 0 0 2 r.1.length),.one (.own 1 0 1 r.2.1.length),.one (cb r.2.2)]
def qPL (r:(List Span)×(List (List Node))×Bool):List (Nat×(Nat×O)):=[(0,ro 0 31 2 r.1.length (rf e_Span r.1)),(1,ro 0 44 1 r.2.1.length (rf (qD e_Node) r.2.1))]
def qEn (a1:Rect) (a2:Int) (a3:Int) (a4:List Node) (x7:Span) (l11:List Node) (v18:Int) (l27:List Span) (l27n:Nat) (l28:List (List Node)) (l28n:Nat) (x29:Int):St:=
 ⟨[(1,vi a2),(2,vi a3),(3,vc (tl e_Node default a4)),(4,vp 0 0),(11,vp 1 0),(12,vo 2 0 2 l27n),(13,vo 3 0 1 l28n),(14,vi x29),(15,vc (tl e_Node default (l11.drop ((1:Int).toNat)))),(17,vi v18)],[(0,bx 33 (qE a1)),(1,bx 31 (e_Span x7)),(2,ro 0 31 2 l27n (rf e_Span l27)),(3,ro 0 44 1 l28n (rf (qD e_Node) l28))]⟩
def qEB (a1:Rect) (a2:Int) (a3:Int) (a4:List Node) (x7:Span) (l8:List Span) (l9:List (List Node)) (x10:Int) (l11:List Node) (v18:Int) (x22:Bool):St:=
 ⟨[(1,vi a2),(2,vi a3),(3,vc (tl e_Node default a4)),(4,vp 0 0),(11,vp 1 0),(12,vo 2 0 2 l8.length),(13,vo 3 0 1 l9.length),(14,vi x10),(15,vc (tl e_Node default (l11.drop ((1:Int).toNat)))),(16,vp 4 0),(17,vi v18),(58,vb x22)],[(0,bx 33 (qE a1)),(1,bx 31 (e_Span x7)),(2,ro 0 31 2 l8.length (rf e_Span l8)),(3,ro 0 44 1 l9.length (rf (qD e_Node) l9)),(4,bx 65 [ci ((l11.getD (0:Int).toNat default).Kind),ci ((l11.getD (0:Int).toNat default).At)])]⟩
def qEz (a1:Rect) (a2:Int) (a3:Int) (a4:List Node) (x7:Span) (l8:List Span) (l9:List (List Node)) (x10:Int) (l11:List Node) (x14:Bool):St:=
 ⟨[(1,vi a2),(2,vi a3),(3,vc (tl e_Node default a4)),(4,vp 0 0),(11,vp 1 0),(12,vo 2 0 2 l8.length),(13,vo 3 0 1 l9.length),(14,vi x10),(15,vc (tl e_Node default l11)),(42,vb x14)],[(0,bx 33 (qE a1)),(1,bx 31 (e_Span x7)),(2,ro 0 31 2 l8.length (rf e_Span l8)),(3,ro 0 44 1 l9.length (rf (qD e_Node) l9))]⟩
def qAf (a1:Rect) (a2:Int) (a3:Int) (a4:List Node) (x7:Span) (l8:List Span) (l8n:Nat) (l9:List (List Node)) (l9n:Nat) (x10:Int) (l11:List Node):St:=
 ⟨[(1,vi a2),(2,vi a3),(3,vc (tl e_Node default a4)),(4,vp 0 0),(11,vp 1 0),(12,vo 2 0 2 l8n),(13,vo 3 0 1 l9n),(14,vi x10),(15,vc (tl e_Node default l11))],[(0,bx 33 (qE a1)),(1,bx 31 (e_Span x7)),(2,ro 0 31 2 l8n (rf e_Span l8)),(3,ro 0 44 1 l9n (rf (qD e_Node) l9))]⟩
def qEs (a1:Rect) (a2:Int) (a3:Int) (a4:List Node) (x7:Span) (l31:List Span) (l32:List (List Node)) (x33:Int) (l34:List Node):St:=
 ⟨[(1,vi a2),(2,vi a3),(3,vc (tl e_Node default a4)),(4,vp 0 0),(11,vp 1 0),(12,vo 2 0 2 l31.length),(13,vo 3 0 1 l32.length),(14,vi x33),(15,vc (tl e_Node default l34))],[(0,bx 33 (qE a1)),(1,bx 31 (e_Span x7)),(2,ro 0 31 2 l31.length (rf e_Span l31)),(3,ro 0 44 1 l32.length (rf (qD e_Node) l32))]⟩
def qEp (l43:List Span) (l44:List (List Node)) (x50:Bool):St:=
 ⟨[(12,vo 2 0 2 l43.length),(13,vo 3 0 1 l44.length),(123,vb x50)],[(2,ro 0 31 2 l43.length (rf e_Span l43)),(3,ro 0 44 1 l44.length (rf (qD e_Node) l44))]⟩
def qEr (a1:Rect) (a2:Int) (a3:Int) (a4:List Node) (l43:List Span) (l43n:Nat) (l44:List (List Node)) (l44n:Nat):St:=
 ⟨[(1,vi a2),(2,vi a3),(3,vc (tl e_Node default a4)),(4,vp 0 0),(12,vo 2 0 2 l43n),(13,vo 3 0 1 l44n)],[(0,bx 33 (qE a1)),(2,ro 0 31 2 l43n (rf e_Span l43)),(3,ro 0 44 1 l44n (rf (qD e_Node) l44))]⟩
def qEA (a1:Rect) (a2:Int) (a3:Int) (a4:List Node) (x7:Span) (o35:(List Span)×(List (List Node))×Int×(List Node)) (x39:Bool):St:=
 ⟨[(1,vi a2),(2,vi a3),(3,vc (tl e_Node default a4)),(4,vp 0 0),(11,vp 1 0),(12,vo 2 0 2 o35.1.length),(13,vo 3 0 1 o35.2.1.length),(14,vi o35.2.2.1),(15,vc (tl e_Node default o35.2.2.2)),(95,vb x39)],[(0,bx 33 (qE a1)),(1,bx 31 (e_Span x7)),(2,ro 0 31 2 o35.1.length (rf e_Span o35.1)),(3,ro 0 44 1 o35.2.1.length (rf (qD e_Node) o35.2.1))]⟩
def qEo (a1:Rect) (a2:Int) (a3:Int) (a4:List Node) (x7:Span):St:=
 ⟨[(1,vi a2),(2,vi a3),(3,vc (tl e_Node default a4)),(4,vp 0 0),(11,vp 1 0)],[(0,bx 33 (qE a1)),(1,bx 31 (e_Span x7))]⟩
theorem qJ3 (E:Env 0) (a1:Rect) (a2:Int) (a3:Int) (a4:List Node) (x7:Span):∀(n:Nat) (l8:List Span) (l8n:Nat) (l9:List (List Node)) (l9n:Nat) (x10:Int) (l11:List Node) (res:(List Span)×(List (List Node))×Int×(List Node)),l8.length=l8n->l9.length=l9n->QR a2 a3 x7 n l8 l9 x10 l11=some res->HL (kx E 126 0) (nd Tryz.f52 4088) (zS 0 (λo=>qEs a1 a2 a3 a4 x7 o.1 o.2.1 o.2.2.1 o.2.2.2) res) n (qAf a1 a2 a3 a4 x7 l8 l8n l9 l9n x10 l11):=by
 intro n
 induction n with
 |zero=>
  intro l8 l8n l9 l9n x10 l11 res hl0 hl1 hm;cases hm
 |succ n ih=>
  intro l8 l8n l9 l9n x10 l11 res hl0 hl1 hm;subst hl0;subst hl1;refine qM ?_;refine q_sq ?_;refine q_jn (ι:=Bool) (λp=>qEz a1 a2 a3 a4 x7 l8 l9 x10 l11 p) (λp=>FX a3 x7 l8 l9 x10 l11 (QR a2 a3 x7 n) p=some res) ?_ ?_
  ·rintro x14 hm;show H _ (qEz a1 a2 a3 a4 x7 l8 l9 x10 l11 x14) _ _;refine q_cm hm (λb15 hm=>?_) (λb15 hm=>?_)
   ·refine q_sk ?_;refine q_bk 1 ?_;obtain⟨g16,hm⟩:=qI hm;refine s_vu [qd 1 (Dir.none) (inb_of g16)] 4 [42] [(16,vp 4 0)] [] [(4,bx 65 [ci ((l11.getD (0:Int).toNat default).Kind),ci ((l11.getD (0:Int).toNat default).At)])] ?_;obtain⟨g17,hm⟩:=qI hm;refine s_vu [qd 1 (drw ((l11.drop ((1:Int).toNat)).length) 0 (rf e_Node (l11.drop ((1:Int).toNat)))) (slPlo e_Node default l11 1 (And.intro (slOk_of g17).1 (slOk_of g17).2.1))] 5 [15] [(15,vc (tl e_Node default (l11.drop ((1:Int).toNat))))] [] [] ?_;obtain⟨v18,h19,hm⟩:=qB hm
    refine s_vu [qc 1 [48] 5 (qNB (l11.drop ((1:Int).toNat)) v18 h19)] 5 [] [(17,vi v18)] [] [] ?_;refine q_jn (ι:=(List Span)×Nat×(List (List Node))×Nat×Int) (λp=>qEn a1 a2 a3 a4 x7 l11 v18 p.1 p.2.1 p.2.2.1 p.2.2.2.1 p.2.2.2.2) (λp=>p.1.length=p.2.1/\p.2.2.1.length=p.2.2.2.1/\IP l11 (QR a2 a3 x7 n) v18 p.1 p.2.2.1 p.2.2.2.2=some res) ?_ ?_
    ·rintro⟨l27,l27n,l28,l28n,x29⟩ ⟨el27,el28,hm⟩;replace el27:l27.length=l27n:=el27;subst el27;replace el28:l28.length=l28n:=el28;subst el28;show H _ (qEn a1 a2 a3 a4 x7 l11 v18 l27 l27.length l28 l28.length x29) _ _;obtain⟨g30,hm⟩:=qI hm;refine q_vu [qd 2 (drw (((l11.drop ((1:Int).toNat)).drop v18.toNat).length) 0 (rf e_Node ((l11.drop ((1:Int).toNat)).drop v18.toNat))) (slPlo e_Node default (l11.drop ((1:Int).toNat)) v18 (And.intro (slOk_of g30).1 (slOk_of g30).2.1))] 7 [15,17] [(15,vc (tl e_Node default ((l11.drop ((1:Int).toNat)).drop v18.toNat)))] [] [] ?_
     exact q_hl (qAf a1 a2 a3 a4 x7 l27 l27.length l28 l28.length x29 ((l11.drop ((1:Int).toNat)).drop v18.toNat)) (ih l27 l27.length l28 l28.length x29 ((l11.drop ((1:Int).toNat)).drop v18.toNat) _ rfl rfl hm)
    ·refine q_jn (ι:=Bool) (λp=>qEB a1 a2 a3 a4 x7 l8 l9 x10 l11 v18 p) (λp=>IH a3 x7 l8 l9 x10 l11 (QR a2 a3 x7 n) v18 p=some res) ?_ ?_
     ·rintro x22 hm;show H _ (qEB a1 a2 a3 a4 x7 l8 l9 x10 l11 v18 x22) _ _;refine q_cm hm (λb23 hm=>?_) (λb23 hm=>?_)
      ·refine q_vu [] 5 [14,16,58] [(14,vi (w64 (((l11.getD (0:Int).toNat default).At)+a3)))] [4] [] ?_;exact q_J (l8,l8.length,l9,l9.length,w64 (((l11.getD (0:Int).toNat default).At)+a3)) ⟨rfl,rfl,hm⟩
      ·obtain⟨g24,hm⟩:=qI hm
       refine s_vu [qd 5 (drw 5 0 (rf e_Span ([(Span.mk x10 ((l11.getD (0:Int).toNat default).At))]:List Span))) (litP e_Span default 2 (λ_=>rfl) ([(Span.mk x10 ((l11.getD (0:Int).toNat default).At))]:List Span) 1 rfl),qd 6 (drw 2 1 (rf e_Span (l8++([(Span.mk x10 ((l11.getD (0:Int).toNat default).At))]:List Span)))) (apP e_Span default l8 ([(Span.mk x10 ((l11.getD (0:Int).toNat default).At))]:List Span) l8.length 1 2 16 (1<=1) (Nat.le_refl _) rfl rfl (λ_=>rfl) (zU g24))] 5 [12,14,58] [(12,vo 2 1 2 (l8.length+1))] [2] [(2,ro 1 31 2 (l8.length+1) (rf e_Span (l8++([(Span.mk x10 ((l11.getD (0:Int).toNat default).At))]:List Span))))] ?_
       obtain⟨g25,hm⟩:=qI hm;obtain⟨g26,hm⟩:=qI hm
       refine s_vu [qd 3 (drw (((l11.drop ((1:Int).toNat)).take v18.toNat).length) 0 (rf e_Node ((l11.drop ((1:Int).toNat)).take v18.toNat))) (slPhi e_Node default (l11.drop ((1:Int).toNat)) v18 (And.intro (slOk_of g25).2.1 (slOk_of g25).2.2)),qd 4 (drw 6 0 (rf (qD e_Node) ([((l11.drop ((1:Int).toNat)).take v18.toNat)]:List (List Node)))) (litP (qD e_Node) default 1 (λ_=>rfl) ([((l11.drop ((1:Int).toNat)).take v18.toNat)]:List (List Node)) 1 rfl),qd 5 (drw 3 1 (rf (qD e_Node) (l9++([((l11.drop ((1:Int).toNat)).take v18.toNat)]:List (List Node))))) (apP (qD e_Node) default l9 ([((l11.drop ((1:Int).toNat)).take v18.toNat)]:List (List Node)) l9.length 1 1 24 (1<=1) (Nat.le_refl _) rfl rfl (λ_=>rfl) (zU g26))] 6 [13] [(13,vo 3 1 1 (l9.length+1))] [3] [(3,ro 1 44 1 (l9.length+1) (rf (qD e_Node) (l9++([((l11.drop ((1:Int).toNat)).take v18.toNat)]:List (List Node)))))] ?_
       refine q_vu [] 7 [16] [(14,vi (imin (w64 (((l11.getD (0:Int).toNat default).At)+a3)) x7.B))] [4] [] ?_;exact q_J ((l8++([(Span.mk x10 ((l11.getD (0:Int).toNat default).At))]:List Span)),(l8.length+1),(l9++([((l11.drop ((1:Int).toNat)).take v18.toNat)]:List (List Node))),(l9.length+1),imin (w64 (((l11.getD (0:Int).toNat default).At)+a3)) x7.B) ⟨(len_app rfl rfl),(len_app rfl rfl),hm⟩
     ·rcases bif_c hm with⟨b20,hm⟩|⟨b20,hm⟩
      ·obtain⟨g21,hm⟩:=qI hm;refine q_vu [qf 2 b20,qd 4 (Dir.none) (inb_of g21)] 5 [] [(58,vb ((((l11.drop ((1:Int).toNat)).getD (0:Int).toNat default).Kind)==0))] [] [] ?_;exact q_J ((((l11.drop ((1:Int).toNat)).getD (0:Int).toNat default).Kind)==0) hm
      ·refine q_vu [qf 2 b20] 5 [] [(58,vb false)] [] [] ?_;exact q_J (false) hm
   ·refine q_ex 0 ?_;obtain rfl:=oi hm;exact wO (by kernel_rfl) (by kernel_rfl)
  ·rcases bif_c hm with⟨b12,hm⟩|⟨b12,hm⟩
   ·obtain⟨g13,hm⟩:=qI hm;refine q_vu [qf 3 b12,qd 5 (Dir.none) (inb_of g13)] 4 [] [(42,vb (((l11.getD (0:Int).toNat default).Kind)==a2))] [] [] ?_;exact q_J (((l11.getD (0:Int).toNat default).Kind)==a2) hm
   ·refine q_vu [qf 3 b12] 4 [] [(42,vb false)] [] [] ?_;exact q_J (false) hm
theorem qGC (a1:Rect) (a2:Int) (a3:Int) (a4:List Node) (r:(List Span)×(List (List Node))×Bool) (hm:AF a1 a2 a3 a4=some r):CtX Tryz.prog globs 52 0 0 [.agg (qE a1),.one (ci a2),.one (ci a3),.one (tl e_Node default a4)] [] (qPU r) (qPL r):=by
 unfold AF at hm;refine q_E Tryz.f52 126 λE=>?_;refine s_vn [] 0 ⟨[(1,vi a2),(2,vi a3),(3,vc (tl e_Node default a4)),(4,vp 0 0)],[(0,bx 33 (qE a1))]⟩ ?_;refine q_sq ?_;refine s_vu [] 1 [] [(22,vb (decide (((a4.length:Nat):Int)>127)))] [] [] ?_;refine q_cm hm (λb5 hm=>?_) (λb5 hm=>?_)
 ·refine s_vn [] 1 ⟨[(8,vc (.emp)),(9,vc (.emp)),(10,vb false)],[]⟩ ?_;refine q_fn [.own 8 1 31 2 (rf e_Span ([]:List Span))] ⟨[(8,vo 1 0 2 0),(9,vc (.emp)),(10,vb false)],[(1,ro 0 31 2 0 (rf e_Span ([]:List Span)))]⟩ o0 ?_;refine q_fn [.own 9 2 44 1 (rf (qD e_Node) ([]:List (List Node)))] ⟨[(8,vo 1 0 2 0),(9,vo 2 0 1 0),(10,vb false)],[(1,ro 0 31 2 0 (rf e_Span ([]:List Span))),(2,ro 0 44 1 0 (rf (qD e_Node) ([]:List (List Node))))]⟩ o0 ?_
  refine q_fn [.len 1 (([]:List Span).length)] ⟨[(8,vo 1 0 2 (([]:List Span).length)),(9,vo 2 0 1 0),(10,vb false)],[(1,ro 0 31 2 (([]:List Span).length) (rf e_Span ([]:List Span))),(2,ro 0 44 1 0 (rf (qD e_Node) ([]:List (List Node))))]⟩ (o1 (And.intro (show 0=([]:List Span).length from rfl) (show 0=([]:List Span).length from rfl))) ?_
  refine q_fn [.len 2 (([]:List (List Node)).length)] ⟨[(8,vo 1 0 2 (([]:List Span).length)),(9,vo 2 0 1 (([]:List (List Node)).length)),(10,vb false)],[(1,ro 0 31 2 (([]:List Span).length) (rf e_Span ([]:List Span))),(2,ro 0 44 1 (([]:List (List Node)).length) (rf (qD e_Node) ([]:List (List Node))))]⟩ (o1 (And.intro (show 0=([]:List (List Node)).length from rfl) (show 0=([]:List (List Node)).length from rfl))) ?_;obtain rfl:=oi hm;refine qW 1 0 (by kernel_rfl) ?_;refine qW 2 1 (by kernel_rfl) ?_;refine q_rt ?_;exact q_rm
 ·refine q_sk ?_;refine s_vu [] 1 [22] [(11,vp 1 0)] [] [(1,bx 31 (e_Span a1.X))] ?_;refine q_jn (ι:=Span) (λp=>qEo a1 a2 a3 a4 p) (λp=>YS a1 a2 a3 a4 p=some r) ?_ ?_
  ·rintro x7 hm;show H _ (qEo a1 a2 a3 a4 x7) _ _;refine s_vu [] 2 [] [(12,vc (.emp))] [] [] ?_;refine s_vu [] 2 [] [(13,vc (.emp))] [] [] ?_;refine s_vu [] 2 [] [(14,vi x7.A)] [] [] ?_;refine s_vu [] 2 [] [(15,vc (tl e_Node default a4))] [] [] ?_;refine q_sq ?_;refine q_fn [.own 12 2 31 2 (rf e_Span ([]:List Span))] ⟨[(1,vi a2),(2,vi a3),(3,vc (tl e_Node default a4)),(4,vp 0 0),(11,vp 1 0),(12,vo 2 0 2 0),(13,vc (.emp)),(14,vi x7.A),(15,vc (tl e_Node default a4))],[(0,bx 33 (qE a1)),(1,bx 31 (e_Span x7)),(2,ro 0 31 2 0 (rf e_Span ([]:List Span)))]⟩ o0 ?_
   refine q_fn [.own 13 3 44 1 (rf (qD e_Node) ([]:List (List Node)))] ⟨[(1,vi a2),(2,vi a3),(3,vc (tl e_Node default a4)),(4,vp 0 0),(11,vp 1 0),(12,vo 2 0 2 0),(13,vo 3 0 1 0),(14,vi x7.A),(15,vc (tl e_Node default a4))],[(0,bx 33 (qE a1)),(1,bx 31 (e_Span x7)),(2,ro 0 31 2 0 (rf e_Span ([]:List Span))),(3,ro 0 44 1 0 (rf (qD e_Node) ([]:List (List Node))))]⟩ o0 ?_;obtain⟨o35,h36,hm⟩:=qB hm
   refine zL (nd Tryz.f52 4088) 0 (by kernel_rfl) FUEL (λo=>qEs a1 a2 a3 a4 x7 o.1 o.2.1 o.2.2.1 o.2.2.2) o35 (q_hl (qAf a1 a2 a3 a4 x7 ([]:List Span) 0 ([]:List (List Node)) 0 x7.A a4) (qJ3 E a1 a2 a3 a4 x7 FUEL ([]:List Span) 0 ([]:List (List Node)) 0 x7.A a4 o35 rfl rfl h36)) ?_;refine q_jn (ι:=(List Span)×Nat×(List (List Node))×Nat) (λp=>qEr a1 a2 a3 a4 p.1 p.2.1 p.2.2.1 p.2.2.2) (λp=>p.1.length=p.2.1/\p.2.2.1.length=p.2.2.2/\LA a1 a2 a3 a4 p.1 p.2.2.1=some r) ?_ ?_
   ·rintro⟨l43,l43n,l44,l44n⟩ ⟨el43,el44,hm⟩;replace el43:l43.length=l43n:=el43;subst el43;replace el44:l44.length=l44n:=el44;subst el44;show H _ (qEr a1 a2 a3 a4 l43 l43.length l44 l44.length) _ _;obtain⟨v45,h46,hm⟩:=qB hm
    refine s_vu [qd 5 (dex (cen [] [] 6 0 (KH v45) (ZO v45) [108,109,110,111,112] [2,3])) (wF (K:=(kx E 126 0)) (b:=false) ⟨[(108,va (qE a1)),(109,vi a2),(110,vi a3),(111,vo 2 0 2 l43.length),(112,vo 3 0 1 l44.length)],[(2,ro 0 31 2 l43.length (rf e_Span l43)),(3,ro 0 44 1 l44.length (rf (qD e_Node) l44))]⟩ (opAt (rg Tryz.f52 4094) 5) [] [] 6 (o1 (And.intro (Nat.le_refl l43.length) (Nat.le_refl l44.length))) rfl (pattern_Row_ok a1 a2 a3 l43 l44 v45 h46) (.inr ⟨(by kernel_rfl),qAb v45⟩) (by kernel_rfl))] 6 [1,2,4] [(18,vo 6 0 2 v45.1.length),(19,vi v45.2)] [0] [(6,ro 0 65 2 v45.1.length (rf e_Node v45.1))] ?_
    refine q_sq ?_;refine q_jn (ι:=Bool) (λp=>qEp l43 l44 p) (λp=>zbQ l43 l44 p=some r) ?_ ?_
    ·rintro x50 hm;show H _ (qEp l43 l44 x50) _ _;refine q_cm hm (λb51 hm=>?_) (λb51 hm=>?_)
     ·refine s_vn [] 7 ⟨[(8,vc (.emp)),(9,vc (.emp)),(10,vb false)],[]⟩ ?_;refine q_fn [.own 8 7 31 2 (rf e_Span ([]:List Span))] ⟨[(8,vo 7 0 2 0),(9,vc (.emp)),(10,vb false)],[(7,ro 0 31 2 0 (rf e_Span ([]:List Span)))]⟩ o0 ?_;refine q_fn [.own 9 8 44 1 (rf (qD e_Node) ([]:List (List Node)))] ⟨[(8,vo 7 0 2 0),(9,vo 8 0 1 0),(10,vb false)],[(7,ro 0 31 2 0 (rf e_Span ([]:List Span))),(8,ro 0 44 1 0 (rf (qD e_Node) ([]:List (List Node))))]⟩ o0 ?_
      refine q_fn [.len 7 (([]:List Span).length)] ⟨[(8,vo 7 0 2 (([]:List Span).length)),(9,vo 8 0 1 0),(10,vb false)],[(7,ro 0 31 2 (([]:List Span).length) (rf e_Span ([]:List Span))),(8,ro 0 44 1 0 (rf (qD e_Node) ([]:List (List Node))))]⟩ (o1 (And.intro (show 0=([]:List Span).length from rfl) (show 0=([]:List Span).length from rfl))) ?_
      refine q_fn [.len 8 (([]:List (List Node)).length)] ⟨[(8,vo 7 0 2 (([]:List Span).length)),(9,vo 8 0 1 (([]:List (List Node)).length)),(10,vb false)],[(7,ro 0 31 2 (([]:List Span).length) (rf e_Span ([]:List Span))),(8,ro 0 44 1 (([]:List (List Node)).length) (rf (qD e_Node) ([]:List (List Node))))]⟩ (o1 (And.intro (show 0=([]:List (List Node)).length from rfl) (show 0=([]:List (List Node)).length from rfl))) ?_;obtain rfl:=oi hm;refine qW 7 0 (by kernel_rfl) ?_;refine qW 8 1 (by kernel_rfl) ?_;refine q_rt ?_;exact q_rm
     ·refine q_sk ?_;refine s_vu [] 7 [12,13,123] [(8,vo 2 0 2 l43.length),(9,vo 3 0 1 l44.length),(10,vb true)] [] [] ?_;obtain rfl:=oi hm;refine qW 2 0 (by kernel_rfl) ?_;refine qW 3 1 (by kernel_rfl) ?_;refine q_rt ?_;exact q_rm
    ·rcases bif_c hm with⟨b47,hm⟩|⟨b47,hm⟩
     ·refine q_vu [qf 2 b47] 7 [3,18,19] [(123,vb true)] [6] [] ?_;exact q_J (true) hm
     ·obtain⟨v48,h49,hm⟩:=qB hm;refine q_vu [qf 2 b47,qd 5 (dex (cen [] [] 7 0 (YI v48) (yG v48) [118,119,120] [6])) (wF (K:=(kx E 126 0)) (b:=false) ⟨[(118,vb false),(119,vc (tl e_Node default a4)),(120,vo 6 0 2 v45.1.length)],[(6,ro 0 65 2 v45.1.length (rf e_Node v45.1))]⟩ (opAt (rg Tryz.f52 16380) 5) [] [] 7 (o1 (Nat.le_refl v45.1.length)) rfl (qDm a4 v45.1 v48 h49) (.inr ⟨(by kernel_rfl),qEf v48⟩) (by kernel_rfl))] 7 [3,18,19] [(123,vb (!v48))] [6] [] ?_;exact q_J (!v48) hm
   ·refine q_jn (ι:=Bool) (λp=>qEA a1 a2 a3 a4 x7 o35 p) (λp=>II a1 a2 a3 a4 x7 o35 p=some r) ?_ ?_
    ·rintro x39 hm;show H _ (qEA a1 a2 a3 a4 x7 o35 x39) _ _;refine q_cm hm (λb40 hm=>?_) (λb40 hm=>?_)
     ·obtain⟨g41,hm⟩:=qI hm;refine s_vu [qd 5 (drw 4 0 (rf e_Span ([(Span.mk o35.2.2.1 x7.B)]:List Span))) (litP e_Span default 2 (λ_=>rfl) ([(Span.mk o35.2.2.1 x7.B)]:List Span) 1 rfl),qd 6 (drw 2 1 (rf e_Span (o35.1++([(Span.mk o35.2.2.1 x7.B)]:List Span)))) (apP e_Span default o35.1 ([(Span.mk o35.2.2.1 x7.B)]:List Span) o35.1.length 1 2 16 (1<=1) (Nat.le_refl _) rfl rfl (λ_=>rfl) (zU g41))] 4 [11,12,14,95] [(12,vo 2 1 2 (o35.1.length+1))] [1,2] [(2,ro 1 31 2 (o35.1.length+1) (rf e_Span (o35.1++([(Span.mk o35.2.2.1 x7.B)]:List Span))))] ?_;obtain⟨g42,hm⟩:=qI hm
      refine q_vu [qd 2 (drw 5 0 (rf (qD e_Node) ([o35.2.2.2]:List (List Node)))) (litP (qD e_Node) default 1 (λ_=>rfl) ([o35.2.2.2]:List (List Node)) 1 rfl),qd 3 (drw 3 1 (rf (qD e_Node) (o35.2.1++([o35.2.2.2]:List (List Node))))) (apP (qD e_Node) default o35.2.1 ([o35.2.2.2]:List (List Node)) o35.2.1.length 1 1 24 (1<=1) (Nat.le_refl _) rfl rfl (λ_=>rfl) (zU g42))] 5 [13,15] [(13,vo 3 1 1 (o35.2.1.length+1))] [3] [(3,ro 1 44 1 (o35.2.1.length+1) (rf (qD e_Node) (o35.2.1++([o35.2.2.2]:List (List Node)))))] ?_
      exact q_J ((o35.1++([(Span.mk o35.2.2.1 x7.B)]:List Span)),(o35.1.length+1),(o35.2.1++([o35.2.2.2]:List (List Node))),(o35.2.1.length+1)) ⟨(len_app rfl rfl),(len_app rfl rfl),hm⟩
     ·refine q_sk ?_;exact q_J (o35.1,o35.1.length,o35.2.1,o35.2.1.length) ⟨rfl,rfl,hm⟩
    ·rcases bif_c hm with⟨b37,hm⟩|⟨b37,hm⟩
     ·obtain⟨g38,hm⟩:=qI hm;refine q_vu [qf 3 b37,qd 5 (Dir.none) (inb_of g38)] 4 [] [(95,vb (((o35.2.2.2.getD (0:Int).toNat default).Kind) !=0))] [] [] ?_;exact q_J (((o35.2.2.2.getD (0:Int).toNat default).Kind) !=0) hm
     ·refine q_vu [qf 3 b37] 4 [] [(95,vb false)] [] [] ?_;exact q_J (false) hm
  ·refine s_vu [] 2 [] [(26,vb (a2==3))] [] [] ?_;refine q_cm hm (λb6 hm=>?_) (λb6 hm=>?_)
   ·refine q_vu [] 2 [26] [] [1] [(1,bx 31 (e_Span a1.Y))] ?_;exact q_J (a1.Y) hm
   ·refine q_sk ?_;exact q_J (a1.X) hm
def AK (r:Bool):V:=vb r
def AL (r:Bool):List (Nat×(Nat×O)):=[]
def qAs (a1:Rect) (a3:Saw) (v5:(List Span)×(List (List Node))×Bool) (v10:(List Int)×(List Int)) (x12:Int) (x23:Int) (x31:Bool):St:=
 ⟨[(4,vp 0 0),(6,vp 1 0),(10,vo 3 0 1 v5.2.1.length),(12,vo 4 0 1 v10.1.length),(13,vo 5 0 1 v10.2.length),(14,vi x12),(15,vp 6 0),(16,vb x31),(47,vo 2 0 2 v5.1.length),(48,vi ((v5.1.length:Nat):Int)),(49,vi x12),(82,vo 4 0 1 v10.1.length),(83,vi ((v10.1.length:Nat):Int)),(84,vi x23)],[(0,bx 33 (qE a1)),(1,bx 38 (qU a3)),(2,ro 0 31 2 v5.1.length (rf e_Span v5.1)),(3,ro 0 44 1 v5.2.1.length (rf (qD e_Node) v5.2.1)),(4,ro 0 3 1 v10.1.length (rf e_i64 v10.1)),(5,ro 0 3 1 v10.2.length (rf e_i64 v10.2)),(6,bx 31 [ci ((v5.1.getD x12.toNat default).A),ci ((v5.1.getD x12.toNat default).B)])]⟩
def NY (a1:Rect) (a3:Saw) (v5:(List Span)×(List (List Node))×Bool) (v10:(List Int)×(List Int)) (x12:Int) (x22:Bool) (x23:Int):St:=
 ⟨[(4,vp 0 0),(6,vp 1 0),(10,vo 3 0 1 v5.2.1.length),(12,vo 4 0 1 v10.1.length),(13,vo 5 0 1 v10.2.length),(14,vi x12),(15,vp 6 0),(16,vb x22),(47,vo 2 0 2 v5.1.length),(48,vi ((v5.1.length:Nat):Int)),(49,vi x12),(82,vo 4 0 1 v10.1.length),(83,vi ((v10.1.length:Nat):Int)),(84,vi x23)],[(0,bx 33 (qE a1)),(1,bx 38 (qU a3)),(2,ro 0 31 2 v5.1.length (rf e_Span v5.1)),(3,ro 0 44 1 v5.2.1.length (rf (qD e_Node) v5.2.1)),(4,ro 0 3 1 v10.1.length (rf e_i64 v10.1)),(5,ro 0 3 1 v10.2.length (rf e_i64 v10.2)),(6,bx 31 [ci ((v5.1.getD x12.toNat default).A),ci ((v5.1.getD x12.toNat default).B)])]⟩
def qAl (a1:Rect) (a3:Saw) (v5:(List Span)×(List (List Node))×Bool) (v10:(List Int)×(List Int)) (x12:Int) (x32:Bool):St:=
 ⟨[(4,vp 0 0),(6,vp 1 0),(10,vo 3 0 1 v5.2.1.length),(12,vo 4 0 1 v10.1.length),(13,vo 5 0 1 v10.2.length),(16,vb x32),(47,vo 2 0 2 v5.1.length),(48,vi ((v5.1.length:Nat):Int)),(49,vi x12)],[(0,bx 33 (qE a1)),(1,bx 38 (qU a3)),(2,ro 0 31 2 v5.1.length (rf e_Span v5.1)),(3,ro 0 44 1 v5.2.1.length (rf (qD e_Node) v5.2.1)),(4,ro 0 3 1 v10.1.length (rf e_i64 v10.1)),(5,ro 0 3 1 v10.2.length (rf e_i64 v10.2))]⟩
def qAH (a1:Rect) (a3:Saw) (v5:(List Span)×(List (List Node))×Bool) (v10:(List Int)×(List Int)) (x12:Int) (x20:Bool):St:=
 ⟨[(4,vp 0 0),(6,vp 1 0),(10,vo 3 0 1 v5.2.1.length),(12,vo 4 0 1 v10.1.length),(13,vo 5 0 1 v10.2.length),(14,vi x12),(15,vp 6 0),(47,vo 2 0 2 v5.1.length),(48,vi ((v5.1.length:Nat):Int)),(49,vi x12),(81,vb x20)],[(0,bx 33 (qE a1)),(1,bx 38 (qU a3)),(2,ro 0 31 2 v5.1.length (rf e_Span v5.1)),(3,ro 0 44 1 v5.2.1.length (rf (qD e_Node) v5.2.1)),(4,ro 0 3 1 v10.1.length (rf e_i64 v10.1)),(5,ro 0 3 1 v10.2.length (rf e_i64 v10.2)),(6,bx 31 [ci ((v5.1.getD x12.toNat default).A),ci ((v5.1.getD x12.toNat default).B)])]⟩
def FA (a1:Rect) (a3:Saw) (v5:(List Span)×(List (List Node))×Bool) (v10:(List Int)×(List Int)) (x12:Int):St:=
 ⟨[(4,vp 0 0),(6,vp 1 0),(10,vo 3 0 1 v5.2.1.length),(12,vo 4 0 1 v10.1.length),(13,vo 5 0 1 v10.2.length),(47,vo 2 0 2 v5.1.length),(48,vi ((v5.1.length:Nat):Int)),(49,vi x12)],[(0,bx 33 (qE a1)),(1,bx 38 (qU a3)),(2,ro 0 31 2 v5.1.length (rf e_Span v5.1)),(3,ro 0 44 1 v5.2.1.length (rf (qD e_Node) v5.2.1)),(4,ro 0 3 1 v10.1.length (rf e_i64 v10.1)),(5,ro 0 3 1 v10.2.length (rf e_i64 v10.2))]⟩
def qAK :St:=
 ⟨[],[]⟩
def qAM (a1:Rect) (a2:List Product) (a3:Saw) (v5:(List Span)×(List (List Node))×Bool) (x8:Bool):St:=
 ⟨[(1,vc (tl qC default a2)),(4,vp 0 0),(6,vp 1 0),(9,vo 2 0 2 v5.1.length),(10,vo 3 0 1 v5.2.1.length),(34,vb x8)],[(0,bx 33 (qE a1)),(1,bx 38 (qU a3)),(2,ro 0 31 2 v5.1.length (rf e_Span v5.1)),(3,ro 0 44 1 v5.2.1.length (rf (qD e_Node) v5.2.1))]⟩
theorem qFA (E:Env 0) (a1:Rect) (a3:Saw) (v5:(List Span)×(List (List Node))×Bool) (v10:(List Int)×(List Int)) (x12:Int):∀(n:Nat) (x22:Bool) (x23:Int) (res:Bool),wU v5 v10 x12 n x22 x23=some res->HL (kx E 117 0) (nd Tryz.f54 1025652) (zS 2 (λo=>qAl a1 a3 v5 v10 x12 o) res) n (NY a1 a3 v5 v10 x12 x22 x23):=by
 intro n
 induction n with
 |zero=>
  intro x22 x23 res hm;cases hm
 |succ n ih=>
  intro x22 x23 res hm;refine qM ?_;refine s_vu [] 7 [] [(85,vb (decide (x23<((v10.1.length:Nat):Int))))] [] [] ?_;refine q_sq ?_;refine q_cm hm (λb24 hm=>?_) (λb24 hm=>?_)
  ·refine q_sk ?_;refine q_jn (ι:=Bool) (λp=>qAs a1 a3 v5 v10 x12 x23 p) (λp=>KX x23 (wU v5 v10 x12 n) p=some res) ?_ ?_
   ·rintro x31 hm;show H _ (qAs a1 a3 v5 v10 x12 x23 x31) _ _;refine q_vu [] 7 [84] [(84,vi (w64 (x23+1)))] [] [] ?_;exact q_hl (NY a1 a3 v5 v10 x12 x31 (w64 (x23+1))) (ih x31 (w64 (x23+1)) _ hm)
   ·refine q_bk 3 ?_;obtain⟨g25,hm⟩:=qI hm;refine s_vu [qd 1 (Dir.none) (inb_of g25),qd 2 (Dir.none) (toNat_lt (inb_of g25))] 7 [85] [(17,vi x23),(18,vi (v10.1.getD x23.toNat default))] [] [] ?_;rcases bif_c hm with⟨b26,hm⟩|⟨b26,hm⟩
    ·refine q_du [qf 1 b26] [0,1,3,3,11,3,35,123,255,511,1023,1023,4095,8191,1023,1023,50175,115711,246783,508927,1033215,2097151,4194303,8388607,16777215] 7 [16,17,18] [(16,vb true)] [] [] ?_;exact q_J (true) hm
    ·rcases bif_c hm with⟨b27,hm⟩|⟨b27,hm⟩
     ·obtain⟨g28,hm⟩:=qI hm;obtain⟨g29,hm⟩:=qI hm;obtain⟨g30,hm⟩:=qI hm;refine q_du [qf 1 b26,qf 9 b27,qd 12 (Dir.none) (inb_of g28),qd 13 (Dir.none) (toNat_lt (inb_of g28)),qd 16 (Dir.none) (inb_of g29),qd 17 (Dir.none) (toNat_lt (inb_of g29)),qd 18 (Dir.none) (inb_of g30)] [0,1,3,3,11,3,35,123,255,511,1023,1023,4095,8191,1023,1023,50175,115711,246783,508927,1033215,2097151,4194303,8388607,16777215] 7 [16,17,18] [(16,vb ((v10.2.getD x23.toNat default)==(((v5.2.1.getD x12.toNat default).getD (0:Int).toNat default).At)))] [] [] ?_
      exact q_J ((v10.2.getD x23.toNat default)==(((v5.2.1.getD x12.toNat default).getD (0:Int).toNat default).At)) hm
     ·refine q_du [qf 1 b26,qf 9 b27] [0,1,3,3,11,3,35,123,255,511,1023,1023,4095,8191,1023,1023,50175,115711,246783,508927,1033215,2097151,4194303,8388607,16777215] 7 [16,17,18] [(16,vb false)] [] [] ?_;exact q_J (false) hm
  ·refine q_ex 2 ?_;obtain rfl:=oi hm;exact wO (by kernel_rfl) (by kernel_rfl)
theorem qFa (E:Env 0) (a1:Rect) (a3:Saw) (v5:(List Span)×(List (List Node))×Bool) (v10:(List Int)×(List Int)):∀(n:Nat) (x12:Int) (res:Bool⊕Unit),jN a1 a3 v5 v10 n x12=some res->HL (kx E 117 0) (nd Tryz.f54 500) (wY 0 (λo=>qAK) (λv st=>RetQ Tryz.prog Tryz.f54 (AK v) (AL v) .ret st) res) n (FA a1 a3 v5 v10 x12):=by
 intro n
 induction n with
 |zero=>
  intro x12 res hm;cases hm
 |succ n ih=>
  intro x12 res hm;refine qM ?_;refine s_vu [] 6 [] [(50,vb (decide (x12<((v5.1.length:Nat):Int))))] [] [] ?_;refine q_sq ?_;refine q_cm hm (λb13 hm=>?_) (λb13 hm=>?_)
  ·refine q_sk ?_;refine q_sq ?_;refine q_bk 1 ?_;obtain⟨g14,hm⟩:=qI hm;refine s_vu [qd 1 (Dir.none) (inb_of g14),qd 2 (Dir.none) (toNat_lt (inb_of g14))] 6 [50] [(14,vi x12),(15,vp 6 0)] [] [(6,bx 31 [ci ((v5.1.getD x12.toNat default).A),ci ((v5.1.getD x12.toNat default).B)])] ?_;refine q_sq ?_;refine q_jn (ι:=Bool) (λp=>qAH a1 a3 v5 v10 x12 p) (λp=>PP v5 v10 x12 (jN a1 a3 v5 v10 n) p=some res) ?_ ?_
   ·rintro x20 hm;show H _ (qAH a1 a3 v5 v10 x12 x20) _ _;refine q_cm hm (λb21 hm=>?_) (λb21 hm=>?_)
    ·refine s_vn [] 7 ⟨[(8,vb false)],[]⟩ ?_;obtain rfl:=oi hm;refine q_rt ?_;refine zH false ?_;exact q_rm
    ·refine q_sk ?_;refine s_vu [] 7 [81] [(16,vb false)] [] [] ?_;refine q_sq ?_;refine s_vu [] 7 [] [(82,vo 4 0 1 v10.1.length),(83,vi ((v10.1.length:Nat):Int)),(84,vi 0)] [] [] ?_;obtain⟨o33,h34,hm⟩:=qB hm;refine zL (nd Tryz.f54 1025652) 2 (by kernel_rfl) FUEL (λo=>qAl a1 a3 v5 v10 x12 o) o33 (q_hl (NY a1 a3 v5 v10 x12 false 0) (qFA E a1 a3 v5 v10 x12 FUEL false 0 o33 h34)) ?_;refine s_vu [] 7 [16] [(115,vb (!o33))] [] [] ?_;refine q_cm hm (λb35 hm=>?_) (λb35 hm=>?_)
     ·refine s_vn [] 7 ⟨[(8,vb false)],[]⟩ ?_;obtain rfl:=oi hm;refine q_rt ?_;refine zH false ?_;exact q_rm
     ·refine q_sk ?_;refine q_vu [] 7 [49,115] [(49,vi (w64 (x12+1)))] [] [] ?_;exact q_hl (FA a1 a3 v5 v10 (w64 (x12+1))) (ih (w64 (x12+1)) _ hm)
   ·obtain⟨g15,hm⟩:=qI hm;rcases bif_c hm with⟨b16,hm⟩|⟨b16,hm⟩
    ·refine q_vu [qd 8 (Dir.none) (IL g15),qf 10 b16] 7 [] [(81,vb true)] [] [] ?_;exact q_J (true) hm
    ·obtain⟨g17,hm⟩:=qI hm;rcases bif_c hm with⟨b18,hm⟩|⟨b18,hm⟩
     ·refine q_vu [qd 8 (Dir.none) (IL g15),qf 10 b16,qd 13 (Dir.none) (inb_of g17),qd 14 (Dir.none) (toNat_lt (inb_of g17)),qf 18 b18] 7 [] [(81,vb true)] [] [] ?_;exact q_J (true) hm
     ·obtain⟨g19,hm⟩:=qI hm;refine q_vu [qd 8 (Dir.none) (IL g15),qf 10 b16,qd 13 (Dir.none) (inb_of g17),qd 14 (Dir.none) (toNat_lt (inb_of g17)),qf 18 b18,qd 21 (Dir.none) (inb_of g17),qd 22 (Dir.none) (toNat_lt (inb_of g17)),qd 23 (Dir.none) (inb_of g19)] 7 [] [(81,vb ((((v5.2.1.getD x12.toNat default).getD (0:Int).toNat default).Kind) !=1))] [] [] ?_;exact q_J ((((v5.2.1.getD x12.toNat default).getD (0:Int).toNat default).Kind) !=1) hm
  ·refine q_ex 0 ?_;obtain rfl:=oi hm;exact jI () (by kernel_rfl) (by kernel_rfl)
theorem qI9 (a1:Rect) (a2:List Product) (a3:Saw) (a4:List Node) (r:Bool) (hm:DE a1 a2 a3 a4=some r):CtX Tryz.prog globs 54 0 0 [.agg (qE a1),.one (tl qC default a2),.agg (qU a3),.one (tl e_Node default a4)] [] (AK r) (AL r):=by
 unfold DE at hm;refine q_E Tryz.f54 117 λE=>?_;refine s_vn [] 0 ⟨[(1,vc (tl qC default a2)),(3,vc (tl e_Node default a4)),(4,vp 0 0),(6,vp 1 0)],[(0,bx 33 (qE a1)),(1,bx 38 (qU a3))]⟩ ?_;obtain⟨v5,h6,hm⟩:=qB hm;refine s_vu [qk 4 [20,22,23] 2 ⟨[(20,va (qE a1)),(22,vi a3.Kerf),(23,vc (tl e_Node default a4))],[]⟩ (qGC a1 2 a3.Kerf a4 v5 h6)] 2 [3] [(9,vo 2 0 2 v5.1.length),(10,vo 3 0 1 v5.2.1.length),(11,vb v5.2.2)] [] [(2,ro 0 31 2 v5.1.length (rf e_Span v5.1)),(3,ro 0 44 1 v5.2.1.length (rf (qD e_Node) v5.2.1))] ?_;refine q_sq ?_
 refine q_jn (ι:=Bool) (λp=>qAM a1 a2 a3 v5 p) (λp=>GW a1 a2 a3 v5 p=some r) ?_ ?_
 ·rintro x8 hm;show H _ (qAM a1 a2 a3 v5 x8) _ _;refine q_cm hm (λb9 hm=>?_) (λb9 hm=>?_)
  ·refine s_vn [] 4 ⟨[(8,vb false)],[]⟩ ?_;obtain rfl:=oi hm;refine q_rt ?_;exact q_rm
  ·refine q_sk ?_;obtain⟨v10,h11,hm⟩:=qB hm;refine s_vu [qc 8 [36,43] 4 (qAe a2 (w64 (a1.Y.B-a1.Y.A)) v10 h11)] 4 [1,34] [(12,vo 4 0 1 v10.1.length),(13,vo 5 0 1 v10.2.length)] [] [(4,ro 0 3 1 v10.1.length (rf e_i64 v10.1)),(5,ro 0 3 1 v10.2.length (rf e_i64 v10.2))] ?_;refine q_sq ?_;refine s_vu [] 6 [9] [(47,vo 2 0 2 v5.1.length),(48,vi ((v5.1.length:Nat):Int)),(49,vi 0)] [] [] ?_;obtain⟨u38,h37,hm⟩:=qB hm
   refine zP (nd Tryz.f54 500) 0 (by kernel_rfl) FUEL (λo=>qAK) (λv st=>RetQ Tryz.prog Tryz.f54 (AK v) (AL v) .ret st) u38 (q_hl (FA a1 a3 v5 v10 0) (qFa E a1 a3 v5 v10 FUEL 0 u38 h37)) ?_ ?_
   ·rintro v39 rfl st hr;obtain rfl:=oi hm;exact hr
   ·rintro o36 rfl;replace hm:_=some r:=hm;refine s_vn [] 6 ⟨[(8,vb true)],[]⟩ ?_;obtain rfl:=oi hm;refine q_rt ?_;exact q_rm
 ·rcases bif_c hm with⟨b7,hm⟩|⟨b7,hm⟩
  ·refine q_vu [qf 2 b7] 4 [11] [(34,vb true)] [] [] ?_;exact q_J (true) hm
  ·refine q_vu [qf 2 b7] 4 [11] [(34,vb (((v5.1.length:Nat):Int)==0))] [] [] ?_;exact q_J (((v5.1.length:Nat):Int)==0) hm
def VZ (r:Int):V:=vi r
def VU (r:Int):List (Nat×(Nat×O)):=[]
def PU (a1:List Int) (a2:Int) (x3:Int):St:=
 ⟨[(0,vc (tl e_i64 default a1)),(1,vi a2),(7,vi ((a1.length:Nat):Int)),(8,vi x3)],[]⟩
def LB :St:=
 ⟨[],[]⟩
theorem qBT (E:Env 0) (a1:List Int) (a2:Int):∀(n:Nat) (x3:Int) (res:Int⊕Unit),yF a1 a2 n x3=some res->HL (kx E 19 0) (nd Tryz.f108 52) (wY 0 (λo=>LB) (λv st=>RetQ Tryz.prog Tryz.f108 (VZ v) (VU v) .ret st) res) n (PU a1 a2 x3):=by
 intro n
 induction n with
 |zero=>
  intro x3 res hm;cases hm
 |succ n ih=>
  intro x3 res hm;refine qM ?_;refine s_vu [] 0 [] [(9,vb (decide (x3<((a1.length:Nat):Int))))] [] [] ?_;refine q_sq ?_;refine q_cm hm (λb4 hm=>?_) (λb4 hm=>?_)
  ·refine q_sk ?_;refine q_sq ?_;refine q_bk 1 ?_;refine s_vu [] 0 [9] [(5,vi x3)] [] [] ?_;obtain⟨g5,hm⟩:=qI hm;refine s_vu [qd 3 (Dir.none) (inb_of g5)] 0 [] [(16,vb (a2==(a1.getD x3.toNat default)))] [] [] ?_;refine q_cm hm (λb6 hm=>?_) (λb6 hm=>?_)
   ·refine s_vn [] 0 ⟨[(4,vi x3)],[]⟩ ?_;obtain rfl:=oi hm;refine q_rt ?_;refine zH x3 ?_;exact q_rm
   ·refine q_sk ?_;refine q_vu [] 0 [5,8,16] [(8,vi (w64 (x3+1)))] [] [] ?_;exact q_hl (PU a1 a2 (w64 (x3+1))) (ih (w64 (x3+1)) _ hm)
  ·refine q_ex 0 ?_;obtain rfl:=oi hm;exact jI () (by kernel_rfl) (by kernel_rfl)
theorem qDT (a1:List Int) (a2:Int) (r:Int) (hm:RC a1 a2=some r):CtX Tryz.prog globs 108 0 0 [.one (tl e_i64 default a1),.one (ci a2)] [] (VZ r) (VU r):=by
 unfold RC at hm;refine q_E Tryz.f108 19 λE=>?_;refine s_vn [] 0 ⟨[(0,vc (tl e_i64 default a1)),(1,vi a2)],[]⟩ ?_;refine q_sq ?_;refine s_vu [] 0 [] [(7,vi ((a1.length:Nat):Int)),(8,vi 0)] [] [] ?_;obtain⟨u9,h8,hm⟩:=qB hm;refine zP (nd Tryz.f108 52) 0 (by kernel_rfl) FUEL (λo=>LB) (λv st=>RetQ Tryz.prog Tryz.f108 (VZ v) (VU v) .ret st) u9 (q_hl (PU a1 a2 0) (qBT E a1 a2 FUEL 0 u9 h8)) ?_ ?_
 ·rintro v10 rfl st hr;obtain rfl:=oi hm;exact hr
 ·rintro o7 rfl;replace hm:_=some r:=hm;refine s_vn [] 0 ⟨[(4,vi (-1))],[]⟩ ?_;obtain rfl:=oi hm;refine q_rt ?_;exact q_rm
def LC (r:Bool):V:=vb r
def JB (r:Bool):List (Nat×(Nat×O)):=[]
theorem qC6 (r:Bool):jW (JB r):=by
 intro i k o h;unfold JB at h;cases h
theorem qBU (a1:List Int) (a2:Int) (r:Bool) (hm:ZA a1 a2=some r):CtX Tryz.prog globs 53 0 0 [.one (tl e_i64 default a1),.one (ci a2)] [] (LC r) (JB r):=by
 unfold ZA at hm;refine q_E Tryz.f53 9 λE=>?_;refine s_vn [] 0 ⟨[(0,vc (tl e_i64 default a1)),(1,vi a2)],[]⟩ ?_;obtain⟨v3,h4,hm⟩:=qB hm;refine s_vn [qc 2 [5,6] 0 (qDT a1 a2 v3 h4)] 0 ⟨[(4,vb (decide (v3≥0)))],[]⟩ ?_;obtain rfl:=oi hm;refine q_rt ?_;exact q_rm
end Saw
end Go.SL

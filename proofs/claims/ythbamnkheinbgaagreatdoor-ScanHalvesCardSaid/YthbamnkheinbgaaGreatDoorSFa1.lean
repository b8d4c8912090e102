import Derived.Test.YthbamnkheinbgaaGreatDoorSBase
set_option linter.unusedVariables false
set_option linter.unusedSimpArgs false
namespace Go.SL
namespace Saw
open Go.Proofs Go.Proofs.Tryz
set_option maxHeartbeats 4000000
set_option maxRecDepth 100000
def qF5 (r:Bool):V:=vb r
def qFW (r:Bool):List (Nat×(Nat×O)):=[]
def qDv (x3:Bool):St:=
 ⟨[(2,vb x3)],[]⟩
theorem qED (a1:Span) (r:Bool) (hm:YX a1=some r):CtX Tryz.prog globs 117 0 0 [.agg (qG a1)] [] (qF5 r) (qFW r):=by
 unfold YX at hm;refine q_E f117 17 λE=>?_;refine s_vn [] 0 ⟨[(1,vp 0 0)],[(0,bx 64 (qG a1))]⟩ (q_jn (qDv) (λp=>YN p=some r) ?_ ?_)
 ·rintro x3 hm;obtain rfl:=oi hm;exact q_rt q_rm
 ·rcases bif_c hm with⟨b2,hm⟩|⟨b2,hm⟩
  ·exact q_vn [qf 6 b2] 1 ⟨[(2,vb (decide ((imax a1.A a1.B)<=600)))],[]⟩ (q_J (decide ((imax a1.A a1.B)<=600)) hm)
  ·exact q_vn [qf 6 b2] 1 ⟨[(2,vb false)],[]⟩ (q_J (false) hm)
def qFP (r:Bool):V:=vb r
def qFL (r:Bool):List (Nat×(Nat×O)):=[]
theorem wG (a1:Span) (r:Bool) (hm:wT a1=some r):CtX Tryz.prog globs 118 0 0 [.agg (qG a1)] [] (qFP r) (qFL r):=by
 unfold wT at hm;refine q_E f118 8 λE=>?_;refine s_vn [] 0 ⟨[(1,vp 0 0)],[(0,bx 64 (qG a1))]⟩ (s_vn [] 1 ⟨[(2,vb (decide (a1.A≥a1.B)))],[]⟩ ?_);obtain rfl:=oi hm;exact q_rt q_rm
def YS (r:Int):V:=vi r
def YM (r:Int):List (Nat×(Nat×O)):=[]
def VA (a1:qB) (x6:Int):St:=
 ⟨[(1,vp 0 0),(3,vi (a1.Rows.length:Int)),(24,vc (tl qG dd a1.Rows)),(25,vi (a1.Rows.length:Int)),(26,vi x6)],[(0,bx 48 (qL a1))]⟩
def IA (a1:qB):St:=
 ⟨[(1,vp 0 0),(3,vi (a1.Rows.length:Int))],[(0,bx 48 (qL a1))]⟩
def qEB (a1:qB) (x27:Int) (x33:Bool):St:=
 ⟨[(54,vc (tl qG dd a1.Rows)),(55,vi (a1.Rows.length:Int)),(56,vi x27),(66,vb x33)],[]⟩
def VE (a1:qB) (x27:Int):St:=
 ⟨[(54,vc (tl qG dd a1.Rows)),(55,vi (a1.Rows.length:Int)),(56,vi x27)],[]⟩
def AQ :St:=
 ⟨[],[]⟩
def qES (a1:qB) (x25:Bool):St:=
 ⟨[(1,vp 0 0),(52,vb x25)],[(0,bx 48 (qL a1))]⟩
def qEy (a1:qB) (x4:Bool):St:=
 ⟨[(1,vp 0 0),(3,vi (a1.Rows.length:Int)),(22,vb x4)],[(0,bx 48 (qL a1))]⟩
theorem qEa (E:Env 0) (a1:qB):∀(n:Nat) (x6:Int) (res:Int⊕Unit),jV a1 n x6=some res->HL (kx E 68 0) (nd f62 500) (jS 0 (λo=>IA a1) (λv st=>RetQ Tryz.prog f62 (YS v) (YM v) .ret st) res) n (VA a1 x6):=by
 intro n
 induction n with
 |zero=>
  intro x6 res hm;cases hm
 |succ n ih=>
  intro x6 res hm;refine qS (s_va 1 [(27,vb (decide (x6<(a1.Rows.length:Int))))] ?_);refine q_sq (q_cq hm (λhm=>?_) (λhm=>?_))
  ·refine q_sk (q_sq ?_);refine q_bk 1 ?_;obtain⟨g8,hm⟩:=qK hm;refine s_vu [qi 0 g8] 1 [27] [(5,vp 1 0)] [] [(1,bx 64 (qG (a1.Rows.getD x6.toNat dd)))] ?_;obtain⟨v9,h10,hm⟩:=qE hm;refine s_vu [qc 1 [30] 2 (qED (a1.Rows.getD x6.toNat dd) v9 h10)] 2 [5] [(32,vb (!v9))] [1] [] (q_cq hm (λhm=>?_) (λhm=>?_))
   ·refine s_vn [] 2 ⟨[(2,vi 9)],[]⟩ ?_;obtain rfl:=oi hm;refine q_rt (zZ 9 ?_);exact q_rm
   ·refine q_sk (q_vv [] 2 [26,32] [(26,vi (w64 (x6+1)))] ?_);exact q_hl (VA a1 (w64 (x6+1))) (ih (w64 (x6+1)) _ hm)
  ·refine q_ex 0 ?_;obtain rfl:=oi hm;exact q_l1 ()
theorem qD6 (E:Env 0) (a1:qB):∀(n:Nat) (x27:Int) (res:Int⊕Unit),wY a1 n x27=some res->HL (kx E 68 0) (nd f62 4084) (jS 2 (λo=>AQ) (λv st=>RetQ Tryz.prog f62 (YS v) (YM v) .ret st) res) n (VE a1 x27):=by
 intro n
 induction n with
 |zero=>
  intro x27 res hm;cases hm
 |succ n ih=>
  intro x27 res hm;refine qS (s_va 1 [(57,vb (decide (x27<(a1.Rows.length:Int))))] ?_);refine q_sq (q_cq hm (λhm=>?_) (λhm=>?_))
  ·refine q_sk (q_sq ?_);refine q_bk 3 ?_;obtain⟨g29,hm⟩:=qK hm;refine s_vu [qi 0 g29] 1 [57] [(7,vp 1 0)] [] [(1,bx 64 (qG (a1.Rows.getD x27.toNat dd)))] (q_jn (qEB a1 x27) (λp=>PK x27 (wY a1 n) p=some res) ?_ ?_)
   ·rintro x33 hm;refine q_cq hm (λhm=>?_) (λhm=>?_)
    ·refine s_vn [] 2 ⟨[(2,vi 19)],[]⟩ ?_;obtain rfl:=oi hm;refine q_rt (zZ 19 ?_);exact q_rm
    ·refine q_sk (q_vv [] 2 [56,66] [(56,vi (w64 (x27+1)))] ?_);exact q_hl (VE a1 (w64 (x27+1))) (ih (w64 (x27+1)) _ hm)
   ·obtain⟨v30,h31,hm⟩:=qE hm;rcases bif_c hm with⟨b32,hm⟩|⟨b32,hm⟩
    ·exact q_vu [qc 1 [60] 2 (wG (a1.Rows.getD x27.toNat dd) v30 h31),qf 2 b32] 2 [7] [(66,vb (!((((a1.Rows.getD x27.toNat dd).A)==0)&&((((a1.Rows.getD x27.toNat dd).B)==0)&&true))))] [1] [] (q_J (!((((a1.Rows.getD x27.toNat dd).A)==0)&&((((a1.Rows.getD x27.toNat dd).B)==0)&&true))) hm)
    ·exact q_vu [qc 1 [60] 2 (wG (a1.Rows.getD x27.toNat dd) v30 h31),qf 2 b32] 2 [7] [(66,vb false)] [1] [] (q_J (false) hm)
  ·refine q_ex 2 ?_;obtain rfl:=oi hm;exact q_l1 ()
theorem CH (a1:qB) (r:Int) (hm:YK a1=some r):CtX Tryz.prog globs 62 0 0 [.agg (qL a1)] [] (YS r) (YM r):=by
 unfold YK at hm;refine q_E f62 68 λE=>?_;refine s_vn [] 0 ⟨[(1,vp 0 0)],[(0,bx 48 (qL a1))]⟩ (s_va 1 [(3,vi (a1.Rows.length:Int))] ?_);refine q_sq (s_va 1 [(12,vb (decide ((a1.Rows.length:Int)>120)))] ?_);refine q_cq hm (λhm=>?_) (λhm=>?_)
 ·refine s_vn [] 1 ⟨[(2,vi 4)],[]⟩ ?_;obtain rfl:=oi hm;exact q_rt q_rm
 ·refine q_sk (q_sq ?_);refine q_jn (qEy a1) (λp=>PV a1 p=some r) ?_ ?_
  ·rintro x4 hm;refine q_cq hm (λhm=>?_) (λhm=>?_)
   ·refine s_vn [] 1 ⟨[(2,vi 9)],[]⟩ ?_;obtain rfl:=oi hm;exact q_rt q_rm
   ·refine q_sk (q_sq ?_);refine s_vv [] 1 [22] [(24,vc (tl qG dd a1.Rows)),(25,vi (a1.Rows.length:Int)),(26,vi 0)] ?_;obtain⟨u14,h13,hm⟩:=qE hm;refine wJ (nd f62 500) 0 (by kernel_rfl) FUEL (λo=>IA a1) (λv st=>RetQ Tryz.prog f62 (YS v) (YM v) .ret st) u14 (q_hl (VA a1 0) (qEa E a1 FUEL 0 u14 h13)) ?_ ?_
    ·rintro v15 rfl st hr;obtain rfl:=oi hm;exact hr
    ·rintro o12 rfl;replace hm:_=some r:=hm;refine q_sq (s_va 1 [(35,vb ((a1.Rows.length:Int)==0))] ?_);refine q_cq hm (λhm=>?_) (λhm=>?_)
     ·refine q_sq (s_vn [] 1 ⟨[(38,vb (a1.Low !=0))],[]⟩ ?_);refine q_cq hm (λhm=>?_) (λhm=>?_)
      ·refine s_vn [] 1 ⟨[(2,vi 19)],[]⟩ ?_;obtain rfl:=oi hm;exact q_rt q_rm
      ·refine q_sk (s_vn [] 1 ⟨[(2,vi 0)],[]⟩ ?_);obtain rfl:=oi hm;exact q_rt q_rm
     ·refine q_sk (q_sq ?_);refine q_jn (qES a1) (λp=>PF a1 p=some r) ?_ ?_
      ·rintro x25 hm;refine q_cq hm (λhm=>?_) (λhm=>?_)
       ·refine s_vn [] 1 ⟨[(2,vi 19)],[]⟩ ?_;obtain rfl:=oi hm;exact q_rt q_rm
       ·refine q_sk (q_sq ?_);refine s_vn [] 1 ⟨[(54,vc (tl qG dd a1.Rows)),(55,vi (a1.Rows.length:Int)),(56,vi 0)],[]⟩ ?_;obtain⟨u37,h36,hm⟩:=qE hm;refine wJ (nd f62 4084) 2 (by kernel_rfl) FUEL (λo=>AQ) (λv st=>RetQ Tryz.prog f62 (YS v) (YM v) .ret st) u37 (q_hl (VE a1 0) (qD6 E a1 FUEL 0 u37 h36)) ?_ ?_
        ·rintro v38 rfl st hr;obtain rfl:=oi hm;exact hr
        ·rintro o35 rfl;replace hm:_=some r:=hm;refine s_vn [] 1 ⟨[(2,vi 0)],[]⟩ ?_;obtain rfl:=oi hm;exact q_rt q_rm
      ·obtain⟨g18,hm⟩:=qK hm;obtain⟨v19,h20,hm⟩:=qE hm;rcases bif_c hm with⟨b21,hm⟩|⟨b21,hm⟩
       ·exact q_vv [qi 2 g18,qc 4 [42] 1 (wG (a1.Rows.getD (0:Int).toNat dd) v19 h20),qf 5 b21] 1 [3,35] [(52,vb true)] (q_J (true) hm)
       ·obtain⟨g22,hm⟩:=qK hm;obtain⟨v23,h24,hm⟩:=qE hm;exact q_vv [qi 2 g18,qc 4 [42] 1 (wG (a1.Rows.getD (0:Int).toNat dd) v19 h20),qf 5 b21,qi 10 g22,qk 12 [44,50] 1 ⟨[(44,vb false),(50,va [ci ((a1.Rows.getD (w64 ((a1.Rows.length:Int)-1)).toNat dd).A),ci ((a1.Rows.getD (w64 ((a1.Rows.length:Int)-1)).toNat dd).B)])],[]⟩ (wG (a1.Rows.getD (w64 ((a1.Rows.length:Int)-1)).toNat dd) v23 h24)] 1 [3,35] [(52,vb v23)] (q_J (v23) hm)
  ·rcases bif_c hm with⟨b3,hm⟩|⟨b3,hm⟩
   ·exact q_vv [qf 3 b3] 1 [12] [(22,vb true)] (q_J (true) hm)
   ·exact q_vv [qf 3 b3] 1 [12] [(22,vb (decide (a1.Low>(w64 (60-(a1.Rows.length:Int))))))] (q_J (decide (a1.Low>(w64 (60-(a1.Rows.length:Int))))) hm)
open Go.Proofs Go.Proofs.Tryz
def qIt (r:qB):V:=va (qL r)
def qHz (r:qB):List (Nat×(Nat×O)):=[]
theorem jY (a1:qB) (r:qB) (hm:wF a1=some r):CtX Tryz.prog globs 78 0 0 [.agg (qL a1)] [] (qIt r) (qHz r):=by
 unfold wF at hm;refine q_E f78 8 λE=>?_;refine s_vn [] 0 ⟨[(1,vp 0 0),(2,vp 1 0)],[(0,bx 48 (qL a1)),(1,bx 48 [ci 0,.emp])]⟩ (q_sq ?_);obtain⟨v2,h3,hm⟩:=qE hm;refine s_vv [qc 1 [3] 2 (CH a1 v2 h3)] 2 [] [(5,vb (v2 !=0))] (q_cq hm (λhm=>?_) (λhm=>?_))
 ·refine s_vu [] 2 [1,5] [] [0] [] (q_fu [.ownB 1 1 2 64 2 (rf qG [])] [] [] [1] [(1,bx 48 [ci 0,.own 2 0 2 0]),(2,ro 0 64 2 0 (rf qG []))] o0 ?_);refine q_fu [.len 2 (([]:List Span).length),.frz 2] [] [] [1,2] [(1,bx 48 [ci 0,tl qG dd ([]:List Span)])] (o1 (And.intro (And.intro (show 0=([]:List Span).length from rfl) (show 0=([]:List Span).length from rfl)) (kr (([]:List Span).length)))) ?_;obtain rfl:=oi hm;exact q_rt q_rm
 ·refine q_sk (s_vn [] 2 ⟨[(2,vp 1 0)],[(1,bx 48 (qL a1))]⟩ ?_);obtain rfl:=oi hm;exact q_rt q_rm
def qMt (r:Span):V:=va (qG r)
def qLP (r:Span):List (Nat×(Nat×O)):=[]
def qIP (a1:qB) (a2:Int) (x4:Bool):St:=
 ⟨[(1,vi a2),(2,vp 0 0),(4,vp 1 0),(18,vb x4)],[(0,bx 48 (qL a1)),(1,bx 64 [ci 0,ci 0])]⟩
theorem DS (a1:qB) (a2:Int) (r:Span) (hm:YO a1 a2=some r):CtX Tryz.prog globs 82 0 0 [.agg (qL a1),.one (ci a2)] [] (qMt r) (qLP r):=by
 unfold YO at hm;refine q_E f82 28 λE=>?_;refine s_vn [] 0 ⟨[(1,vi a2),(2,vp 0 0),(4,vp 1 0)],[(0,bx 48 (qL a1)),(1,bx 64 [ci 0,ci 0])]⟩ (q_sq ?_);refine q_jn (qIP a1 a2) (λp=>DX a1 a2 p=some r) ?_ ?_
 ·rintro x4 hm;refine q_cq hm (λhm=>?_) (λhm=>?_)
  ·refine s_vu [] 2 [1,2,18] [] [0] [] ?_;obtain rfl:=oi hm;exact q_rt q_rm
  ·refine q_sk ?_;obtain⟨g6,hm⟩:=qK hm;refine s_vn [qi 6 g6] 2 ⟨[(4,vp 1 0)],[(1,bx 64 (qG (a1.Rows.getD (w64 (a2-a1.Low)).toNat dd)))]⟩ ?_;obtain rfl:=oi hm;exact q_rt q_rm
 ·rcases bif_c hm with⟨b3,hm⟩|⟨b3,hm⟩
  ·exact q_vv [qf 4 b3] 2 [] [(18,vb true)] (q_J (true) hm)
  ·exact q_vv [qf 4 b3] 2 [] [(18,vb (decide (a2≥(w64 (a1.Low+(a1.Rows.length:Int))))))] (q_J (decide (a2≥(w64 (a1.Low+(a1.Rows.length:Int))))) hm)
def AM (a1:Int) (a2:qB) (r:Span):V:=va (qG r)
def AI (a1:Int) (a2:qB) (r:Span):List (Nat×(Nat×O)):=[(0,bx 48 (qL a2))]
theorem qD8 (a1:Int) (a2:qB) (r:Span) (hm:JG a1 a2=some r):CtX Tryz.prog globs 83 1 1 [.one (ci a1),.one (.bptr 0 0 0)] [(0,bx 48 (qL a2))] (AM a1 a2 r) (AI a1 a2 r):=by
 unfold JG at hm;refine q_E f83 15 λE=>?_;refine s_vn [] 1 ⟨[(0,vi a1),(1,vp 0 0),(3,vp 1 0)],[(0,bx 48 (qL a2)),(1,bx 64 [ci 0,ci 0])]⟩ ?_;obtain⟨v3,h4,hm⟩:=qE hm;refine s_vu [qc 2 [5,6] 2 (DS a2 a1 v3 h4)] 2 [0,1] [(4,vp 2 0)] [] [(2,bx 64 (qG v3))] (s_vu [] 3 [4] [] [1,2] [(1,bx 64 [ci (w64 (0-v3.B)),ci (w64 (0-v3.A))])] ?_);obtain rfl:=oi hm;exact q_rt q_rm
open Go.Proofs Go.Proofs.Tryz
def EZ (a1:qB) (r:qB):V:=va [ci r.Low,.own 1 0 2 r.Rows.length]
def ER (a1:qB) (r:qB):List (Nat×(Nat×O)):=[(0,bx 48 (qL a1)),(1,ro 0 64 2 r.Rows.length (rf qG r.Rows))]
def JS (a1:qB) (x3:Int):St:=
 ⟨[(0,vc (.fn 83 [.bptr 0 0 0])),(2,vp 1 0),(3,vp 2 0),(5,vi x3)],[(0,bx 48 (qL a1)),(1,bx 48 [ci 0,.emp])]⟩
def NL (a1:qB) (x3:Int) (x17:Int) (x18:Int) (l19:List Span) (l19n:Nat):St:=
 (JS a1 x3).up [] [(4,vi x17)] [] [(2,bx 48 [ci x18,.own 3 0 2 l19n]),(3,ro 0 64 2 l19n (rf qG l19))]
def qCr (a1:qB) (x3:Int) (l5:List Span) (v7:Span) (x13:Int):St:=
 (JS a1 x3).up [] [(6,vp 4 0)] [] [(2,bx 48 [ci x13,.own 3 0 2 l5.length]),(3,ro 0 64 2 l5.length (rf qG l5)),(4,bx 64 (qG v7))]
def KE (a1:qB) (x2:Int) (x3:Int) (x4:Int) (l5:List Span) (l5n:Nat):St:=
 (JS a1 x3).up [] [(4,vi x2)] [] [(2,bx 48 [ci x4,.own 3 0 2 l5n]),(3,ro 0 64 2 l5n (rf qG l5))]
def FC (a1:qB) (x20:Int) (x21:Int) (l22:List Span):St:=
 ⟨[(2,vp 1 0),(3,vp 2 0),(4,vi x20)],[(0,bx 48 (qL a1)),(1,bx 48 [ci 0,.emp]),(2,bx 48 [ci x21,.own 3 0 2 l22.length]),(3,ro 0 64 2 l22.length (rf qG l22))]⟩
theorem qBS (E:Env 1) (a1:qB):∀(n:Nat) (x2:Int) (x3:Int) (x4:Int) (l5:List Span) (l5n:Nat) (res:Int×Int×(List Span)),l5.length=l5n->zN a1 n x2 x3 x4 l5=some res->HL (kx E 46 1) (nd f80 244) (zS 0 (λo=>FC a1 o.1 o.2.1 o.2.2) res) n (KE a1 x2 x3 x4 l5 l5n):=by
 intro n
 induction n with
 |zero=>
  intro x2 x3 x4 l5 l5n res hl0 hm;cases hm
 |succ n ih=>
  intro x2 x3 x4 l5 l5n res hl0 hm;subst hl0;refine qS (q_sq ?_);refine s_va 4 [(8,vb (decide (x3<60)))] (q_cq hm (λhm=>?_) (λhm=>?_))
  ·refine q_sk (q_jn (ι:=Int×Int×(List Span)×Nat) (λp=>NL a1 x3 p.1 p.2.1 p.2.2.1 p.2.2.2) (λp=>p.2.2.1.length=p.2.2.2/\QN x3 (zN a1 n) p.1 p.2.1 p.2.2.1=some res) ?_ ?_)
   ·rintro⟨x17,x18,l19,l19n⟩ ⟨el19,hm⟩;replace el19:l19.length=l19n:=el19;subst el19;show H _ (NL a1 x3 x17 x18 l19 l19.length) _ _;exact q_vv [] 6 [5] [(5,vi (w64 (x3+1)))] (q_hl (KE a1 x17 (w64 (x3+1)) x18 l19 l19.length) (ih x17 (w64 (x3+1)) x18 l19 l19.length _ rfl hm))
   ·refine q_bk 1 ?_;obtain⟨v7,h8,hm⟩:=qE hm;refine s_vu [qd 2 (dex (cen [(0,0)] [0] 3 1 (AM x3 a1 v7) (AI x3 a1 v7) [11,12] [0])) (zK (K:=(kx E 46 1)) ⟨[(11,vc (.fn 83 [.bptr 0 0 0])),(12,vi x3)],[(0,bx 48 (qL a1))]⟩ (opAt (rg f80 3912) 2) [(0,0)] [0] 3 o0 rfl (qD8 x3 a1 v7 h8) (.inl rfl) (by kernel_rfl))] 4 [8] [(6,vp 4 0)] [] [(4,bx 64 (qG v7))] (q_bk 2 ?_);obtain⟨v9,h10,hm⟩:=qE hm;refine s_vv [qc 1 [15] 5 (wG v7 v9 h10)] 5 [] [(14,vb (!v9))] (q_cq hm (λhm=>?_) (λhm=>?_))
    ·refine q_jn (qCr a1 x3 l5 v7) (λp=>JO x3 l5 (zN a1 n) v7 p=some res) ?_ ?_
     ·rintro x13 hm;obtain⟨g14,hm⟩:=qK hm;refine s_vu [qd 3 (drw 5 0 (rf qG [v7])) (litP qG dd 2 (λ_=>rfl) ([v7]:List Span) 1 rfl),qd 4 (drw 3 1 (rf qG (l5++[v7]))) (apP qG dd l5 ([v7]:List Span) l5.length 1 2 16 (1<=1) (kr _) rfl rfl (λ_=>rfl) (zW g14))] 5 [6] [] [2,3,4] [(2,bx 48 [ci x13,.own 3 1 2 (l5.length+1)]),(3,ro 1 64 2 (l5.length+1) (rf qG (l5++[v7])))] (q_va 6 [(4,vi (((l5.length+1):Nat):Int))] ?_);exact q_J ((((l5.length+1):Nat):Int),x13,(l5++[v7]),(l5.length+1)) ⟨(wN rfl rfl),hm⟩
     ·refine s_vv [] 5 [4,14] [(19,vb (x2==0))] (q_cq hm (λhm=>?_) (λhm=>?_))
      ·exact q_vu [] 5 [19] [] [2] [(2,bx 48 [ci x3,.own 3 0 2 l5.length])] (q_J (x3) hm)
      ·exact q_sk (q_J (x4) hm)
    ·refine s_vu [] 5 [6,14] [(31,vb (decide (x2>0)))] [4] [] (q_cq hm (λhm=>?_) (λhm=>?_))
     ·obtain⟨g16,hm⟩:=qK hm;exact q_vu [qd 3 (drw 5 0 (rf qG [(Span.mk 0 0)])) (litP qG dd 2 (λ_=>rfl) ([(Span.mk 0 0)]:List Span) 1 rfl),qd 4 (drw 3 1 (rf qG (l5++[(Span.mk 0 0)]))) (apP qG dd l5 ([(Span.mk 0 0)]:List Span) l5.length 1 2 16 (1<=1) (kr _) rfl rfl (λ_=>rfl) (zW g16))] 5 [31] [] [2,3] [(2,bx 48 [ci x4,.own 3 1 2 (l5.length+1)]),(3,ro 1 64 2 (l5.length+1) (rf qG (l5++[(Span.mk 0 0)])))] (q_J (x2,x4,(l5++[(Span.mk 0 0)]),(l5.length+1)) ⟨(wN rfl rfl),hm⟩)
     ·exact q_sk (q_J (x2,x4,l5,l5.length) ⟨rfl,hm⟩)
  ·refine q_ex 0 ?_;obtain rfl:=oi hm;exact q_l0
theorem qD5 (a1:qB) (r:qB) (hm:JA a1=some r):CtX Tryz.prog globs 80 1 1 [.one (.fn 83 [.bptr 0 0 0])] [(0,bx 48 (qL a1))] (EZ a1 r) (ER a1 r):=by
 unfold JA at hm;refine q_E f80 46 λE=>?_;refine s_vn [] 1 ⟨[(0,vc (.fn 83 [.bptr 0 0 0])),(2,vp 1 0)],[(0,bx 48 (qL a1)),(1,bx 48 [ci 0,.emp])]⟩ (s_vu [] 2 [] [(3,vp 2 0)] [] [(2,bx 48 [ci 0,.emp])] ?_);refine s_va 3 [(4,vi 0)] (q_sq ?_);refine s_va 3 [(5,vi (-60))] (q_fu [.ownB 2 1 3 64 2 (rf qG [])] [] [] [2] [(2,bx 48 [ci 0,.own 3 0 2 0]),(3,ro 0 64 2 0 (rf qG []))] o0 ?_);obtain⟨o23,h24,hm⟩:=qE hm;refine zL (nd f80 244) 0 (by kernel_rfl) FUEL (λo=>FC a1 o.1 o.2.1 o.2.2) o23 (q_hl (KE a1 0 (-60) 0 ([]:List Span) 0) (qBS E a1 FUEL 0 (-60) 0 ([]:List Span) 0 o23 rfl h24)) ?_
 obtain⟨g25,hm⟩:=qK hm;refine s_wu [qd 3 dN (And.intro (qZ g25).2.1 (qZ g25).2.2)] [.row 3 o23.1.toNat (rf qG (o23.2.2.take o23.1.toNat))] (o1 (tkP qG dd o23.2.2 o23.2.2.length o23.1.toNat (show o23.1.toNat<=o23.2.2.length by have:=(qZ g25);omega))) 4 [4] [] [2,3] [(2,bx 48 [ci o23.2.1,.own 3 0 2 o23.1.toNat]),(3,ro 0 64 2 o23.1.toNat (rf qG (o23.2.2.take o23.1.toNat)))] (s_vu [] 4 [3] [] [1,2] [(1,bx 48 [ci o23.2.1,.own 3 0 2 o23.1.toNat])] ?_)
 refine q_fu [.len 3 ((o23.2.2.take o23.1.toNat).length)] [] [] [1,3] [(1,bx 48 [ci o23.2.1,.own 3 0 2 ((o23.2.2.take o23.1.toNat).length)]),(3,ro 0 64 2 ((o23.2.2.take o23.1.toNat).length) (rf qG (o23.2.2.take o23.1.toNat)))] (o1 (And.intro (Eq.symm (show(o23.2.2.take o23.1.toNat).length=o23.1.toNat from(ZA rfl (show o23.1.toNat<=o23.2.2.length by have:=(qZ g25);omega)))) (Eq.symm (show(o23.2.2.take o23.1.toNat).length=o23.1.toNat from(ZA rfl (show o23.1.toNat<=o23.2.2.length by have:=(qZ g25);omega)))))) ?_;obtain rfl:=oi hm;exact q_sw 3 1 (q_rt q_rm)
def qGy (r:qB):V:=va [ci r.Low,.own 0 0 2 r.Rows.length]
def qHh (r:qB):List (Nat×(Nat×O)):=[(0,ro 0 64 2 r.Rows.length (rf qG r.Rows))]
theorem qFY (a1:qB) (r:qB) (hm:KU a1=some r):CtX Tryz.prog globs 37 0 0 [.agg (qL a1)] [] (qGy r) (qHh r):=by
 unfold KU at hm;refine q_E f37 7 λE=>?_;refine s_vn [] 0 ⟨[(1,vp 0 0),(2,vp 1 0)],[(0,bx 48 (qL a1)),(1,bx 48 [ci 0,.emp])]⟩ ?_;obtain⟨v2,h3,hm⟩:=qE hm;refine s_vu [qc 1 [3] 2 (jY a1 v2 h3)] 2 [] [] [0] [(0,bx 48 (qL v2))] ?_;obtain⟨v4,h5,hm⟩:=qE hm
 refine s_vu [qd 1 (dex (cen [(0,0)] [0] 1 1 (EZ v2 v4) (ER v2 v4) [5] [0])) (zK (K:=(kx E 7 0)) ⟨[(5,vc (.fn 83 [.bptr 0 0 0]))],[(0,bx 48 (qL v2))]⟩ (opAt (rg f37 14) 1) [(0,0)] [0] 1 o0 rfl (qD5 v2 v4 h5) (.inl rfl) (by kernel_rfl))] 2 [1] [] [0,1] [(1,bx 48 [ci v4.Low,.own 2 0 2 v4.Rows.length]),(2,ro 0 64 2 v4.Rows.length (rf qG v4.Rows))] ?_;obtain rfl:=oi hm;exact q_sw 2 0 (q_rt q_rm)
def qAg (a1:Int) (a2:qB) (r:Span):V:=va (qG r)
def qAt (a1:Int) (a2:qB) (r:Span):List (Nat×(Nat×O)):=[(0,bx 48 (qL a2))]
theorem qF0 (a1:Int) (a2:qB) (r:Span) (hm:PA a1 a2=some r):CtX Tryz.prog globs 81 1 1 [.one (ci a1),.one (.bptr 0 0 0)] [(0,bx 48 (qL a2))] (qAg a1 a2 r) (qAt a1 a2 r):=by
 unfold PA at hm;refine q_E f81 9 λE=>?_;refine s_vn [] 1 ⟨[(0,vi a1),(1,vp 0 0),(3,vp 1 0)],[(0,bx 48 (qL a2)),(1,bx 64 [ci 0,ci 0])]⟩ ?_;obtain⟨v3,h4,hm⟩:=qE hm;refine s_vu [qc 4 [4,7] 2 (DS a2 (w64 ((w64 (0-a1))-1)) v3 h4)] 2 [0,1] [] [1] [(1,bx 64 (qG v3))] ?_;obtain rfl:=oi hm;exact q_rt q_rm
open Go.Proofs Go.Proofs.Tryz
def AX (a1:qB) (r:qB):V:=va [ci r.Low,.own 1 0 2 r.Rows.length]
def AW (a1:qB) (r:qB):List (Nat×(Nat×O)):=[(0,bx 48 (qL a1)),(1,ro 0 64 2 r.Rows.length (rf qG r.Rows))]
def JX (a1:qB) (x3:Int):St:=
 ⟨[(0,vc (.fn 81 [.bptr 0 0 0])),(2,vp 1 0),(3,vp 2 0),(5,vi x3)],[(0,bx 48 (qL a1)),(1,bx 48 [ci 0,.emp])]⟩
def NT (a1:qB) (x3:Int) (x17:Int) (x18:Int) (l19:List Span) (l19n:Nat):St:=
 (JX a1 x3).up [] [(4,vi x17)] [] [(2,bx 48 [ci x18,.own 3 0 2 l19n]),(3,ro 0 64 2 l19n (rf qG l19))]
def qCX (a1:qB) (x3:Int) (l5:List Span) (v7:Span) (x13:Int):St:=
 (JX a1 x3).up [] [(6,vp 4 0)] [] [(2,bx 48 [ci x13,.own 3 0 2 l5.length]),(3,ro 0 64 2 l5.length (rf qG l5)),(4,bx 64 (qG v7))]
def XT (a1:qB) (x2:Int) (x3:Int) (x4:Int) (l5:List Span) (l5n:Nat):St:=
 (JX a1 x3).up [] [(4,vi x2)] [] [(2,bx 48 [ci x4,.own 3 0 2 l5n]),(3,ro 0 64 2 l5n (rf qG l5))]
def FA (a1:qB) (x20:Int) (x21:Int) (l22:List Span):St:=
 ⟨[(2,vp 1 0),(3,vp 2 0),(4,vi x20)],[(0,bx 48 (qL a1)),(1,bx 48 [ci 0,.emp]),(2,bx 48 [ci x21,.own 3 0 2 l22.length]),(3,ro 0 64 2 l22.length (rf qG l22))]⟩
theorem qB8 (E:Env 1) (a1:qB):∀(n:Nat) (x2:Int) (x3:Int) (x4:Int) (l5:List Span) (l5n:Nat) (res:Int×Int×(List Span)),l5.length=l5n->zQ a1 n x2 x3 x4 l5=some res->HL (kx E 46 1) (nd f80 244) (zS 0 (λo=>FA a1 o.1 o.2.1 o.2.2) res) n (XT a1 x2 x3 x4 l5 l5n):=by
 intro n
 induction n with
 |zero=>
  intro x2 x3 x4 l5 l5n res hl0 hm;cases hm
 |succ n ih=>
  intro x2 x3 x4 l5 l5n res hl0 hm;subst hl0;refine qS (q_sq ?_);refine s_va 4 [(8,vb (decide (x3<60)))] (q_cq hm (λhm=>?_) (λhm=>?_))
  ·refine q_sk (q_jn (ι:=Int×Int×(List Span)×Nat) (λp=>NT a1 x3 p.1 p.2.1 p.2.2.1 p.2.2.2) (λp=>p.2.2.1.length=p.2.2.2/\QK x3 (zQ a1 n) p.1 p.2.1 p.2.2.1=some res) ?_ ?_)
   ·rintro⟨x17,x18,l19,l19n⟩ ⟨el19,hm⟩;replace el19:l19.length=l19n:=el19;subst el19;show H _ (NT a1 x3 x17 x18 l19 l19.length) _ _;exact q_vv [] 6 [5] [(5,vi (w64 (x3+1)))] (q_hl (XT a1 x17 (w64 (x3+1)) x18 l19 l19.length) (ih x17 (w64 (x3+1)) x18 l19 l19.length _ rfl hm))
   ·refine q_bk 1 ?_;obtain⟨v7,h8,hm⟩:=qE hm;refine s_vu [qd 2 (dex (cen [(0,0)] [0] 3 1 (qAg x3 a1 v7) (qAt x3 a1 v7) [11,12] [0])) (zK (K:=(kx E 46 1)) ⟨[(11,vc (.fn 81 [.bptr 0 0 0])),(12,vi x3)],[(0,bx 48 (qL a1))]⟩ (opAt (rg f80 3912) 2) [(0,0)] [0] 3 o0 rfl (qF0 x3 a1 v7 h8) (.inl rfl) (by kernel_rfl))] 4 [8] [(6,vp 4 0)] [] [(4,bx 64 (qG v7))] (q_bk 2 ?_);obtain⟨v9,h10,hm⟩:=qE hm;refine s_vv [qc 1 [15] 5 (wG v7 v9 h10)] 5 [] [(14,vb (!v9))] (q_cq hm (λhm=>?_) (λhm=>?_))
    ·refine q_jn (qCX a1 x3 l5 v7) (λp=>JM x3 l5 (zQ a1 n) v7 p=some res) ?_ ?_
     ·rintro x13 hm;obtain⟨g14,hm⟩:=qK hm;refine s_vu [qd 3 (drw 5 0 (rf qG [v7])) (litP qG dd 2 (λ_=>rfl) ([v7]:List Span) 1 rfl),qd 4 (drw 3 1 (rf qG (l5++[v7]))) (apP qG dd l5 ([v7]:List Span) l5.length 1 2 16 (1<=1) (kr _) rfl rfl (λ_=>rfl) (zW g14))] 5 [6] [] [2,3,4] [(2,bx 48 [ci x13,.own 3 1 2 (l5.length+1)]),(3,ro 1 64 2 (l5.length+1) (rf qG (l5++[v7])))] (q_va 6 [(4,vi (((l5.length+1):Nat):Int))] ?_);exact q_J ((((l5.length+1):Nat):Int),x13,(l5++[v7]),(l5.length+1)) ⟨(wN rfl rfl),hm⟩
     ·refine s_vv [] 5 [4,14] [(19,vb (x2==0))] (q_cq hm (λhm=>?_) (λhm=>?_))
      ·exact q_vu [] 5 [19] [] [2] [(2,bx 48 [ci x3,.own 3 0 2 l5.length])] (q_J (x3) hm)
      ·exact q_sk (q_J (x4) hm)
    ·refine s_vu [] 5 [6,14] [(31,vb (decide (x2>0)))] [4] [] (q_cq hm (λhm=>?_) (λhm=>?_))
     ·obtain⟨g16,hm⟩:=qK hm;exact q_vu [qd 3 (drw 5 0 (rf qG [(Span.mk 0 0)])) (litP qG dd 2 (λ_=>rfl) ([(Span.mk 0 0)]:List Span) 1 rfl),qd 4 (drw 3 1 (rf qG (l5++[(Span.mk 0 0)]))) (apP qG dd l5 ([(Span.mk 0 0)]:List Span) l5.length 1 2 16 (1<=1) (kr _) rfl rfl (λ_=>rfl) (zW g16))] 5 [31] [] [2,3] [(2,bx 48 [ci x4,.own 3 1 2 (l5.length+1)]),(3,ro 1 64 2 (l5.length+1) (rf qG (l5++[(Span.mk 0 0)])))] (q_J (x2,x4,(l5++[(Span.mk 0 0)]),(l5.length+1)) ⟨(wN rfl rfl),hm⟩)
     ·exact q_sk (q_J (x2,x4,l5,l5.length) ⟨rfl,hm⟩)
  ·refine q_ex 0 ?_;obtain rfl:=oi hm;exact q_l0
theorem qEi (a1:qB) (r:qB) (hm:WW a1=some r):CtX Tryz.prog globs 80 1 1 [.one (.fn 81 [.bptr 0 0 0])] [(0,bx 48 (qL a1))] (AX a1 r) (AW a1 r):=by
 unfold WW at hm;refine q_E f80 46 λE=>?_;refine s_vn [] 1 ⟨[(0,vc (.fn 81 [.bptr 0 0 0])),(2,vp 1 0)],[(0,bx 48 (qL a1)),(1,bx 48 [ci 0,.emp])]⟩ (s_vu [] 2 [] [(3,vp 2 0)] [] [(2,bx 48 [ci 0,.emp])] ?_);refine s_va 3 [(4,vi 0)] (q_sq ?_);refine s_va 3 [(5,vi (-60))] (q_fu [.ownB 2 1 3 64 2 (rf qG [])] [] [] [2] [(2,bx 48 [ci 0,.own 3 0 2 0]),(3,ro 0 64 2 0 (rf qG []))] o0 ?_);obtain⟨o23,h24,hm⟩:=qE hm;refine zL (nd f80 244) 0 (by kernel_rfl) FUEL (λo=>FA a1 o.1 o.2.1 o.2.2) o23 (q_hl (XT a1 0 (-60) 0 ([]:List Span) 0) (qB8 E a1 FUEL 0 (-60) 0 ([]:List Span) 0 o23 rfl h24)) ?_
 obtain⟨g25,hm⟩:=qK hm;refine s_wu [qd 3 dN (And.intro (qZ g25).2.1 (qZ g25).2.2)] [.row 3 o23.1.toNat (rf qG (o23.2.2.take o23.1.toNat))] (o1 (tkP qG dd o23.2.2 o23.2.2.length o23.1.toNat (show o23.1.toNat<=o23.2.2.length by have:=(qZ g25);omega))) 4 [4] [] [2,3] [(2,bx 48 [ci o23.2.1,.own 3 0 2 o23.1.toNat]),(3,ro 0 64 2 o23.1.toNat (rf qG (o23.2.2.take o23.1.toNat)))] (s_vu [] 4 [3] [] [1,2] [(1,bx 48 [ci o23.2.1,.own 3 0 2 o23.1.toNat])] ?_)
 refine q_fu [.len 3 ((o23.2.2.take o23.1.toNat).length)] [] [] [1,3] [(1,bx 48 [ci o23.2.1,.own 3 0 2 ((o23.2.2.take o23.1.toNat).length)]),(3,ro 0 64 2 ((o23.2.2.take o23.1.toNat).length) (rf qG (o23.2.2.take o23.1.toNat)))] (o1 (And.intro (Eq.symm (show(o23.2.2.take o23.1.toNat).length=o23.1.toNat from(ZA rfl (show o23.1.toNat<=o23.2.2.length by have:=(qZ g25);omega)))) (Eq.symm (show(o23.2.2.take o23.1.toNat).length=o23.1.toNat from(ZA rfl (show o23.1.toNat<=o23.2.2.length by have:=(qZ g25);omega)))))) ?_;obtain rfl:=oi hm;exact q_sw 3 1 (q_rt q_rm)
def qCl (r:qB):V:=va [ci r.Low,.own 0 0 2 r.Rows.length]
def VN (r:qB):List (Nat×(Nat×O)):=[(0,ro 0 64 2 r.Rows.length (rf qG r.Rows))]
theorem qIY (r:qB):QM (VN r):=by
 intro i k o h;unfold VN at h;rw[look_cons] at h;split at h
 ·cases h;exact λ_ _=>rfl
 ·cases h
theorem qIB (a1:qB) (r:qB) (hm:UO a1=some r):CtX Tryz.prog globs 36 0 0 [.agg (qL a1)] [] (qCl r) (VN r):=by
 unfold UO at hm;refine q_E f36 7 λE=>?_;refine s_vn [] 0 ⟨[(1,vp 0 0),(2,vp 1 0)],[(0,bx 48 (qL a1)),(1,bx 48 [ci 0,.emp])]⟩ ?_;obtain⟨v2,h3,hm⟩:=qE hm;refine s_vu [qc 1 [3] 2 (jY a1 v2 h3)] 2 [] [] [0] [(0,bx 48 (qL v2))] ?_;obtain⟨v4,h5,hm⟩:=qE hm
 refine s_vu [qd 1 (dex (cen [(0,0)] [0] 1 1 (AX v2 v4) (AW v2 v4) [5] [0])) (zK (K:=(kx E 7 0)) ⟨[(5,vc (.fn 81 [.bptr 0 0 0]))],[(0,bx 48 (qL v2))]⟩ (opAt (rg f36 14) 1) [(0,0)] [0] 1 o0 rfl (qEi v2 v4 h5) (.inl rfl) (by kernel_rfl))] 2 [1] [] [0,1] [(1,bx 48 [ci v4.Low,.own 2 0 2 v4.Rows.length]),(2,ro 0 64 2 v4.Rows.length (rf qG v4.Rows))] ?_;obtain rfl:=oi hm;exact q_sw 2 0 (q_rt q_rm)
def PO (r:Bool):V:=vb r
def PT (r:Bool):List (Nat×(Nat×O)):=[]
def JW (a1:List Span) (a2:List Span) (x4:Int):St:=
 ⟨[(0,vc (tl qG dd a1)),(1,vc (tl qG dd a2)),(12,vi (a1.length:Int)),(13,vi x4)],[]⟩
def GQ :St:=
 ⟨[],[]⟩
theorem CJ (E:Env 0) (a1:List Span) (a2:List Span):∀(n:Nat) (x4:Int) (res:Bool⊕Unit),wP a1 a2 n x4=some res->HL (kx E 26 0) (nd f79 116) (jS 0 (λo=>GQ) (λv st=>RetQ Tryz.prog f79 (PO v) (PT v) .ret st) res) n (JW a1 a2 x4):=by
 intro n
 induction n with
 |zero=>
  intro x4 res hm;cases hm
 |succ n ih=>
  intro x4 res hm;refine qS (s_va 0 [(14,vb (decide (x4<(a1.length:Int))))] ?_);refine q_sq (q_cq hm (λhm=>?_) (λhm=>?_))
  ·refine q_sk (q_sq ?_);refine q_bk 1 (s_vv [] 0 [14] [(5,vi x4)] ?_);obtain⟨g6,hm⟩:=qK hm;obtain⟨g7,hm⟩:=qK hm;refine s_du [qi 2 g6,qi 6 g7] [0,0,3,7,0,0,48,112,255] 0 [5] [(24,vb (!((((a1.getD x4.toNat dd).A)==((a2.getD x4.toNat dd).A))&&((((a1.getD x4.toNat dd).B)==((a2.getD x4.toNat dd).B))&&true))))] [] [] (q_cq hm (λhm=>?_) (λhm=>?_))
   ·refine s_vn [] 0 ⟨[(4,vb false)],[]⟩ ?_;obtain rfl:=oi hm;refine q_rt (zZ false ?_);exact q_rm
   ·refine q_sk (q_vv [] 0 [13,24] [(13,vi (w64 (x4+1)))] ?_);exact q_hl (JW a1 a2 (w64 (x4+1))) (ih (w64 (x4+1)) _ hm)
  ·refine q_ex 0 ?_;obtain rfl:=oi hm;exact q_l1 ()
theorem qCn (a1:List Span) (a2:List Span) (r:Bool) (hm:ZG a1 a2=some r):CtX Tryz.prog globs 79 0 0 [.one (tl qG dd a1),.one (tl qG dd a2)] [] (PO r) (PT r):=by
 unfold ZG at hm;refine q_E f79 26 λE=>?_;refine s_vn [] 0 ⟨[(0,vc (tl qG dd a1)),(1,vc (tl qG dd a2))],[]⟩ (q_sq ?_);refine s_va 0 [(10,vb ((a1.length:Int) !=(a2.length:Int)))] (q_cq hm (λhm=>?_) (λhm=>?_))
 ·refine s_vn [] 0 ⟨[(4,vb false)],[]⟩ ?_;obtain rfl:=oi hm;exact q_rt q_rm
 ·refine q_sk (q_sq ?_);refine s_vv [] 0 [10] [(12,vi (a1.length:Int)),(13,vi 0)] ?_;obtain⟨u11,h10,hm⟩:=qE hm;refine wJ (nd f79 116) 0 (by kernel_rfl) FUEL (λo=>GQ) (λv st=>RetQ Tryz.prog f79 (PO v) (PT v) .ret st) u11 (q_hl (JW a1 a2 0) (CJ E a1 a2 FUEL 0 u11 h10)) ?_ ?_
  ·rintro v12 rfl st hr;obtain rfl:=oi hm;exact hr
  ·rintro o9 rfl;replace hm:_=some r:=hm;refine s_vn [] 0 ⟨[(4,vb true)],[]⟩ ?_;obtain rfl:=oi hm;exact q_rt q_rm
open Go.Proofs Go.Proofs.Tryz
def qA0 (r:Bool):V:=vb r
def TM (r:Bool):List (Nat×(Nat×O)):=[]
theorem qIo (r:Bool):QM (TM r):=by
 intro i k o h;unfold TM at h;cases h
def qEu (x10:Bool):St:=
 ⟨[(4,vb x10)],[]⟩
theorem qGF (a1:qB) (a2:qB) (r:Bool) (hm:PY a1 a2=some r):CtX Tryz.prog globs 35 0 0 [.agg (qL a1),.agg (qL a2)] [] (qA0 r) (TM r):=by
 unfold PY at hm;refine q_E f35 21 λE=>?_;refine s_vn [] 0 ⟨[(2,vp 0 0),(3,vp 1 0)],[(0,bx 48 (qL a1)),(1,bx 48 (qL a2))]⟩ ?_;obtain⟨v3,h4,hm⟩:=qE hm;obtain⟨v5,h6,hm⟩:=qE hm;refine s_du [qc 1 [5] 2 (jY a1 v3 h4),qc 3 [7] 2 (jY a2 v5 h6)] [0,1,0,7,15,31] 2 [] [] [0,1] [(0,bx 48 (qL v3)),(1,bx 48 (qL v5))] (q_jn (qEu) (λp=>PW p=some r) ?_ ?_)
 ·rintro x10 hm;obtain rfl:=oi hm;exact q_rt q_rm
 ·rcases bif_c hm with⟨b7,hm⟩|⟨b7,hm⟩
  ·obtain⟨v8,h9,hm⟩:=qE hm;exact q_vn [qf 5 b7,qk 10 [14,16,18] 2 ⟨[(14,vb true),(16,vc (tl qG dd v3.Rows)),(18,vc (tl qG dd v5.Rows))],[]⟩ (qCn v3.Rows v5.Rows v8 h9)] 2 ⟨[(4,vb v8)],[]⟩ (q_J (v8) hm)
  ·exact q_vn [qf 5 b7] 2 ⟨[(4,vb false)],[]⟩ (q_J (false) hm)
def qKz (r:Bool):V:=vb r
def qKX (r:Bool):List (Nat×(Nat×O)):=[]
def qHa (x3:Bool):St:=
 ⟨[(2,vb x3)],[]⟩
theorem SG (a1:Int) (r:Bool) (hm:TA a1=some r):CtX Tryz.prog globs 84 0 0 [.one (ci a1)] [] (qKz r) (qKX r):=by
 unfold TA at hm;refine q_E f84 9 λE=>?_;refine s_vn [] 0 ⟨[(0,vi a1)],[]⟩ (q_jn (qHa) (λp=>VO p=some r) ?_ ?_)
 ·rintro x3 hm;obtain rfl:=oi hm;exact q_rt q_rm
 ·rcases bif_c hm with⟨b2,hm⟩|⟨b2,hm⟩
  ·exact q_vn [qf 2 b2] 0 ⟨[(2,vb (decide (a1<=600)))],[]⟩ (q_J (decide (a1<=600)) hm)
  ·exact q_vn [qf 2 b2] 0 ⟨[(2,vb false)],[]⟩ (q_J (false) hm)
def CT (r:Int):V:=vi r
def CS (r:Int):List (Nat×(Nat×O)):=[]
def qIw (a1:Ring) (x7:Int) (x19:Bool):St:=
 ⟨[(22,vc (tl qH dd a1.Read)),(23,vi (a1.Read.length:Int)),(24,vi x7),(52,vb x19)],[]⟩
def qHs (a1:Ring) (x7:Int) (x16:Bool):St:=
 ⟨[(4,vp 1 0),(22,vc (tl qH dd a1.Read)),(23,vi (a1.Read.length:Int)),(24,vi x7),(43,vb x16)],[(1,bx 73 (qH (a1.Read.getD x7.toNat dd)))]⟩
def LO (a1:Ring) (x7:Int):St:=
 ⟨[(22,vc (tl qH dd a1.Read)),(23,vi (a1.Read.length:Int)),(24,vi x7)],[]⟩
def qBz :St:=
 ⟨[],[]⟩
def qIs (a1:Ring) (x5:Bool):St:=
 ⟨[(1,vp 0 0),(20,vb x5)],[(0,bx 45 (qM a1))]⟩
theorem qG6 (E:Env 0) (a1:Ring):∀(n:Nat) (x7:Int) (res:Int⊕Unit),jJ a1 n x7=some res->HL (kx E 54 0) (nd f38 500) (jS 0 (λo=>qBz) (λv st=>RetQ Tryz.prog f38 (CT v) (CS v) .ret st) res) n (LO a1 x7):=by
 intro n
 induction n with
 |zero=>
  intro x7 res hm;cases hm
 |succ n ih=>
  intro x7 res hm;refine qS (s_va 1 [(25,vb (decide (x7<(a1.Read.length:Int))))] ?_);refine q_sq (q_cq hm (λhm=>?_) (λhm=>?_))
  ·refine q_sk (q_sq ?_);refine q_bk 1 ?_;obtain⟨g9,hm⟩:=qK hm;refine s_vu [qi 0 g9] 1 [25] [(4,vp 1 0)] [] [(1,bx 73 (qH (a1.Read.getD x7.toNat dd)))] (q_sq ?_);refine q_jn (qHs a1 x7) (λp=>RL a1 x7 (jJ a1 n) p=some res) ?_ ?_
   ·rintro x16 hm;refine q_cq hm (λhm=>?_) (λhm=>?_)
    ·refine s_vn [] 2 ⟨[(2,vi 9)],[]⟩ ?_;obtain rfl:=oi hm;refine q_rt (zZ 9 ?_);exact q_rm
    ·refine q_sk (q_jn (qIw a1 x7) (λp=>BA x7 (jJ a1 n) p=some res) ?_ ?_)
     ·rintro x19 hm;refine q_cq hm (λhm=>?_) (λhm=>?_)
      ·refine s_vn [] 2 ⟨[(2,vi 19)],[]⟩ ?_;obtain rfl:=oi hm;refine q_rt (zZ 19 ?_);exact q_rm
      ·refine q_sk (q_vv [] 2 [24,52] [(24,vi (w64 (x7+1)))] ?_);exact q_hl (LO a1 (w64 (x7+1))) (ih (w64 (x7+1)) _ hm)
     ·rcases bif_c hm with⟨b18,hm⟩|⟨b18,hm⟩
      ·exact q_vu [qf 3 b18] 2 [4,43] [(52,vb (!(((((a1.Read.getD x7.toNat dd).P).X)==0)&&(((((a1.Read.getD x7.toNat dd).P).Y)==0)&&true))))] [1] [] (q_J (!(((((a1.Read.getD x7.toNat dd).P).X)==0)&&(((((a1.Read.getD x7.toNat dd).P).Y)==0)&&true))) hm)
      ·exact q_vu [qf 3 b18] 2 [4,43] [(52,vb false)] [1] [] (q_J (false) hm)
   ·rcases bif_c hm with⟨b10,hm⟩|⟨b10,hm⟩
    ·obtain⟨v11,h12,hm⟩:=qE hm;rcases bif_c hm with⟨b13,hm⟩|⟨b13,hm⟩
     ·exact q_vv [qf 2 b10,qk 6 [30,33] 2 ⟨[(30,vb true),(33,vi (((a1.Read.getD x7.toNat dd).P).X))],[]⟩ (SG (((a1.Read.getD x7.toNat dd).P).X) v11 h12),qf 8 b13] 2 [] [(43,vb true)] (q_J (true) hm)
     ·obtain⟨v14,h15,hm⟩:=qE hm;exact q_vv [qf 2 b10,qk 6 [30,33] 2 ⟨[(30,vb true),(33,vi (((a1.Read.getD x7.toNat dd).P).X))],[]⟩ (SG (((a1.Read.getD x7.toNat dd).P).X) v11 h12),qf 8 b13,qk 12 [36,39] 2 ⟨[(36,vb false),(39,vi (((a1.Read.getD x7.toNat dd).P).Y))],[]⟩ (SG (((a1.Read.getD x7.toNat dd).P).Y) v14 h15)] 2 [] [(43,vb (!v14))] (q_J (!v14) hm)
    ·exact q_vv [qf 2 b10] 2 [] [(43,vb false)] (q_J (false) hm)
  ·refine q_ex 0 ?_;obtain rfl:=oi hm;exact q_l1 ()
theorem DV (a1:Ring) (r:Int) (hm:XD a1=some r):CtX Tryz.prog globs 38 0 0 [.agg (qM a1)] [] (CT r) (CS r):=by
 unfold XD at hm;refine q_E f38 54 λE=>?_;refine s_vn [] 0 ⟨[(1,vp 0 0)],[(0,bx 45 (qM a1))]⟩ (q_sq ?_);refine s_va 1 [(8,vb (decide ((a1.Read.length:Int)<8)))] (q_cq hm (λhm=>?_) (λhm=>?_))
 ·refine s_vn [] 1 ⟨[(2,vi 3)],[]⟩ ?_;obtain rfl:=oi hm;exact q_rt q_rm
 ·refine q_sk (q_sq ?_);refine s_vv [] 1 [8] [(12,vb (decide ((a1.Read.length:Int)>32)))] (q_cq hm (λhm=>?_) (λhm=>?_))
  ·refine s_vn [] 1 ⟨[(2,vi 4)],[]⟩ ?_;obtain rfl:=oi hm;exact q_rt q_rm
  ·refine q_sk (q_sq ?_);refine q_jn (qIs a1) (λp=>BB a1 p=some r) ?_ ?_
   ·rintro x5 hm;refine q_cq hm (λhm=>?_) (λhm=>?_)
    ·refine s_vn [] 1 ⟨[(2,vi 9)],[]⟩ ?_;obtain rfl:=oi hm;exact q_rt q_rm
    ·refine q_sk (q_sq ?_);refine s_vn [] 1 ⟨[(22,vc (tl qH dd a1.Read)),(23,vi (a1.Read.length:Int)),(24,vi 0)],[]⟩ ?_;obtain⟨u23,h22,hm⟩:=qE hm;refine wJ (nd f38 500) 0 (by kernel_rfl) FUEL (λo=>qBz) (λv st=>RetQ Tryz.prog f38 (CT v) (CS v) .ret st) u23 (q_hl (LO a1 0) (qG6 E a1 FUEL 0 u23 h22)) ?_ ?_
     ·rintro v24 rfl st hr;obtain rfl:=oi hm;exact hr
     ·rintro o21 rfl;replace hm:_=some r:=hm;refine s_vn [] 1 ⟨[(2,vi 0)],[]⟩ ?_;obtain rfl:=oi hm;exact q_rt q_rm
   ·rcases bif_c hm with⟨b4,hm⟩|⟨b4,hm⟩
    ·exact q_vv [qf 3 b4] 1 [12] [(20,vb true)] (q_J (true) hm)
    ·exact q_vv [qf 3 b4] 1 [12] [(20,vb (decide (a1.Z>20000)))] (q_J (decide (a1.Z>20000)) hm)
open Go.Proofs Go.Proofs.Tryz
def qIa (r:Bool):V:=vb r
def qHE (r:Bool):List (Nat×(Nat×O)):=[]
def qEw (x5:Bool):St:=
 ⟨[(6,vb x5)],[]⟩
theorem QQ (a1:Span) (a2:Int) (a3:Int) (r:Bool) (hm:ZZ a1 a2 a3=some r):CtX Tryz.prog globs 142 0 0 [.agg (qG a1),.one (ci a2),.one (ci a3)] [] (qIa r) (qHE r):=by
 unfold ZZ at hm;refine q_E f142 23 λE=>?_;refine s_vn [] 0 ⟨[(1,vi a2),(2,vi a3),(3,vp 0 0)],[(0,bx 64 (qG a1))]⟩ (q_jn (qEw) (λp=>PJ p=some r) ?_ ?_)
 ·rintro x5 hm;obtain rfl:=oi hm;exact q_rt q_rm
 ·rcases bif_c hm with⟨b4,hm⟩|⟨b4,hm⟩
  ·exact q_vn [qf 7 b4] 1 ⟨[(6,vb (decide ((imax a1.A a1.B)<=a3)))],[]⟩ (q_J (decide ((imax a1.A a1.B)<=a3)) hm)
  ·exact q_vn [qf 7 b4] 1 ⟨[(6,vb false)],[]⟩ (q_J (false) hm)
def qG3 (r:Bool):V:=vb r
def qHf (r:Bool):List (Nat×(Nat×O)):=[]
theorem yY (a1:Span) (r:Bool) (hm:WR a1=some r):CtX Tryz.prog globs 141 0 0 [.agg (qG a1)] [] (qG3 r) (qHf r):=by
 unfold WR at hm;refine q_E f141 8 λE=>?_;refine s_vn [] 0 ⟨[(1,vp 0 0)],[(0,bx 64 (qG a1))]⟩ (s_vn [] 1 ⟨[(2,vb (decide (a1.A≥a1.B)))],[]⟩ ?_);obtain rfl:=oi hm;exact q_rt q_rm
def qI8 (r:Int):V:=vi r
def qJI (r:Int):List (Nat×(Nat×O)):=[]
def qF2 (x23:Bool):St:=
 ⟨[(29,vb x23)],[]⟩
def qFM (a1:qF) (x13:Bool):St:=
 ⟨[(3,vp 1 0),(15,vb x13)],[(1,bx 66 (qIj a1.Box))]⟩
def qFS (a1:qF) (x3:Bool):St:=
 ⟨[(3,vp 1 0),(6,vb x3)],[(1,bx 66 (qIj a1.Box))]⟩
theorem qHD (a1:qF) (r:Int) (hm:VJ a1=some r):CtX Tryz.prog globs 85 0 0 [.agg (qJ a1)] [] (qI8 r) (qJI r):=by
 unfold VJ at hm;refine q_E f85 46 λE=>?_;refine s_vn [] 0 ⟨[(1,vp 0 0)],[(0,bx 68 (qJ a1))]⟩ (s_vu [] 1 [] [(3,vp 1 0)] [] [(1,bx 66 (qIj a1.Box))] ?_);refine q_sq (q_bk 0 ?_);refine q_jn (qFS a1) (λp=>TZ a1 p=some r) ?_ ?_
 ·rintro x3 hm;refine q_cq hm (λhm=>?_) (λhm=>?_)
  ·refine s_vn [] 2 ⟨[(2,vi 10)],[]⟩ ?_;obtain rfl:=oi hm;exact q_rt q_rm
  ·refine q_jn (qFM a1) (λp=>XE a1 p=some r) ?_ ?_
   ·rintro x13 hm;refine q_cq hm (λhm=>?_) (λhm=>?_)
    ·refine s_vn [] 2 ⟨[(2,vi 19)],[]⟩ ?_;obtain rfl:=oi hm;exact q_rt q_rm
    ·refine q_jn (qF2) (λp=>XA p=some r) ?_ ?_
     ·rintro x23 hm;refine q_cq hm (λhm=>?_) (λhm=>?_)
      ·refine s_vn [] 2 ⟨[(2,vi 9)],[]⟩ ?_;obtain rfl:=oi hm;exact q_rt q_rm
      ·refine q_sk (s_vn [] 2 ⟨[(2,vi 0)],[]⟩ ?_);obtain rfl:=oi hm;exact q_rt q_rm
     ·obtain⟨v15,h16,hm⟩:=qE hm;rcases bif_c hm with⟨b17,hm⟩|⟨b17,hm⟩
      ·exact q_vn [qk 2 [31] 2 ⟨[(31,va (qG a1.Box.X))],[]⟩ (QQ a1.Box.X (-600) 600 v15 h16),qf 4 b17] 2 ⟨[(29,vb true)],[]⟩ (q_J (true) hm)
      ·obtain⟨v18,h19,hm⟩:=qE hm;rcases bif_c hm with⟨b20,hm⟩|⟨b20,hm⟩
       ·exact q_vn [qk 2 [31] 2 ⟨[(31,va (qG a1.Box.X))],[]⟩ (QQ a1.Box.X (-600) 600 v15 h16),qf 4 b17,qk 7 [34,36] 2 ⟨[(34,vb false),(36,va (qG a1.Box.Y))],[]⟩ (QQ a1.Box.Y (-600) 600 v18 h19),qf 10 b20] 2 ⟨[(29,vb true)],[]⟩ (q_J (true) hm)
       ·obtain⟨v21,h22,hm⟩:=qE hm;exact q_vn [qk 2 [31] 2 ⟨[(31,va (qG a1.Box.X))],[]⟩ (QQ a1.Box.X (-600) 600 v15 h16),qf 4 b17,qk 7 [34,36] 2 ⟨[(34,vb false),(36,va (qG a1.Box.Y))],[]⟩ (QQ a1.Box.Y (-600) 600 v18 h19),qf 10 b20,qk 13 [40,42] 2 ⟨[(40,vb false),(42,va (qG a1.Box.Z))],[]⟩ (QQ a1.Box.Z 0 20000 v21 h22)] 2 ⟨[(29,vb (!v21))],[]⟩ (q_J (!v21) hm)
   ·obtain⟨v5,h6,hm⟩:=qE hm;rcases bif_c hm with⟨b7,hm⟩|⟨b7,hm⟩
    ·exact q_vv [qc 2 [17] 2 (yY a1.Box.X v5 h6),qf 3 b7] 2 [6] [(15,vb true)] (q_J (true) hm)
    ·obtain⟨v8,h9,hm⟩:=qE hm;rcases bif_c hm with⟨b10,hm⟩|⟨b10,hm⟩
     ·exact q_vv [qc 2 [17] 2 (yY a1.Box.X v5 h6),qf 3 b7,qk 6 [19,21] 2 ⟨[(19,vb false),(21,va (qG a1.Box.Y))],[]⟩ (yY a1.Box.Y v8 h9),qf 8 b10] 2 [6] [(15,vb true)] (q_J (true) hm)
     ·obtain⟨v11,h12,hm⟩:=qE hm;exact q_vv [qc 2 [17] 2 (yY a1.Box.X v5 h6),qf 3 b7,qk 6 [19,21] 2 ⟨[(19,vb false),(21,va (qG a1.Box.Y))],[]⟩ (yY a1.Box.Y v8 h9),qf 8 b10,qk 11 [24,26] 2 ⟨[(24,vb false),(26,va (qG a1.Box.Z))],[]⟩ (yY a1.Box.Z v11 h12)] 2 [6] [(15,vb v11)] (q_J (v11) hm)
 ·rcases bif_c hm with⟨b2,hm⟩|⟨b2,hm⟩
  ·exact q_vu [qf 3 b2] 2 [1] [(6,vb true)] [0] [] (q_J (true) hm)
  ·exact q_vu [qf 3 b2] 2 [1] [(6,vb (decide (a1.Kind>6)))] [0] [] (q_J (decide (a1.Kind>6)) hm)
end Saw
end Go.SL

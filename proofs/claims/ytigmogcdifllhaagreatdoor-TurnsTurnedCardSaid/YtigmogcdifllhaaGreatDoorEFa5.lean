import Derived.Test.YtigmogcdifllhaaGreatDoorEBase
import Derived.Test.YtigmogcdifllhaaGreatDoorEFa4
import Derived.Test.YtigmogcdifllhaaGreatDoorEFa1
set_option linter.unusedVariables false
set_option linter.unusedSimpArgs false
namespace Go.SL
namespace Saw
open Go.Proofs Go.Proofs.Tryz
set_option maxHeartbeats 4000000
set_option maxRecDepth 100000
def TS (r:Int):V:=vi r
def UP (r:Int):List (Nat×(Nat×O)):=[]
def LH (a1:qH) (x6:Int):St:=
 ⟨[(1,vp 0 0),(3,vi (a1.Rows.length:Int)),(24,vc (tl qK dd a1.Rows)),(25,vi (a1.Rows.length:Int)),(26,vi x6)],[(0,bx 78 (qZ a1))]⟩
def qDd (a1:qH):St:=
 ⟨[(1,vp 0 0),(3,vi (a1.Rows.length:Int))],[(0,bx 78 (qZ a1))]⟩
def qK7 (a1:qH) (x27:Int) (x33:Bool):St:=
 ⟨[(54,vc (tl qK dd a1.Rows)),(55,vi (a1.Rows.length:Int)),(56,vi x27),(66,vb x33)],[]⟩
def MK (a1:qH) (x27:Int):St:=
 ⟨[(54,vc (tl qK dd a1.Rows)),(55,vi (a1.Rows.length:Int)),(56,vi x27)],[]⟩
def qC5 :St:=
 ⟨[],[]⟩
def qK8 (a1:qH) (x25:Bool):St:=
 ⟨[(1,vp 0 0),(52,vb x25)],[(0,bx 78 (qZ a1))]⟩
def qKp (a1:qH) (x4:Bool):St:=
 ⟨[(1,vp 0 0),(3,vi (a1.Rows.length:Int)),(22,vb x4)],[(0,bx 78 (qZ a1))]⟩
theorem qJz (E:Env 0) (a1:qH):∀(n:Nat) (x6:Int) (res:Int⊕Unit),ZX a1 n x6=some res->HL (kx E 68 0) (nd f155 500) (wL 0 (λo=>qDd a1) (λv st=>RetQ Tryz.prog f155 (TS v) (UP v) .ret st) res) n (LH a1 x6):=by
 intro n
 induction n with
 |zero=>
  intro x6 res hm;cases hm
 |succ n ih=>
  intro x6 res hm;refine qS (s_va 1 [(27,vb (decide (x6<(a1.Rows.length:Int))))] ?_);refine q_sq (q_cq hm (λhm=>?_) (λhm=>?_))
  ·refine q_sk (q_sq ?_);refine q_bk 1 ?_;obtain⟨g8,hm⟩:=qJ hm;refine s_vu [qi 0 g8] 1 [27] [(5,vp 1 0)] [] [(1,bx 53 (qK (a1.Rows.getD x6.toNat dd)))] ?_;obtain⟨v9,h10,hm⟩:=qC hm;refine s_vu [qc 1 [30] 2 (qKi (a1.Rows.getD x6.toNat dd) v9 h10)] 2 [5] [(32,vb (!v9))] [1] [] (q_cq hm (λhm=>?_) (λhm=>?_))
   ·refine s_vn [] 2 ⟨[(2,vi 9)],[]⟩ ?_;obtain rfl:=oi hm;refine q_rt (zJ 9 ?_);exact q_rm
   ·refine q_sk (q_vv [] 2 [26,32] [(26,vi (w64 (x6+1)))] ?_);exact q_hl (LH a1 (w64 (x6+1))) (ih (w64 (x6+1)) _ hm)
  ·refine q_ex 0 ?_;obtain rfl:=oi hm;exact q_l1 ()
theorem qJN (E:Env 0) (a1:qH):∀(n:Nat) (x27:Int) (res:Int⊕Unit),yH a1 n x27=some res->HL (kx E 68 0) (nd f155 4084) (wL 2 (λo=>qC5) (λv st=>RetQ Tryz.prog f155 (TS v) (UP v) .ret st) res) n (MK a1 x27):=by
 intro n
 induction n with
 |zero=>
  intro x27 res hm;cases hm
 |succ n ih=>
  intro x27 res hm;refine qS (s_va 1 [(57,vb (decide (x27<(a1.Rows.length:Int))))] ?_);refine q_sq (q_cq hm (λhm=>?_) (λhm=>?_))
  ·refine q_sk (q_sq ?_);refine q_bk 3 ?_;obtain⟨g29,hm⟩:=qJ hm;refine s_vu [qi 0 g29] 1 [57] [(7,vp 1 0)] [] [(1,bx 53 (qK (a1.Rows.getD x27.toNat dd)))] (q_jn (qK7 a1 x27) (λp=>DS x27 (yH a1 n) p=some res) ?_ ?_)
   ·rintro x33 hm;refine q_cq hm (λhm=>?_) (λhm=>?_)
    ·refine s_vn [] 2 ⟨[(2,vi 19)],[]⟩ ?_;obtain rfl:=oi hm;refine q_rt (zJ 19 ?_);exact q_rm
    ·refine q_sk (q_vv [] 2 [56,66] [(56,vi (w64 (x27+1)))] ?_);exact q_hl (MK a1 (w64 (x27+1))) (ih (w64 (x27+1)) _ hm)
   ·obtain⟨v30,h31,hm⟩:=qC hm;rcases bif_c hm with⟨b32,hm⟩|⟨b32,hm⟩
    ·exact q_vu [qc 1 [60] 2 (jZ (a1.Rows.getD x27.toNat dd) v30 h31),qf 2 b32] 2 [7] [(66,vb (!((((a1.Rows.getD x27.toNat dd).A)==0)&&((((a1.Rows.getD x27.toNat dd).B)==0)&&true))))] [1] [] (q_J (!((((a1.Rows.getD x27.toNat dd).A)==0)&&((((a1.Rows.getD x27.toNat dd).B)==0)&&true))) hm)
    ·exact q_vu [qc 1 [60] 2 (jZ (a1.Rows.getD x27.toNat dd) v30 h31),qf 2 b32] 2 [7] [(66,vb false)] [1] [] (q_J (false) hm)
  ·refine q_ex 2 ?_;obtain rfl:=oi hm;exact q_l1 ()
theorem qEJ (a1:qH) (r:Int) (hm:XZ a1=some r):CtX Tryz.prog globs 155 0 0 [.agg (qZ a1)] [] (TS r) (UP r):=by
 unfold XZ at hm;refine q_E f155 68 λE=>?_;refine s_vn [] 0 ⟨[(1,vp 0 0)],[(0,bx 78 (qZ a1))]⟩ (s_va 1 [(3,vi (a1.Rows.length:Int))] ?_);refine q_sq (s_va 1 [(12,vb (decide ((a1.Rows.length:Int)>120)))] ?_);refine q_cq hm (λhm=>?_) (λhm=>?_)
 ·refine s_vn [] 1 ⟨[(2,vi 4)],[]⟩ ?_;obtain rfl:=oi hm;exact q_rt q_rm
 ·refine q_sk (q_sq ?_);refine q_jn (qKp a1) (λp=>DR a1 p=some r) ?_ ?_
  ·rintro x4 hm;refine q_cq hm (λhm=>?_) (λhm=>?_)
   ·refine s_vn [] 1 ⟨[(2,vi 9)],[]⟩ ?_;obtain rfl:=oi hm;exact q_rt q_rm
   ·refine q_sk (q_sq ?_);refine s_vv [] 1 [22] [(24,vc (tl qK dd a1.Rows)),(25,vi (a1.Rows.length:Int)),(26,vi 0)] ?_;obtain⟨u14,h13,hm⟩:=qC hm;refine zO (nd f155 500) 0 (by kernel_rfl) FUEL (λo=>qDd a1) (λv st=>RetQ Tryz.prog f155 (TS v) (UP v) .ret st) u14 (q_hl (LH a1 0) (qJz E a1 FUEL 0 u14 h13)) ?_ ?_
    ·rintro v15 rfl st hr;obtain rfl:=oi hm;exact hr
    ·rintro o12 rfl;replace hm:_=some r:=hm;refine q_sq (s_va 1 [(35,vb ((a1.Rows.length:Int)==0))] ?_);refine q_cq hm (λhm=>?_) (λhm=>?_)
     ·refine q_sq (s_vn [] 1 ⟨[(38,vb (a1.Low !=0))],[]⟩ ?_);refine q_cq hm (λhm=>?_) (λhm=>?_)
      ·refine s_vn [] 1 ⟨[(2,vi 19)],[]⟩ ?_;obtain rfl:=oi hm;exact q_rt q_rm
      ·refine q_sk (s_vn [] 1 ⟨[(2,vi 0)],[]⟩ ?_);obtain rfl:=oi hm;exact q_rt q_rm
     ·refine q_sk (q_sq ?_);refine q_jn (qK8 a1) (λp=>BP a1 p=some r) ?_ ?_
      ·rintro x25 hm;refine q_cq hm (λhm=>?_) (λhm=>?_)
       ·refine s_vn [] 1 ⟨[(2,vi 19)],[]⟩ ?_;obtain rfl:=oi hm;exact q_rt q_rm
       ·refine q_sk (q_sq ?_);refine s_vn [] 1 ⟨[(54,vc (tl qK dd a1.Rows)),(55,vi (a1.Rows.length:Int)),(56,vi 0)],[]⟩ ?_;obtain⟨u37,h36,hm⟩:=qC hm;refine zO (nd f155 4084) 2 (by kernel_rfl) FUEL (λo=>qC5) (λv st=>RetQ Tryz.prog f155 (TS v) (UP v) .ret st) u37 (q_hl (MK a1 0) (qJN E a1 FUEL 0 u37 h36)) ?_ ?_
        ·rintro v38 rfl st hr;obtain rfl:=oi hm;exact hr
        ·rintro o35 rfl;replace hm:_=some r:=hm;refine s_vn [] 1 ⟨[(2,vi 0)],[]⟩ ?_;obtain rfl:=oi hm;exact q_rt q_rm
      ·obtain⟨g18,hm⟩:=qJ hm;obtain⟨v19,h20,hm⟩:=qC hm;rcases bif_c hm with⟨b21,hm⟩|⟨b21,hm⟩
       ·exact q_vv [qi 2 g18,qc 4 [42] 1 (jZ (a1.Rows.getD (0:Int).toNat dd) v19 h20),qf 5 b21] 1 [3,35] [(52,vb true)] (q_J (true) hm)
       ·obtain⟨g22,hm⟩:=qJ hm;obtain⟨v23,h24,hm⟩:=qC hm;exact q_vv [qi 2 g18,qc 4 [42] 1 (jZ (a1.Rows.getD (0:Int).toNat dd) v19 h20),qf 5 b21,qi 10 g22,qk 12 [44,50] 1 ⟨[(44,vb false),(50,va [ci ((a1.Rows.getD (w64 ((a1.Rows.length:Int)-1)).toNat dd).A),ci ((a1.Rows.getD (w64 ((a1.Rows.length:Int)-1)).toNat dd).B)])],[]⟩ (jZ (a1.Rows.getD (w64 ((a1.Rows.length:Int)-1)).toNat dd) v23 h24)] 1 [3,35] [(52,vb v23)] (q_J (v23) hm)
  ·rcases bif_c hm with⟨b3,hm⟩|⟨b3,hm⟩
   ·exact q_vv [qf 3 b3] 1 [12] [(22,vb true)] (q_J (true) hm)
   ·exact q_vv [qf 3 b3] 1 [12] [(22,vb (decide (a1.Low>(w64 (60-(a1.Rows.length:Int))))))] (q_J (decide (a1.Low>(w64 (60-(a1.Rows.length:Int))))) hm)
def qPZ (r:qH):V:=va (qZ r)
def qOJ (r:qH):List (Nat×(Nat×O)):=[]
theorem RM (a1:qH) (r:qH) (hm:QR a1=some r):CtX Tryz.prog globs 91 0 0 [.agg (qZ a1)] [] (qPZ r) (qOJ r):=by
 unfold QR at hm;refine q_E f91 8 λE=>?_;refine s_vn [] 0 ⟨[(1,vp 0 0),(2,vp 1 0)],[(0,bx 78 (qZ a1)),(1,bx 78 [ci 0,.emp])]⟩ (q_sq ?_);obtain⟨v2,h3,hm⟩:=qC hm;refine s_vv [qc 1 [3] 2 (qEJ a1 v2 h3)] 2 [] [(5,vb (v2 !=0))] (q_cq hm (λhm=>?_) (λhm=>?_))
 ·refine s_vu [] 2 [1,5] [] [0] [] (q_fu [.ownB 1 1 2 53 2 (rf qK [])] [] [] [1] [(1,bx 78 [ci 0,.own 2 0 2 0]),(2,ro 0 53 2 0 (rf qK []))] o0 ?_);refine q_fu [.len 2 (([]:List Span).length),.frz 2] [] [] [1,2] [(1,bx 78 [ci 0,tl qK dd ([]:List Span)])] (o1 (And.intro (And.intro (show 0=([]:List Span).length from rfl) (show 0=([]:List Span).length from rfl)) (ke (([]:List Span).length)))) ?_;obtain rfl:=oi hm;exact q_rt q_rm
 ·refine q_sk (s_vn [] 2 ⟨[(2,vp 1 0)],[(1,bx 78 (qZ a1))]⟩ ?_);obtain rfl:=oi hm;exact q_rt q_rm
def qTF (r:Span):V:=va (qK r)
def qVc (r:Span):List (Nat×(Nat×O)):=[]
def qOy (a1:qH) (a2:Int) (x4:Bool):St:=
 ⟨[(1,vi a2),(2,vp 0 0),(4,vp 1 0),(18,vb x4)],[(0,bx 78 (qZ a1)),(1,bx 53 [ci 0,ci 0])]⟩
theorem qJe (a1:qH) (a2:Int) (r:Span) (hm:SJ a1 a2=some r):CtX Tryz.prog globs 95 0 0 [.agg (qZ a1),.one (ci a2)] [] (qTF r) (qVc r):=by
 unfold SJ at hm;refine q_E f95 28 λE=>?_;refine s_vn [] 0 ⟨[(1,vi a2),(2,vp 0 0),(4,vp 1 0)],[(0,bx 78 (qZ a1)),(1,bx 53 [ci 0,ci 0])]⟩ (q_sq ?_);refine q_jn (qOy a1 a2) (λp=>IV a1 a2 p=some r) ?_ ?_
 ·rintro x4 hm;refine q_cq hm (λhm=>?_) (λhm=>?_)
  ·refine s_vu [] 2 [1,2,18] [] [0] [] ?_;obtain rfl:=oi hm;exact q_rt q_rm
  ·refine q_sk ?_;obtain⟨g6,hm⟩:=qJ hm;refine s_vn [qi 6 g6] 2 ⟨[(4,vp 1 0)],[(1,bx 53 (qK (a1.Rows.getD (w64 (a2-a1.Low)).toNat dd)))]⟩ ?_;obtain rfl:=oi hm;exact q_rt q_rm
 ·rcases bif_c hm with⟨b3,hm⟩|⟨b3,hm⟩
  ·exact q_vv [qf 4 b3] 2 [] [(18,vb true)] (q_J (true) hm)
  ·exact q_vv [qf 4 b3] 2 [] [(18,vb (decide (a2≥(w64 (a1.Low+(a1.Rows.length:Int))))))] (q_J (decide (a2≥(w64 (a1.Low+(a1.Rows.length:Int))))) hm)
open Go.Proofs Go.Proofs.Tryz
def qV0 (r:Span):V:=va (qK r)
def qWG (r:Span):List (Nat×(Nat×O)):=[]
theorem RJ (a1:Span) (a2:Span) (r:Span) (hm:WH a1 a2=some r):CtX Tryz.prog globs 94 0 0 [.agg (qK a1),.agg (qK a2)] [] (qV0 r) (qWG r):=by
 unfold WH at hm;refine q_E f94 24 λE=>?_;refine s_vn [] 0 ⟨[(2,vp 0 0),(3,vp 1 0),(4,vp 2 0)],[(0,bx 53 (qK a1)),(1,bx 53 (qK a2)),(2,bx 53 [ci 0,ci 0])]⟩ (s_vu [] 3 [2,3] [(5,vp 3 0)] [0,1] [(3,bx 53 [ci (imax a1.A a2.A),ci (imin a1.B a2.B)])] ?_);refine q_sq (s_va 4 [(21,vb (decide ((imax a1.A a2.A)≥(imin a1.B a2.B))))] ?_);refine q_cq hm (λhm=>?_) (λhm=>?_)
 ·refine s_vu [] 4 [5,21] [] [3] [] ?_;obtain rfl:=oi hm;exact q_rt q_rm
 ·refine q_sk (s_vn [] 4 ⟨[(4,vp 2 0)],[(2,bx 53 [ci (imax a1.A a2.A),ci (imin a1.B a2.B)])]⟩ ?_);obtain rfl:=oi hm;exact q_rt q_rm
def qEB (a1:Int) (a2:qH) (a3:qH) (r:Span):V:=va (qK r)
def qEF (a1:Int) (a2:qH) (a3:qH) (r:Span):List (Nat×(Nat×O)):=[(0,bx 78 (qZ a2)),(1,bx 78 (qZ a3))]
theorem qLZ (a1:Int) (a2:qH) (a3:qH) (r:Span) (hm:DB a1 a2 a3=some r):CtX Tryz.prog globs 93 2 2 [.one (ci a1),.one (.bptr 0 0 0),.one (.bptr 1 0 0)] [(0,bx 78 (qZ a2)),(1,bx 78 (qZ a3))] (qEB a1 a2 a3 r) (qEF a1 a2 a3 r):=by
 unfold DB at hm;refine q_E f93 12 λE=>?_;refine s_vn [] 2 ⟨[(0,vi a1),(1,vp 0 0),(2,vp 1 0),(4,vp 2 0)],[(0,bx 78 (qZ a2)),(1,bx 78 (qZ a3)),(2,bx 53 [ci 0,ci 0])]⟩ ?_;obtain⟨v4,h5,hm⟩:=qC hm;obtain⟨v6,h7,hm⟩:=qC hm;obtain⟨v8,h9,hm⟩:=qC hm;refine s_du [qc 2 [5,6] 3 (qJe a2 a1 v4 h5),qc 5 [8,9] 3 (qJe a3 a1 v6 h7),qc 6 [7,10] 3 (RJ v4 v6 v8 h9)] [0,0,3,0,0,31,63,127] 3 [0,1,2] [] [2] [(2,bx 53 (qK v8))] ?_;obtain rfl:=oi hm;exact q_rt q_rm
def qC6 (a1:qH) (a2:qH) (r:qH):V:=va [ci r.Low,.own 2 0 2 r.Rows.length]
def qCY (a1:qH) (a2:qH) (r:qH):List (Nat×(Nat×O)):=[(0,bx 78 (qZ a1)),(1,bx 78 (qZ a2)),(2,ro 0 53 2 r.Rows.length (rf qK r.Rows))]
def TA (a1:qH) (a2:qH) (x4:Int):St:=
 ⟨[(0,vc (.fn 93 [.bptr 0 0 0,.bptr 1 0 0])),(2,vp 2 0),(3,vp 3 0),(5,vi x4)],[(0,bx 78 (qZ a1)),(1,bx 78 (qZ a2)),(2,bx 78 [ci 0,.emp])]⟩
def CO (a1:qH) (a2:qH) (x4:Int) (x18:Int) (x19:Int) (l20:List Span) (l20n:Nat):St:=
 (TA a1 a2 x4).up [] [(4,vi x18)] [] [(3,bx 78 [ci x19,.own 4 0 2 l20n]),(4,ro 0 53 2 l20n (rf qK l20))]
def qHW (a1:qH) (a2:qH) (x4:Int) (l6:List Span) (v8:Span) (x14:Int):St:=
 (TA a1 a2 x4).up [] [(6,vp 5 0)] [] [(3,bx 78 [ci x14,.own 4 0 2 l6.length]),(4,ro 0 53 2 l6.length (rf qK l6)),(5,bx 53 (qK v8))]
def DC (a1:qH) (a2:qH) (x3:Int) (x4:Int) (x5:Int) (l6:List Span) (l6n:Nat):St:=
 (TA a1 a2 x4).up [] [(4,vi x3)] [] [(3,bx 78 [ci x5,.own 4 0 2 l6n]),(4,ro 0 53 2 l6n (rf qK l6))]
def CR (a1:qH) (a2:qH) (x21:Int) (x22:Int) (l23:List Span):St:=
 ⟨[(2,vp 2 0),(3,vp 3 0),(4,vi x21)],[(0,bx 78 (qZ a1)),(1,bx 78 (qZ a2)),(2,bx 78 [ci 0,.emp]),(3,bx 78 [ci x22,.own 4 0 2 l23.length]),(4,ro 0 53 2 l23.length (rf qK l23))]⟩
theorem qGP (E:Env 2) (a1:qH) (a2:qH):∀(n:Nat) (x3:Int) (x4:Int) (x5:Int) (l6:List Span) (l6n:Nat) (res:Int×Int×(List Span)),l6.length=l6n->wI a1 a2 n x3 x4 x5 l6=some res->HL (kx E 46 2) (nd f92 244) (zL 0 (λo=>CR a1 a2 o.1 o.2.1 o.2.2) res) n (DC a1 a2 x3 x4 x5 l6 l6n):=by
 intro n
 induction n with
 |zero=>
  intro x3 x4 x5 l6 l6n res hl0 hm;cases hm
 |succ n ih=>
  intro x3 x4 x5 l6 l6n res hl0 hm;subst hl0;refine qS (q_sq ?_);refine s_va 5 [(8,vb (decide (x4<60)))] (q_cq hm (λhm=>?_) (λhm=>?_))
  ·refine q_sk (q_jn (ι:=Int×Int×(List Span)×Nat) (λp=>CO a1 a2 x4 p.1 p.2.1 p.2.2.1 p.2.2.2) (λp=>p.2.2.1.length=p.2.2.2/\JW x4 (wI a1 a2 n) p.1 p.2.1 p.2.2.1=some res) ?_ ?_)
   ·rintro⟨x18,x19,l20,l20n⟩ ⟨el20,hm⟩;replace el20:l20.length=l20n:=el20;subst el20;show H _ (CO a1 a2 x4 x18 x19 l20 l20.length) _ _;exact q_vv [] 7 [5] [(5,vi (w64 (x4+1)))] (q_hl (DC a1 a2 x18 (w64 (x4+1)) x19 l20 l20.length) (ih x18 (w64 (x4+1)) x19 l20 l20.length _ rfl hm))
   ·refine q_bk 1 ?_;obtain⟨v8,h9,hm⟩:=qC hm;refine s_vu [qd 2 (dex (cen [(0,0),(1,0)] [0,0] 3 2 (qEB x4 a1 a2 v8) (qEF x4 a1 a2 v8) [11,12] [0,1])) (wK (K:=(kx E 46 2)) ⟨[(11,vc (.fn 93 [.bptr 0 0 0,.bptr 1 0 0])),(12,vi x4)],[(0,bx 78 (qZ a1)),(1,bx 78 (qZ a2))]⟩ (opAt (rg f92 3912) 2) [(0,0),(1,0)] [0,0] 3 o0 rfl (qLZ x4 a1 a2 v8 h9) (.inl rfl) (by kernel_rfl))] 5 [8] [(6,vp 5 0)] [] [(5,bx 53 (qK v8))] (q_bk 2 ?_);obtain⟨v10,h11,hm⟩:=qC hm;refine s_vv [qc 1 [15] 6 (jZ v8 v10 h11)] 6 [] [(14,vb (!v10))] (q_cq hm (λhm=>?_) (λhm=>?_))
    ·refine q_jn (qHW a1 a2 x4 l6 v8) (λp=>RZ x4 l6 (wI a1 a2 n) v8 p=some res) ?_ ?_
     ·rintro x14 hm;obtain⟨g15,hm⟩:=qJ hm;refine s_vu [qd 3 (drw 6 0 (rf qK [v8])) (litP qK dd 2 (λ_=>rfl) ([v8]:List Span) 1 rfl),qd 4 (drw 4 1 (rf qK (l6++[v8]))) (apP qK dd l6 ([v8]:List Span) l6.length 1 2 16 (1<=1) (ke _) rfl rfl (λ_=>rfl) (wA g15))] 6 [6] [] [3,4,5] [(3,bx 78 [ci x14,.own 4 1 2 (l6.length+1)]),(4,ro 1 53 2 (l6.length+1) (rf qK (l6++[v8])))] (q_va 7 [(4,vi (((l6.length+1):Nat):Int))] ?_);exact q_J ((((l6.length+1):Nat):Int),x14,(l6++[v8]),(l6.length+1)) ⟨(wB rfl rfl),hm⟩
     ·refine s_vv [] 6 [4,14] [(19,vb (x3==0))] (q_cq hm (λhm=>?_) (λhm=>?_))
      ·exact q_vu [] 6 [19] [] [3] [(3,bx 78 [ci x4,.own 4 0 2 l6.length])] (q_J (x4) hm)
      ·exact q_sk (q_J (x5) hm)
    ·refine s_vu [] 6 [6,14] [(31,vb (decide (x3>0)))] [5] [] (q_cq hm (λhm=>?_) (λhm=>?_))
     ·obtain⟨g17,hm⟩:=qJ hm;exact q_vu [qd 3 (drw 6 0 (rf qK [(Span.mk 0 0)])) (litP qK dd 2 (λ_=>rfl) ([(Span.mk 0 0)]:List Span) 1 rfl),qd 4 (drw 4 1 (rf qK (l6++[(Span.mk 0 0)]))) (apP qK dd l6 ([(Span.mk 0 0)]:List Span) l6.length 1 2 16 (1<=1) (ke _) rfl rfl (λ_=>rfl) (wA g17))] 6 [31] [] [3,4] [(3,bx 78 [ci x5,.own 4 1 2 (l6.length+1)]),(4,ro 1 53 2 (l6.length+1) (rf qK (l6++[(Span.mk 0 0)])))] (q_J (x3,x5,(l6++[(Span.mk 0 0)]),(l6.length+1)) ⟨(wB rfl rfl),hm⟩)
     ·exact q_sk (q_J (x3,x5,l6,l6.length) ⟨rfl,hm⟩)
  ·refine q_ex 0 ?_;obtain rfl:=oi hm;exact q_l0
theorem qJI (a1:qH) (a2:qH) (r:qH) (hm:RL a1 a2=some r):CtX Tryz.prog globs 92 2 2 [.one (.fn 93 [.bptr 0 0 0,.bptr 1 0 0])] [(0,bx 78 (qZ a1)),(1,bx 78 (qZ a2))] (qC6 a1 a2 r) (qCY a1 a2 r):=by
 unfold RL at hm;refine q_E f92 46 λE=>?_;refine s_vn [] 2 ⟨[(0,vc (.fn 93 [.bptr 0 0 0,.bptr 1 0 0])),(2,vp 2 0)],[(0,bx 78 (qZ a1)),(1,bx 78 (qZ a2)),(2,bx 78 [ci 0,.emp])]⟩ (s_vu [] 3 [] [(3,vp 3 0)] [] [(3,bx 78 [ci 0,.emp])] ?_);refine s_va 4 [(4,vi 0)] (q_sq ?_);refine s_va 4 [(5,vi (-60))] (q_fu [.ownB 3 1 4 53 2 (rf qK [])] [] [] [3] [(3,bx 78 [ci 0,.own 4 0 2 0]),(4,ro 0 53 2 0 (rf qK []))] o0 ?_);obtain⟨o24,h25,hm⟩:=qC hm
 refine zG (nd f92 244) 0 (by kernel_rfl) FUEL (λo=>CR a1 a2 o.1 o.2.1 o.2.2) o24 (q_hl (DC a1 a2 0 (-60) 0 ([]:List Span) 0) (qGP E a1 a2 FUEL 0 (-60) 0 ([]:List Span) 0 o24 rfl h25)) ?_;obtain⟨g26,hm⟩:=qJ hm
 refine s_wu [qd 3 dN (And.intro (zU g26).2.1 (zU g26).2.2)] [.row 4 o24.1.toNat (rf qK (o24.2.2.take o24.1.toNat))] (o1 (tkP qK dd o24.2.2 o24.2.2.length o24.1.toNat (show o24.1.toNat<=o24.2.2.length by have:=(zU g26);omega))) 5 [4] [] [3,4] [(3,bx 78 [ci o24.2.1,.own 4 0 2 o24.1.toNat]),(4,ro 0 53 2 o24.1.toNat (rf qK (o24.2.2.take o24.1.toNat)))] (s_vu [] 5 [3] [] [2,3] [(2,bx 78 [ci o24.2.1,.own 4 0 2 o24.1.toNat])] ?_)
 refine q_fu [.len 4 ((o24.2.2.take o24.1.toNat).length)] [] [] [2,4] [(2,bx 78 [ci o24.2.1,.own 4 0 2 ((o24.2.2.take o24.1.toNat).length)]),(4,ro 0 53 2 ((o24.2.2.take o24.1.toNat).length) (rf qK (o24.2.2.take o24.1.toNat)))] (o1 (And.intro (Eq.symm (show(o24.2.2.take o24.1.toNat).length=o24.1.toNat from(PY rfl (show o24.1.toNat<=o24.2.2.length by have:=(zU g26);omega)))) (Eq.symm (show(o24.2.2.take o24.1.toNat).length=o24.1.toNat from(PY rfl (show o24.1.toNat<=o24.2.2.length by have:=(zU g26);omega)))))) ?_;obtain rfl:=oi hm;exact q_sw 4 2 (q_rt q_rm)
open Go.Proofs Go.Proofs.Tryz
def qQJ (r:qH):V:=va [ci r.Low,.own 0 0 2 r.Rows.length]
def qQ2 (r:qH):List (Nat×(Nat×O)):=[(0,ro 0 53 2 r.Rows.length (rf qK r.Rows))]
theorem qOK (a1:qH) (a2:qH) (r:qH) (hm:GT a1 a2=some r):CtX Tryz.prog globs 46 0 0 [.agg (qZ a1),.agg (qZ a2)] [] (qQJ r) (qQ2 r):=by
 unfold GT at hm;refine q_E f46 11 λE=>?_;refine s_vn [] 0 ⟨[(2,vp 0 0),(3,vp 1 0),(4,vp 2 0)],[(0,bx 78 (qZ a1)),(1,bx 78 (qZ a2)),(2,bx 78 [ci 0,.emp])]⟩ ?_;obtain⟨v3,h4,hm⟩:=qC hm;obtain⟨v5,h6,hm⟩:=qC hm;refine s_du [qc 1 [5] 3 (RM a1 v3 h4),qc 3 [7] 3 (RM a2 v5 h6)] [0,1,0,7,15,31] 3 [] [] [0,1] [(0,bx 78 (qZ v3)),(1,bx 78 (qZ v5))] ?_;obtain⟨v7,h8,hm⟩:=qC hm
 refine s_vn [qd 1 (dex (cen [(0,0),(1,0)] [0,0] 1 2 (qC6 v3 v5 v7) (qCY v3 v5 v7) [9] [0,1])) (wK (K:=(kx E 11 0)) ⟨[(9,vc (.fn 93 [.bptr 0 0 0,.bptr 1 0 0]))],[(0,bx 78 (qZ v3)),(1,bx 78 (qZ v5))]⟩ (opAt (rg f46 14) 1) [(0,0),(1,0)] [0,0] 1 o0 rfl (qJI v3 v5 v7 h8) (.inl rfl) (by kernel_rfl))] 3 ⟨[(4,vp 2 0)],[(2,bx 78 [ci v7.Low,.own 3 0 2 v7.Rows.length]),(3,ro 0 53 2 v7.Rows.length (rf qK v7.Rows))]⟩ ?_;obtain rfl:=oi hm;exact q_sw 3 0 (q_rt q_rm)
def DA (r:(List qN)×Int):V:= .tup [.one (.own 0 0 3 r.1.length),.one (ci r.2)]
def GI (r:(List qN)×Int):List (Nat×(Nat×O)):=[(0,ro 0 80 3 r.1.length (rf qR r.1))]
def CY (a1:Scan) (a2:Int) (a3:Int) (l8:List qH) (l8n:Nat) (x9:Int):St:=
 ⟨[(1,vi a2),(2,vi a3),(3,vp 0 0),(9,vo 1 0 2 l8n),(27,vi (a1.Rings.length:Int)),(28,vi x9)],[(0,bx 25 (wE a1)),(1,ro 0 78 2 l8n (rf qZ l8))]⟩
def qGG (a1:Scan) (l16:List qH):St:=
 ⟨[(3,vp 0 0),(9,vo 1 0 2 l16.length)],[(0,bx 25 (wE a1)),(1,ro 0 78 2 l16.length (rf qZ l16))]⟩
def qAd (a1:Scan) (o17:(List qH)) (l22:List qN) (l22n:Nat) (x23:Int):St:=
 ⟨[(3,vp 0 0),(9,vo 1 0 2 o17.length),(13,vo 2 0 3 l22n),(55,vi (((w64 ((a1.Rings.length:Int)-1)).toNat:Nat):Int)),(56,vi x23)],[(0,bx 25 (wE a1)),(1,ro 0 78 2 o17.length (rf qZ o17)),(2,ro 0 80 3 l22n (rf qR l22))]⟩
def qF6 (l36:List qN):St:=
 ⟨[(13,vo 2 0 3 l36.length)],[(2,ro 0 80 3 l36.length (rf qR l36))]⟩
theorem qNu (E:Env 0) (a1:Scan) (a2:Int) (a3:Int):∀(n:Nat) (l8:List qH) (l8n:Nat) (x9:Int) (res:((List qN)×Int)⊕(List qH)),l8.length=l8n->TL a1 a2 a3 n l8 x9=some res->HL (kx E 94 0) (nd f23 244) (wL 0 (λo=>qGG a1 o) (λv st=>RetQ Tryz.prog f23 (DA v) (GI v) .ret st) res) n (CY a1 a2 a3 l8 l8n x9):=by
 intro n
 induction n with
 |zero=>
  intro l8 l8n x9 res hl0 hm;cases hm
 |succ n ih=>
  intro l8 l8n x9 res hl0 hm;subst hl0;refine qS (s_va 2 [(29,vb (decide (x9<(a1.Rings.length:Int))))] ?_);refine q_sq (q_cq hm (λhm=>?_) (λhm=>?_))
  ·refine q_sk (q_sq ?_);refine q_bk 1 (s_vv [] 2 [29] [(10,vi x9)] ?_);obtain⟨g11,hm⟩:=qJ hm;obtain⟨v12,h13,hm⟩:=qC hm;refine s_vu [qi 3 g11,qc 7 [36,37,38] 2 (qLM (a1.Rings.getD x9.toNat dd) a2 a3 v12 h13)] 2 [] [(11,vp 3 0),(12,vi v12.2)] [] [(2,ro 0 53 2 v12.1.Rows.length (rf qK v12.1.Rows)),(3,bx 78 [ci v12.1.Low,.own 2 0 2 v12.1.Rows.length])] (q_sq ?_);refine s_vv [] 4 [12] [(43,vb (v12.2 !=0))] (q_cq hm (λhm=>?_) (λhm=>?_))
   ·refine s_vn [] 4 ⟨[(6,vc (.emp)),(7,vi 30)],[]⟩ (q_fo 6 4 80 3 qR ?_);refine q_fl 6 4 80 3 qR ?_;obtain rfl:=oi hm;refine q_sw 4 0 (q_rt ?_);exact zJ (([]:List qN),30) q_rm
   ·refine q_sk ?_;obtain⟨g15,hm⟩:=qJ hm;refine q_vu [qi 3 g15,qd 4 (dpr [.frz 2] (drw 0 0 (rf qZ (l8.set x9.toNat v12.1)))) (And.intro (ke v12.1.Rows.length) (ke v12.1.Rows.length)),qd 4 dN (stP qZ dd v12.1 l8 l8.length x9.toNat 0 (qZ v12.1) rfl (qW (zC g15)) rfl)] 4 [10,11,43] [] [1,2,3] [(1,ro 0 78 2 l8.length (rf qZ (l8.set x9.toNat v12.1)))] (q_vv [] 4 [28] [(28,vi (w64 (x9+1)))] ?_);exact q_hl (CY a1 a2 a3 (l8.set x9.toNat v12.1) l8.length (w64 (x9+1))) (ih (l8.set x9.toNat v12.1) l8.length (w64 (x9+1)) _ (QC rfl) hm)
  ·refine q_ex 0 ?_;obtain rfl:=oi hm;exact q_l1 l8
theorem qN5 (E:Env 0) (a1:Scan) (o17:(List qH)):∀(n:Nat) (l22:List qN) (l22n:Nat) (x23:Int) (res:((List qN)×Int)⊕(List qN)),l22.length=l22n->TH a1 o17 n l22 x23=some res->HL (kx E 94 0) (nd f23 1012) (wL 2 qF6 (λv st=>RetQ Tryz.prog f23 (DA v) (GI v) .ret st) res) n (qAd a1 o17 l22 l22n x23):=by
 intro n
 induction n with
 |zero=>
  intro l22 l22n x23 res hl0 hm;cases hm
 |succ n ih=>
  intro l22 l22n x23 res hl0 hm;subst hl0;refine qS (s_va 3 [(57,vb (decide (x23<(((w64 ((a1.Rings.length:Int)-1)).toNat:Nat):Int))))] ?_);refine q_sq (q_cq hm (λhm=>?_) (λhm=>?_))
  ·refine q_sk (q_sq ?_);refine q_bk 3 (s_vv [] 3 [57] [(14,vi x23)] ?_);obtain⟨g25,hm⟩:=qJ hm;obtain⟨g26,hm⟩:=qJ hm;obtain⟨v27,h28,hm⟩:=qC hm;refine s_du [qi 2 g25,qd 3 dN (qW (zC g25)),qi 7 g26,qd 8 dN (qW (zC g26)),qc 9 [62,67] 3 (qOK (o17.getD x23.toNat dd) (o17.getD ((w64 (x23+1)).toNat) dd) v27 h28)] [0,0,3,7,0,0,32,112,240,511,0,2047] 3 [] [(15,vp 4 0)] [] [(3,ro 0 53 2 v27.Rows.length (rf qK v27.Rows)),(4,bx 78 [ci v27.Low,.own 3 0 2 v27.Rows.length])] (q_sq ?_);refine s_va 5 [(72,vb ((v27.Rows.length:Int)==0))] (q_cq hm (λhm=>?_) (λhm=>?_))
   ·refine s_vn [] 5 ⟨[(6,vc (.emp)),(7,vi 30)],[]⟩ (q_fo 6 5 80 3 qR ?_);refine q_fl 6 5 80 3 qR ?_;obtain rfl:=oi hm;refine q_sw 5 0 (q_rt ?_);exact zJ (([]:List qN),30) q_rm
   ·refine q_sk ?_;obtain⟨g33,hm⟩:=qJ hm;obtain⟨g34,hm⟩:=qJ hm;obtain⟨g35,hm⟩:=qJ hm
    refine q_xu [.frz 3] (o1 (ke v27.Rows.length)) [qi 6 g33,qi 12 g34,qi 18 g35,qd 19 (drw 0 0 (rf qR (l22.set x23.toNat (qN.mk (w64 (((a1.Rings.getD (w64 (x23+1)).toNat dd).Z)-((a1.Rings.getD x23.toNat dd).Z))) v27)))) (stP qR dd (qN.mk (w64 (((a1.Rings.getD (w64 (x23+1)).toNat dd).Z)-((a1.Rings.getD x23.toNat dd).Z))) v27) l22 l22.length x23.toNat 0 [ci (w64 (((a1.Rings.getD (w64 (x23+1)).toNat dd).Z)-((a1.Rings.getD x23.toNat dd).Z))),ci v27.Low,tl qK dd v27.Rows] rfl (qW (zC g35)) rfl)] [] o0 [0,0,0,4,0,16,60,124,252,0,512,0,3584,7680,15872,32764,0,131068,262143,524287] 5 [14,15,72] [] [2,3,4] [(2,ro 0 80 3 l22.length (rf qR (l22.set x23.toNat (qN.mk (w64 (((a1.Rings.getD (w64 (x23+1)).toNat dd).Z)-((a1.Rings.getD x23.toNat dd).Z))) v27))))] ?_
    exact q_vv [] 5 [56] [(56,vi (w64 (x23+1)))] (q_hl (qAd a1 o17 (l22.set x23.toNat (qN.mk (w64 (((a1.Rings.getD (w64 (x23+1)).toNat dd).Z)-((a1.Rings.getD x23.toNat dd).Z))) v27)) l22.length (w64 (x23+1))) (ih (l22.set x23.toNat (qN.mk (w64 (((a1.Rings.getD (w64 (x23+1)).toNat dd).Z)-((a1.Rings.getD x23.toNat dd).Z))) v27)) l22.length (w64 (x23+1)) _ (QC rfl) hm))
  ·refine q_ex 2 ?_;obtain rfl:=oi hm;exact q_l1 l22
theorem qST (a1:Scan) (a2:Int) (a3:Int) (r:(List qN)×Int) (hm:HQ a1 a2 a3=some r):CtX Tryz.prog globs 23 0 0 [.agg (wE a1),.one (ci a2),.one (ci a3)] [] (DA r) (GI r):=by
 unfold HQ at hm;refine q_E f23 94 λE=>?_;refine s_vn [] 0 ⟨[(1,vi a2),(2,vi a3),(3,vp 0 0)],[(0,bx 25 (wE a1))]⟩ (q_sq ?_);obtain⟨v4,h5,hm⟩:=qC hm;refine s_vv [qc 1 [16] 1 (qJu a1 v4 h5)] 1 [] [(8,vi v4)] (s_va 1 [(19,vb (v4 !=0))] ?_);refine q_cq hm (λhm=>?_) (λhm=>?_)
 ·refine s_vn [] 1 ⟨[(6,vc (.emp)),(7,vi v4)],[]⟩ (q_fo 6 1 80 3 qR ?_);refine q_fl 6 1 80 3 qR ?_;obtain rfl:=oi hm;exact q_sw 1 0 (q_rt q_rm)
 ·refine q_sk ?_;obtain⟨g7,hm⟩:=qJ hm;refine s_vu [qd 3 (drw 1 0 (rf qZ (List.replicate ((a1.Rings.length:Int).toNat) (qH.mk 0 ([]:List Span))))) (mkPe qZ dd (qH.mk 0 ([]:List Span)) (a1.Rings.length:Int) 32 [ci 0,.emp] (VQ g7) (.same _ (.emp _ .nil)))] 1 [8,19] [(9,vo 1 0 2 ((a1.Rings.length:Int).toNat))] [] [(1,ro 0 78 2 ((a1.Rings.length:Int).toNat) (rf qZ (List.replicate ((a1.Rings.length:Int).toNat) (qH.mk 0 ([]:List Span)))))] (q_sq ?_);refine s_va 2 [(27,vi (a1.Rings.length:Int)),(28,vi 0)] ?_;obtain⟨u19,h18,hm⟩:=qC hm
  refine zO (nd f23 244) 0 (by kernel_rfl) FUEL (λo=>qGG a1 o) (λv st=>RetQ Tryz.prog f23 (DA v) (GI v) .ret st) u19 (q_hl (CY a1 a2 a3 (List.replicate ((a1.Rings.length:Int).toNat) (qH.mk 0 ([]:List Span))) ((a1.Rings.length:Int).toNat) 0) (qNu E a1 a2 a3 FUEL (List.replicate ((a1.Rings.length:Int).toNat) (qH.mk 0 ([]:List Span))) ((a1.Rings.length:Int).toNat) 0 u19 GU h18)) ?_ ?_
  ·rintro v20 rfl st hr;obtain rfl:=oi hm;exact hr
  ·rintro o17 rfl;replace hm:_=some r:=hm;obtain⟨g21,hm⟩:=qJ hm;refine s_vu [qd 4 (drw 2 0 (rf qR (List.replicate ((w64 ((a1.Rings.length:Int)-1)).toNat) (qN.mk 0 (qH.mk 0 ([]:List Span)))))) (mkPe qR dd (qN.mk 0 (qH.mk 0 ([]:List Span))) (w64 ((a1.Rings.length:Int)-1)) 40 [ci 0,ci 0,.emp] (VQ g21) (.same _ (.same _ (.emp _ .nil))))] 2 [] [(13,vo 2 0 3 ((w64 ((a1.Rings.length:Int)-1)).toNat))] [] [(2,ro 0 80 3 ((w64 ((a1.Rings.length:Int)-1)).toNat) (rf qR (List.replicate ((w64 ((a1.Rings.length:Int)-1)).toNat) (qN.mk 0 (qH.mk 0 ([]:List Span))))))] (q_sq ?_)
   refine s_va 3 [(55,vi (((w64 ((a1.Rings.length:Int)-1)).toNat:Nat):Int)),(56,vi 0)] ?_;obtain⟨u39,h38,hm⟩:=qC hm;refine zO (nd f23 1012) 2 (by kernel_rfl) FUEL qF6 (λv st=>RetQ Tryz.prog f23 (DA v) (GI v) .ret st) u39 (q_hl (qAd a1 o17 (List.replicate ((w64 ((a1.Rings.length:Int)-1)).toNat) (qN.mk 0 (qH.mk 0 ([]:List Span)))) ((w64 ((a1.Rings.length:Int)-1)).toNat) 0) (qN5 E a1 o17 FUEL (List.replicate ((w64 ((a1.Rings.length:Int)-1)).toNat) (qN.mk 0 (qH.mk 0 ([]:List Span)))) ((w64 ((a1.Rings.length:Int)-1)).toNat) 0 u39 GU h38)) ?_ ?_
   ·rintro v40 rfl st hr;obtain rfl:=oi hm;exact hr
   ·rintro o37 rfl;replace hm:_=some r:=hm;refine s_vv [] 3 [13] [(6,vo 2 0 3 o37.length),(7,vi 0)] ?_;obtain rfl:=oi hm;exact q_sw 2 0 (q_rt q_rm)
end Saw
end Go.SL

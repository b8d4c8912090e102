import Derived.Test.YtigmogcdifllhaaGreatDoorEBase
import Derived.Test.YtigmogcdifllhaaGreatDoorEFa4
import Derived.Test.YtigmogcdifllhaaGreatDoorEFa1
set_option linter.unusedVariables false
set_option linter.unusedSimpArgs false
namespace Go.SL
namespace Saw
open Go.Proofs Go.Proofs.Tryz
set_option maxHeartbeats 4000000
set_option maxRecDepth 100000
def TR (r:Int):V:=vi r
def UQ (r:Int):List (Nat×(Nat×O)):=[]
def LN (a1:qH) (x6:Int):St:=
 ⟨[(1,vp 0 0),(3,vi (a1.Rows.length:Int)),(24,vc (tl qJ dd a1.Rows)),(25,vi (a1.Rows.length:Int)),(26,vi x6)],[(0,bx 78 (zA a1))]⟩
def qCK (a1:qH):St:=
 ⟨[(1,vp 0 0),(3,vi (a1.Rows.length:Int))],[(0,bx 78 (zA a1))]⟩
def qJ6 (a1:qH) (x27:Int) (x33:Bool):St:=
 ⟨[(54,vc (tl qJ dd a1.Rows)),(55,vi (a1.Rows.length:Int)),(56,vi x27),(66,vb x33)],[]⟩
def LR (a1:qH) (x27:Int):St:=
 ⟨[(54,vc (tl qJ dd a1.Rows)),(55,vi (a1.Rows.length:Int)),(56,vi x27)],[]⟩
def qCW :St:=
 ⟨[],[]⟩
def qKs (a1:qH) (x25:Bool):St:=
 ⟨[(1,vp 0 0),(52,vb x25)],[(0,bx 78 (zA a1))]⟩
def qKK (a1:qH) (x4:Bool):St:=
 ⟨[(1,vp 0 0),(3,vi (a1.Rows.length:Int)),(22,vb x4)],[(0,bx 78 (zA a1))]⟩
theorem qJe (E:Env 0) (a1:qH):∀(n:Nat) (x6:Int) (res:Int⊕Unit),ZR a1 n x6=some res->HL (kx E 68 0) (nd f155 500) (wJ 0 (λo=>qCK a1) (λv st=>RetQ Tryz.prog f155 (TR v) (UQ v) .ret st) res) n (LN a1 x6):=by
 intro n
 induction n with
 |zero=>
  intro x6 res hm;cases hm
 |succ n ih=>
  intro x6 res hm;refine qS (s_va 1 [(27,vb (decide (x6<(a1.Rows.length:Int))))] ?_);refine q_sq (q_cq hm (λhm=>?_) (λhm=>?_))
  ·refine q_sk (q_sq ?_);refine q_bk 1 ?_;obtain⟨g8,hm⟩:=qK hm;refine s_vu [qi 0 g8] 1 [27] [(5,vp 1 0)] [] [(1,bx 53 (qJ (a1.Rows.getD x6.toNat dd)))] ?_;obtain⟨v9,h10,hm⟩:=qC hm;refine s_vu [qc 1 [30] 2 (qJX (a1.Rows.getD x6.toNat dd) v9 h10)] 2 [5] [(32,vb (!v9))] [1] [] (q_cq hm (λhm=>?_) (λhm=>?_))
   ·refine s_vn [] 2 ⟨[(2,vi 9)],[]⟩ ?_;obtain rfl:=oi hm;refine q_rt (zK 9 ?_);exact q_rm
   ·refine q_sk (q_vv [] 2 [26,32] [(26,vi (w64 (x6+1)))] ?_);exact q_hl (LN a1 (w64 (x6+1))) (ih (w64 (x6+1)) _ hm)
  ·refine q_ex 0 ?_;obtain rfl:=oi hm;exact q_l1 ()
theorem qJk (E:Env 0) (a1:qH):∀(n:Nat) (x27:Int) (res:Int⊕Unit),yG a1 n x27=some res->HL (kx E 68 0) (nd f155 4084) (wJ 2 (λo=>qCW) (λv st=>RetQ Tryz.prog f155 (TR v) (UQ v) .ret st) res) n (LR a1 x27):=by
 intro n
 induction n with
 |zero=>
  intro x27 res hm;cases hm
 |succ n ih=>
  intro x27 res hm;refine qS (s_va 1 [(57,vb (decide (x27<(a1.Rows.length:Int))))] ?_);refine q_sq (q_cq hm (λhm=>?_) (λhm=>?_))
  ·refine q_sk (q_sq ?_);refine q_bk 3 ?_;obtain⟨g29,hm⟩:=qK hm;refine s_vu [qi 0 g29] 1 [57] [(7,vp 1 0)] [] [(1,bx 53 (qJ (a1.Rows.getD x27.toNat dd)))] (q_jn (qJ6 a1 x27) (λp=>DV x27 (yG a1 n) p=some res) ?_ ?_)
   ·rintro x33 hm;refine q_cq hm (λhm=>?_) (λhm=>?_)
    ·refine s_vn [] 2 ⟨[(2,vi 19)],[]⟩ ?_;obtain rfl:=oi hm;refine q_rt (zK 19 ?_);exact q_rm
    ·refine q_sk (q_vv [] 2 [56,66] [(56,vi (w64 (x27+1)))] ?_);exact q_hl (LR a1 (w64 (x27+1))) (ih (w64 (x27+1)) _ hm)
   ·obtain⟨v30,h31,hm⟩:=qC hm;rcases bif_c hm with⟨b32,hm⟩|⟨b32,hm⟩
    ·exact q_vu [qc 1 [60] 2 (jY (a1.Rows.getD x27.toNat dd) v30 h31),qf 2 b32] 2 [7] [(66,vb (!((((a1.Rows.getD x27.toNat dd).A)==0)&&((((a1.Rows.getD x27.toNat dd).B)==0)&&true))))] [1] [] (q_J (!((((a1.Rows.getD x27.toNat dd).A)==0)&&((((a1.Rows.getD x27.toNat dd).B)==0)&&true))) hm)
    ·exact q_vu [qc 1 [60] 2 (jY (a1.Rows.getD x27.toNat dd) v30 h31),qf 2 b32] 2 [7] [(66,vb false)] [1] [] (q_J (false) hm)
  ·refine q_ex 2 ?_;obtain rfl:=oi hm;exact q_l1 ()
theorem qEG (a1:qH) (r:Int) (hm:XX a1=some r):CtX Tryz.prog globs 155 0 0 [.agg (zA a1)] [] (TR r) (UQ r):=by
 unfold XX at hm;refine q_E f155 68 λE=>?_;refine s_vn [] 0 ⟨[(1,vp 0 0)],[(0,bx 78 (zA a1))]⟩ (s_va 1 [(3,vi (a1.Rows.length:Int))] ?_);refine q_sq (s_va 1 [(12,vb (decide ((a1.Rows.length:Int)>120)))] ?_);refine q_cq hm (λhm=>?_) (λhm=>?_)
 ·refine s_vn [] 1 ⟨[(2,vi 4)],[]⟩ ?_;obtain rfl:=oi hm;exact q_rt q_rm
 ·refine q_sk (q_sq ?_);refine q_jn (qKK a1) (λp=>DJ a1 p=some r) ?_ ?_
  ·rintro x4 hm;refine q_cq hm (λhm=>?_) (λhm=>?_)
   ·refine s_vn [] 1 ⟨[(2,vi 9)],[]⟩ ?_;obtain rfl:=oi hm;exact q_rt q_rm
   ·refine q_sk (q_sq ?_);refine s_vv [] 1 [22] [(24,vc (tl qJ dd a1.Rows)),(25,vi (a1.Rows.length:Int)),(26,vi 0)] ?_;obtain⟨u14,h13,hm⟩:=qC hm;refine zP (nd f155 500) 0 (by kernel_rfl) FUEL (λo=>qCK a1) (λv st=>RetQ Tryz.prog f155 (TR v) (UQ v) .ret st) u14 (q_hl (LN a1 0) (qJe E a1 FUEL 0 u14 h13)) ?_ ?_
    ·rintro v15 rfl st hr;obtain rfl:=oi hm;exact hr
    ·rintro o12 rfl;replace hm:_=some r:=hm;refine q_sq (s_va 1 [(35,vb ((a1.Rows.length:Int)==0))] ?_);refine q_cq hm (λhm=>?_) (λhm=>?_)
     ·refine q_sq (s_vn [] 1 ⟨[(38,vb (a1.Low !=0))],[]⟩ ?_);refine q_cq hm (λhm=>?_) (λhm=>?_)
      ·refine s_vn [] 1 ⟨[(2,vi 19)],[]⟩ ?_;obtain rfl:=oi hm;exact q_rt q_rm
      ·refine q_sk (s_vn [] 1 ⟨[(2,vi 0)],[]⟩ ?_);obtain rfl:=oi hm;exact q_rt q_rm
     ·refine q_sk (q_sq ?_);refine q_jn (qKs a1) (λp=>DO a1 p=some r) ?_ ?_
      ·rintro x25 hm;refine q_cq hm (λhm=>?_) (λhm=>?_)
       ·refine s_vn [] 1 ⟨[(2,vi 19)],[]⟩ ?_;obtain rfl:=oi hm;exact q_rt q_rm
       ·refine q_sk (q_sq ?_);refine s_vn [] 1 ⟨[(54,vc (tl qJ dd a1.Rows)),(55,vi (a1.Rows.length:Int)),(56,vi 0)],[]⟩ ?_;obtain⟨u37,h36,hm⟩:=qC hm;refine zP (nd f155 4084) 2 (by kernel_rfl) FUEL (λo=>qCW) (λv st=>RetQ Tryz.prog f155 (TR v) (UQ v) .ret st) u37 (q_hl (LR a1 0) (qJk E a1 FUEL 0 u37 h36)) ?_ ?_
        ·rintro v38 rfl st hr;obtain rfl:=oi hm;exact hr
        ·rintro o35 rfl;replace hm:_=some r:=hm;refine s_vn [] 1 ⟨[(2,vi 0)],[]⟩ ?_;obtain rfl:=oi hm;exact q_rt q_rm
      ·obtain⟨g18,hm⟩:=qK hm;obtain⟨v19,h20,hm⟩:=qC hm;rcases bif_c hm with⟨b21,hm⟩|⟨b21,hm⟩
       ·exact q_vv [qi 2 g18,qc 4 [42] 1 (jY (a1.Rows.getD (0:Int).toNat dd) v19 h20),qf 5 b21] 1 [3,35] [(52,vb true)] (q_J (true) hm)
       ·obtain⟨g22,hm⟩:=qK hm;obtain⟨v23,h24,hm⟩:=qC hm;exact q_vv [qi 2 g18,qc 4 [42] 1 (jY (a1.Rows.getD (0:Int).toNat dd) v19 h20),qf 5 b21,qi 10 g22,qk 12 [44,50] 1 ⟨[(44,vb false),(50,va [ci ((a1.Rows.getD (w64 ((a1.Rows.length:Int)-1)).toNat dd).A),ci ((a1.Rows.getD (w64 ((a1.Rows.length:Int)-1)).toNat dd).B)])],[]⟩ (jY (a1.Rows.getD (w64 ((a1.Rows.length:Int)-1)).toNat dd) v23 h24)] 1 [3,35] [(52,vb v23)] (q_J (v23) hm)
  ·rcases bif_c hm with⟨b3,hm⟩|⟨b3,hm⟩
   ·exact q_vv [qf 3 b3] 1 [12] [(22,vb true)] (q_J (true) hm)
   ·exact q_vv [qf 3 b3] 1 [12] [(22,vb (decide (a1.Low>(w64 (60-(a1.Rows.length:Int))))))] (q_J (decide (a1.Low>(w64 (60-(a1.Rows.length:Int))))) hm)
def qNY (r:qH):V:=va (zA r)
def qPG (r:qH):List (Nat×(Nat×O)):=[]
theorem PY (a1:qH) (r:qH) (hm:QO a1=some r):CtX Tryz.prog globs 91 0 0 [.agg (zA a1)] [] (qNY r) (qPG r):=by
 unfold QO at hm;refine q_E f91 8 λE=>?_;refine s_vn [] 0 ⟨[(1,vp 0 0),(2,vp 1 0)],[(0,bx 78 (zA a1)),(1,bx 78 [ci 0,.emp])]⟩ (q_sq ?_);obtain⟨v2,h3,hm⟩:=qC hm;refine s_vv [qc 1 [3] 2 (qEG a1 v2 h3)] 2 [] [(5,vb (v2 !=0))] (q_cq hm (λhm=>?_) (λhm=>?_))
 ·refine s_vu [] 2 [1,5] [] [0] [] (q_fu [.ownB 1 1 2 53 2 (rf qJ [])] [] [] [1] [(1,bx 78 [ci 0,.own 2 0 2 0]),(2,ro 0 53 2 0 (rf qJ []))] o0 ?_);refine q_fu [.len 2 (([]:List Span).length),.frz 2] [] [] [1,2] [(1,bx 78 [ci 0,tl qJ dd ([]:List Span)])] (o1 (And.intro (And.intro (show 0=([]:List Span).length from rfl) (show 0=([]:List Span).length from rfl)) (ke (([]:List Span).length)))) ?_;obtain rfl:=oi hm;exact q_rt q_rm
 ·refine q_sk (s_vn [] 2 ⟨[(2,vp 1 0)],[(1,bx 78 (zA a1))]⟩ ?_);obtain rfl:=oi hm;exact q_rt q_rm
def qUm (r:Span):V:=va (qJ r)
def qU8 (r:Span):List (Nat×(Nat×O)):=[]
def qN5 (a1:qH) (a2:Int) (x4:Bool):St:=
 ⟨[(1,vi a2),(2,vp 0 0),(4,vp 1 0),(18,vb x4)],[(0,bx 78 (zA a1)),(1,bx 53 [ci 0,ci 0])]⟩
theorem qIZ (a1:qH) (a2:Int) (r:Span) (hm:HZ a1 a2=some r):CtX Tryz.prog globs 95 0 0 [.agg (zA a1),.one (ci a2)] [] (qUm r) (qU8 r):=by
 unfold HZ at hm;refine q_E f95 28 λE=>?_;refine s_vn [] 0 ⟨[(1,vi a2),(2,vp 0 0),(4,vp 1 0)],[(0,bx 78 (zA a1)),(1,bx 53 [ci 0,ci 0])]⟩ (q_sq ?_);refine q_jn (qN5 a1 a2) (λp=>AO a1 a2 p=some r) ?_ ?_
 ·rintro x4 hm;refine q_cq hm (λhm=>?_) (λhm=>?_)
  ·refine s_vu [] 2 [1,2,18] [] [0] [] ?_;obtain rfl:=oi hm;exact q_rt q_rm
  ·refine q_sk ?_;obtain⟨g6,hm⟩:=qK hm;refine s_vn [qi 6 g6] 2 ⟨[(4,vp 1 0)],[(1,bx 53 (qJ (a1.Rows.getD (w64 (a2-a1.Low)).toNat dd)))]⟩ ?_;obtain rfl:=oi hm;exact q_rt q_rm
 ·rcases bif_c hm with⟨b3,hm⟩|⟨b3,hm⟩
  ·exact q_vv [qf 4 b3] 2 [] [(18,vb true)] (q_J (true) hm)
  ·exact q_vv [qf 4 b3] 2 [] [(18,vb (decide (a2≥(w64 (a1.Low+(a1.Rows.length:Int))))))] (q_J (decide (a2≥(w64 (a1.Low+(a1.Rows.length:Int))))) hm)
open Go.Proofs Go.Proofs.Tryz
def qVU (r:Span):V:=va (qJ r)
def qWb (r:Span):List (Nat×(Nat×O)):=[]
theorem PO (a1:Span) (a2:Span) (r:Span) (hm:ZX a1 a2=some r):CtX Tryz.prog globs 94 0 0 [.agg (qJ a1),.agg (qJ a2)] [] (qVU r) (qWb r):=by
 unfold ZX at hm;refine q_E f94 24 λE=>?_;refine s_vn [] 0 ⟨[(2,vp 0 0),(3,vp 1 0),(4,vp 2 0)],[(0,bx 53 (qJ a1)),(1,bx 53 (qJ a2)),(2,bx 53 [ci 0,ci 0])]⟩ (s_vu [] 3 [2,3] [(5,vp 3 0)] [0,1] [(3,bx 53 [ci (imax a1.A a2.A),ci (imin a1.B a2.B)])] ?_);refine q_sq (s_va 4 [(21,vb (decide ((imax a1.A a2.A)≥(imin a1.B a2.B))))] ?_);refine q_cq hm (λhm=>?_) (λhm=>?_)
 ·refine s_vu [] 4 [5,21] [] [3] [] ?_;obtain rfl:=oi hm;exact q_rt q_rm
 ·refine q_sk (s_vn [] 4 ⟨[(4,vp 2 0)],[(2,bx 53 [ci (imax a1.A a2.A),ci (imin a1.B a2.B)])]⟩ ?_);obtain rfl:=oi hm;exact q_rt q_rm
def qEy (a1:Int) (a2:qH) (a3:qH) (r:Span):V:=va (qJ r)
def qEW (a1:Int) (a2:qH) (a3:qH) (r:Span):List (Nat×(Nat×O)):=[(0,bx 78 (zA a2)),(1,bx 78 (zA a3))]
theorem qLT (a1:Int) (a2:qH) (a3:qH) (r:Span) (hm:GB a1 a2 a3=some r):CtX Tryz.prog globs 93 2 2 [.one (ci a1),.one (.bptr 0 0 0),.one (.bptr 1 0 0)] [(0,bx 78 (zA a2)),(1,bx 78 (zA a3))] (qEy a1 a2 a3 r) (qEW a1 a2 a3 r):=by
 unfold GB at hm;refine q_E f93 12 λE=>?_;refine s_vn [] 2 ⟨[(0,vi a1),(1,vp 0 0),(2,vp 1 0),(4,vp 2 0)],[(0,bx 78 (zA a2)),(1,bx 78 (zA a3)),(2,bx 53 [ci 0,ci 0])]⟩ ?_;obtain⟨v4,h5,hm⟩:=qC hm;obtain⟨v6,h7,hm⟩:=qC hm;obtain⟨v8,h9,hm⟩:=qC hm;refine s_du [qc 2 [5,6] 3 (qIZ a2 a1 v4 h5),qc 5 [8,9] 3 (qIZ a3 a1 v6 h7),qc 6 [7,10] 3 (PO v4 v6 v8 h9)] [0,0,3,0,0,31,63,127] 3 [0,1,2] [] [2] [(2,bx 53 (qJ v8))] ?_;obtain rfl:=oi hm;exact q_rt q_rm
def qCs (a1:qH) (a2:qH) (r:qH):V:=va [ci r.Low,.own 2 0 2 r.Rows.length]
def qCy (a1:qH) (a2:qH) (r:qH):List (Nat×(Nat×O)):=[(0,bx 78 (zA a1)),(1,bx 78 (zA a2)),(2,ro 0 53 2 r.Rows.length (rf qJ r.Rows))]
def RR (a1:qH) (a2:qH) (x4:Int):St:=
 ⟨[(0,vc (.fn 93 [.bptr 0 0 0,.bptr 1 0 0])),(2,vp 2 0),(3,vp 3 0),(5,vi x4)],[(0,bx 78 (zA a1)),(1,bx 78 (zA a2)),(2,bx 78 [ci 0,.emp])]⟩
def OY (a1:qH) (a2:qH) (x4:Int) (x18:Int) (x19:Int) (l20:List Span) (l20n:Nat):St:=
 (RR a1 a2 x4).up [] [(4,vi x18)] [] [(3,bx 78 [ci x19,.own 4 0 2 l20n]),(4,ro 0 53 2 l20n (rf qJ l20))]
def qHO (a1:qH) (a2:qH) (x4:Int) (l6:List Span) (v8:Span) (x14:Int):St:=
 (RR a1 a2 x4).up [] [(6,vp 5 0)] [] [(3,bx 78 [ci x14,.own 4 0 2 l6.length]),(4,ro 0 53 2 l6.length (rf qJ l6)),(5,bx 53 (qJ v8))]
def GZ (a1:qH) (a2:qH) (x3:Int) (x4:Int) (x5:Int) (l6:List Span) (l6n:Nat):St:=
 (RR a1 a2 x4).up [] [(4,vi x3)] [] [(3,bx 78 [ci x5,.own 4 0 2 l6n]),(4,ro 0 53 2 l6n (rf qJ l6))]
def CB (a1:qH) (a2:qH) (x21:Int) (x22:Int) (l23:List Span):St:=
 ⟨[(2,vp 2 0),(3,vp 3 0),(4,vi x21)],[(0,bx 78 (zA a1)),(1,bx 78 (zA a2)),(2,bx 78 [ci 0,.emp]),(3,bx 78 [ci x22,.own 4 0 2 l23.length]),(4,ro 0 53 2 l23.length (rf qJ l23))]⟩
theorem qGR (E:Env 2) (a1:qH) (a2:qH):∀(n:Nat) (x3:Int) (x4:Int) (x5:Int) (l6:List Span) (l6n:Nat) (res:Int×Int×(List Span)),l6.length=l6n->wI a1 a2 n x3 x4 x5 l6=some res->HL (kx E 46 2) (nd f92 244) (zM 0 (λo=>CB a1 a2 o.1 o.2.1 o.2.2) res) n (GZ a1 a2 x3 x4 x5 l6 l6n):=by
 intro n
 induction n with
 |zero=>
  intro x3 x4 x5 l6 l6n res hl0 hm;cases hm
 |succ n ih=>
  intro x3 x4 x5 l6 l6n res hl0 hm;subst hl0;refine qS (q_sq ?_);refine s_va 5 [(8,vb (decide (x4<60)))] (q_cq hm (λhm=>?_) (λhm=>?_))
  ·refine q_sk (q_jn (ι:=Int×Int×(List Span)×Nat) (λp=>OY a1 a2 x4 p.1 p.2.1 p.2.2.1 p.2.2.2) (λp=>p.2.2.1.length=p.2.2.2/\JR x4 (wI a1 a2 n) p.1 p.2.1 p.2.2.1=some res) ?_ ?_)
   ·rintro⟨x18,x19,l20,l20n⟩ ⟨el20,hm⟩;replace el20:l20.length=l20n:=el20;subst el20;show H _ (OY a1 a2 x4 x18 x19 l20 l20.length) _ _;exact q_vv [] 7 [5] [(5,vi (w64 (x4+1)))] (q_hl (GZ a1 a2 x18 (w64 (x4+1)) x19 l20 l20.length) (ih x18 (w64 (x4+1)) x19 l20 l20.length _ rfl hm))
   ·refine q_bk 1 ?_;obtain⟨v8,h9,hm⟩:=qC hm;refine s_vu [qd 2 (dex (cen [(0,0),(1,0)] [0,0] 3 2 (qEy x4 a1 a2 v8) (qEW x4 a1 a2 v8) [11,12] [0,1])) (wK (K:=(kx E 46 2)) ⟨[(11,vc (.fn 93 [.bptr 0 0 0,.bptr 1 0 0])),(12,vi x4)],[(0,bx 78 (zA a1)),(1,bx 78 (zA a2))]⟩ (opAt (rg f92 3912) 2) [(0,0),(1,0)] [0,0] 3 o0 rfl (qLT x4 a1 a2 v8 h9) (.inl rfl) (by kernel_rfl))] 5 [8] [(6,vp 5 0)] [] [(5,bx 53 (qJ v8))] (q_bk 2 ?_);obtain⟨v10,h11,hm⟩:=qC hm;refine s_vv [qc 1 [15] 6 (jY v8 v10 h11)] 6 [] [(14,vb (!v10))] (q_cq hm (λhm=>?_) (λhm=>?_))
    ·refine q_jn (qHO a1 a2 x4 l6 v8) (λp=>RL x4 l6 (wI a1 a2 n) v8 p=some res) ?_ ?_
     ·rintro x14 hm;obtain⟨g15,hm⟩:=qK hm;refine s_vu [qd 3 (drw 6 0 (rf qJ [v8])) (litP qJ dd 2 (λ_=>rfl) ([v8]:List Span) 1 rfl),qd 4 (drw 4 1 (rf qJ (l6++[v8]))) (apP qJ dd l6 ([v8]:List Span) l6.length 1 2 16 (1<=1) (ke _) rfl rfl (λ_=>rfl) (zZ g15))] 6 [6] [] [3,4,5] [(3,bx 78 [ci x14,.own 4 1 2 (l6.length+1)]),(4,ro 1 53 2 (l6.length+1) (rf qJ (l6++[v8])))] (q_va 7 [(4,vi (((l6.length+1):Nat):Int))] ?_);exact q_J ((((l6.length+1):Nat):Int),x14,(l6++[v8]),(l6.length+1)) ⟨(wA rfl rfl),hm⟩
     ·refine s_vv [] 6 [4,14] [(19,vb (x3==0))] (q_cq hm (λhm=>?_) (λhm=>?_))
      ·exact q_vu [] 6 [19] [] [3] [(3,bx 78 [ci x4,.own 4 0 2 l6.length])] (q_J (x4) hm)
      ·exact q_sk (q_J (x5) hm)
    ·refine s_vu [] 6 [6,14] [(31,vb (decide (x3>0)))] [5] [] (q_cq hm (λhm=>?_) (λhm=>?_))
     ·obtain⟨g17,hm⟩:=qK hm;exact q_vu [qd 3 (drw 6 0 (rf qJ [(Span.mk 0 0)])) (litP qJ dd 2 (λ_=>rfl) ([(Span.mk 0 0)]:List Span) 1 rfl),qd 4 (drw 4 1 (rf qJ (l6++[(Span.mk 0 0)]))) (apP qJ dd l6 ([(Span.mk 0 0)]:List Span) l6.length 1 2 16 (1<=1) (ke _) rfl rfl (λ_=>rfl) (zZ g17))] 6 [31] [] [3,4] [(3,bx 78 [ci x5,.own 4 1 2 (l6.length+1)]),(4,ro 1 53 2 (l6.length+1) (rf qJ (l6++[(Span.mk 0 0)])))] (q_J (x3,x5,(l6++[(Span.mk 0 0)]),(l6.length+1)) ⟨(wA rfl rfl),hm⟩)
     ·exact q_sk (q_J (x3,x5,l6,l6.length) ⟨rfl,hm⟩)
  ·refine q_ex 0 ?_;obtain rfl:=oi hm;exact q_l0
theorem qJh (a1:qH) (a2:qH) (r:qH) (hm:PQ a1 a2=some r):CtX Tryz.prog globs 92 2 2 [.one (.fn 93 [.bptr 0 0 0,.bptr 1 0 0])] [(0,bx 78 (zA a1)),(1,bx 78 (zA a2))] (qCs a1 a2 r) (qCy a1 a2 r):=by
 unfold PQ at hm;refine q_E f92 46 λE=>?_;refine s_vn [] 2 ⟨[(0,vc (.fn 93 [.bptr 0 0 0,.bptr 1 0 0])),(2,vp 2 0)],[(0,bx 78 (zA a1)),(1,bx 78 (zA a2)),(2,bx 78 [ci 0,.emp])]⟩ (s_vu [] 3 [] [(3,vp 3 0)] [] [(3,bx 78 [ci 0,.emp])] ?_);refine s_va 4 [(4,vi 0)] (q_sq ?_);refine s_va 4 [(5,vi (-60))] (q_fu [.ownB 3 1 4 53 2 (rf qJ [])] [] [] [3] [(3,bx 78 [ci 0,.own 4 0 2 0]),(4,ro 0 53 2 0 (rf qJ []))] o0 ?_);obtain⟨o24,h25,hm⟩:=qC hm
 refine zH (nd f92 244) 0 (by kernel_rfl) FUEL (λo=>CB a1 a2 o.1 o.2.1 o.2.2) o24 (q_hl (GZ a1 a2 0 (-60) 0 ([]:List Span) 0) (qGR E a1 a2 FUEL 0 (-60) 0 ([]:List Span) 0 o24 rfl h25)) ?_;obtain⟨g26,hm⟩:=qK hm
 refine s_wu [qd 3 dN (And.intro (zT g26).2.1 (zT g26).2.2)] [.row 4 o24.1.toNat (rf qJ (o24.2.2.take o24.1.toNat))] (o1 (tkP qJ dd o24.2.2 o24.2.2.length o24.1.toNat (show o24.1.toNat<=o24.2.2.length by have:=(zT g26);omega))) 5 [4] [] [3,4] [(3,bx 78 [ci o24.2.1,.own 4 0 2 o24.1.toNat]),(4,ro 0 53 2 o24.1.toNat (rf qJ (o24.2.2.take o24.1.toNat)))] (s_vu [] 5 [3] [] [2,3] [(2,bx 78 [ci o24.2.1,.own 4 0 2 o24.1.toNat])] ?_)
 refine q_fu [.len 4 ((o24.2.2.take o24.1.toNat).length)] [] [] [2,4] [(2,bx 78 [ci o24.2.1,.own 4 0 2 ((o24.2.2.take o24.1.toNat).length)]),(4,ro 0 53 2 ((o24.2.2.take o24.1.toNat).length) (rf qJ (o24.2.2.take o24.1.toNat)))] (o1 (And.intro (Eq.symm (show(o24.2.2.take o24.1.toNat).length=o24.1.toNat from(RB rfl (show o24.1.toNat<=o24.2.2.length by have:=(zT g26);omega)))) (Eq.symm (show(o24.2.2.take o24.1.toNat).length=o24.1.toNat from(RB rfl (show o24.1.toNat<=o24.2.2.length by have:=(zT g26);omega)))))) ?_;obtain rfl:=oi hm;exact q_sw 4 2 (q_rt q_rm)
open Go.Proofs Go.Proofs.Tryz
def qQP (r:qH):V:=va [ci r.Low,.own 0 0 2 r.Rows.length]
def qQk (r:qH):List (Nat×(Nat×O)):=[(0,ro 0 53 2 r.Rows.length (rf qJ r.Rows))]
theorem qN1 (a1:qH) (a2:qH) (r:qH) (hm:GG a1 a2=some r):CtX Tryz.prog globs 46 0 0 [.agg (zA a1),.agg (zA a2)] [] (qQP r) (qQk r):=by
 unfold GG at hm;refine q_E f46 11 λE=>?_;refine s_vn [] 0 ⟨[(2,vp 0 0),(3,vp 1 0),(4,vp 2 0)],[(0,bx 78 (zA a1)),(1,bx 78 (zA a2)),(2,bx 78 [ci 0,.emp])]⟩ ?_;obtain⟨v3,h4,hm⟩:=qC hm;obtain⟨v5,h6,hm⟩:=qC hm;refine s_du [qc 1 [5] 3 (PY a1 v3 h4),qc 3 [7] 3 (PY a2 v5 h6)] [0,1,0,7,15,31] 3 [] [] [0,1] [(0,bx 78 (zA v3)),(1,bx 78 (zA v5))] ?_;obtain⟨v7,h8,hm⟩:=qC hm
 refine s_vn [qd 1 (dex (cen [(0,0),(1,0)] [0,0] 1 2 (qCs v3 v5 v7) (qCy v3 v5 v7) [9] [0,1])) (wK (K:=(kx E 11 0)) ⟨[(9,vc (.fn 93 [.bptr 0 0 0,.bptr 1 0 0]))],[(0,bx 78 (zA v3)),(1,bx 78 (zA v5))]⟩ (opAt (rg f46 14) 1) [(0,0),(1,0)] [0,0] 1 o0 rfl (qJh v3 v5 v7 h8) (.inl rfl) (by kernel_rfl))] 3 ⟨[(4,vp 2 0)],[(2,bx 78 [ci v7.Low,.own 3 0 2 v7.Rows.length]),(3,ro 0 53 2 v7.Rows.length (rf qJ v7.Rows))]⟩ ?_;obtain rfl:=oi hm;exact q_sw 3 0 (q_rt q_rm)
def VZ (r:(List qN)×Int):V:= .tup [.one (.own 0 0 3 r.1.length),.one (ci r.2)]
def GI (r:(List qN)×Int):List (Nat×(Nat×O)):=[(0,ro 0 80 3 r.1.length (rf qR r.1))]
def qAu (a1:Scan) (a2:Int) (a3:Int) (l8:List qH) (l8n:Nat) (x9:Int):St:=
 ⟨[(1,vi a2),(2,vi a3),(3,vp 0 0),(9,vo 1 0 2 l8n),(27,vi (a1.Rings.length:Int)),(28,vi x9)],[(0,bx 25 (wF a1)),(1,ro 0 78 2 l8n (rf zA l8))]⟩
def qF4 (a1:Scan) (l16:List qH):St:=
 ⟨[(3,vp 0 0),(9,vo 1 0 2 l16.length)],[(0,bx 25 (wF a1)),(1,ro 0 78 2 l16.length (rf zA l16))]⟩
def qAR (a1:Scan) (o17:(List qH)) (l22:List qN) (l22n:Nat) (x23:Int):St:=
 ⟨[(3,vp 0 0),(9,vo 1 0 2 o17.length),(13,vo 2 0 3 l22n),(55,vi (((w64 ((a1.Rings.length:Int)-1)).toNat:Nat):Int)),(56,vi x23)],[(0,bx 25 (wF a1)),(1,ro 0 78 2 o17.length (rf zA o17)),(2,ro 0 80 3 l22n (rf qR l22))]⟩
def qGb (l36:List qN):St:=
 ⟨[(13,vo 2 0 3 l36.length)],[(2,ro 0 80 3 l36.length (rf qR l36))]⟩
theorem qNw (E:Env 0) (a1:Scan) (a2:Int) (a3:Int):∀(n:Nat) (l8:List qH) (l8n:Nat) (x9:Int) (res:((List qN)×Int)⊕(List qH)),l8.length=l8n->TD a1 a2 a3 n l8 x9=some res->HL (kx E 94 0) (nd f23 244) (wJ 0 (λo=>qF4 a1 o) (λv st=>RetQ Tryz.prog f23 (VZ v) (GI v) .ret st) res) n (qAu a1 a2 a3 l8 l8n x9):=by
 intro n
 induction n with
 |zero=>
  intro l8 l8n x9 res hl0 hm;cases hm
 |succ n ih=>
  intro l8 l8n x9 res hl0 hm;subst hl0;refine qS (s_va 2 [(29,vb (decide (x9<(a1.Rings.length:Int))))] ?_);refine q_sq (q_cq hm (λhm=>?_) (λhm=>?_))
  ·refine q_sk (q_sq ?_);refine q_bk 1 (s_vv [] 2 [29] [(10,vi x9)] ?_);obtain⟨g11,hm⟩:=qK hm;obtain⟨v12,h13,hm⟩:=qC hm;refine s_vu [qi 3 g11,qc 7 [36,37,38] 2 (qLp (a1.Rings.getD x9.toNat dd) a2 a3 v12 h13)] 2 [] [(11,vp 3 0),(12,vi v12.2)] [] [(2,ro 0 53 2 v12.1.Rows.length (rf qJ v12.1.Rows)),(3,bx 78 [ci v12.1.Low,.own 2 0 2 v12.1.Rows.length])] (q_sq ?_);refine s_vv [] 4 [12] [(43,vb (v12.2 !=0))] (q_cq hm (λhm=>?_) (λhm=>?_))
   ·refine s_vn [] 4 ⟨[(6,vc (.emp)),(7,vi 30)],[]⟩ (q_fo 6 4 80 3 qR ?_);refine q_fl 6 4 80 3 qR ?_;obtain rfl:=oi hm;refine q_sw 4 0 (q_rt ?_);exact zK (([]:List qN),30) q_rm
   ·refine q_sk ?_;obtain⟨g15,hm⟩:=qK hm;refine q_vu [qi 3 g15,qd 4 (dpr [.frz 2] (drw 0 0 (rf zA (l8.set x9.toNat v12.1)))) (And.intro (ke v12.1.Rows.length) (ke v12.1.Rows.length)),qd 4 dN (stP zA dd v12.1 l8 l8.length x9.toNat 0 (zA v12.1) rfl (qW (zD g15)) rfl)] 4 [10,11,43] [] [1,2,3] [(1,ro 0 78 2 l8.length (rf zA (l8.set x9.toNat v12.1)))] (q_vv [] 4 [28] [(28,vi (w64 (x9+1)))] ?_);exact q_hl (qAu a1 a2 a3 (l8.set x9.toNat v12.1) l8.length (w64 (x9+1))) (ih (l8.set x9.toNat v12.1) l8.length (w64 (x9+1)) _ (yZ rfl) hm)
  ·refine q_ex 0 ?_;obtain rfl:=oi hm;exact q_l1 l8
theorem qMo (E:Env 0) (a1:Scan) (o17:(List qH)):∀(n:Nat) (l22:List qN) (l22n:Nat) (x23:Int) (res:((List qN)×Int)⊕(List qN)),l22.length=l22n->TG a1 o17 n l22 x23=some res->HL (kx E 94 0) (nd f23 1012) (wJ 2 qGb (λv st=>RetQ Tryz.prog f23 (VZ v) (GI v) .ret st) res) n (qAR a1 o17 l22 l22n x23):=by
 intro n
 induction n with
 |zero=>
  intro l22 l22n x23 res hl0 hm;cases hm
 |succ n ih=>
  intro l22 l22n x23 res hl0 hm;subst hl0;refine qS (s_va 3 [(57,vb (decide (x23<(((w64 ((a1.Rings.length:Int)-1)).toNat:Nat):Int))))] ?_);refine q_sq (q_cq hm (λhm=>?_) (λhm=>?_))
  ·refine q_sk (q_sq ?_);refine q_bk 3 (s_vv [] 3 [57] [(14,vi x23)] ?_);obtain⟨g25,hm⟩:=qK hm;obtain⟨g26,hm⟩:=qK hm;obtain⟨v27,h28,hm⟩:=qC hm;refine s_du [qi 2 g25,qd 3 dN (qW (zD g25)),qi 7 g26,qd 8 dN (qW (zD g26)),qc 9 [62,67] 3 (qN1 (o17.getD x23.toNat dd) (o17.getD ((w64 (x23+1)).toNat) dd) v27 h28)] [0,0,3,7,0,0,32,112,240,511,0,2047] 3 [] [(15,vp 4 0)] [] [(3,ro 0 53 2 v27.Rows.length (rf qJ v27.Rows)),(4,bx 78 [ci v27.Low,.own 3 0 2 v27.Rows.length])] (q_sq ?_);refine s_va 5 [(72,vb ((v27.Rows.length:Int)==0))] (q_cq hm (λhm=>?_) (λhm=>?_))
   ·refine s_vn [] 5 ⟨[(6,vc (.emp)),(7,vi 30)],[]⟩ (q_fo 6 5 80 3 qR ?_);refine q_fl 6 5 80 3 qR ?_;obtain rfl:=oi hm;refine q_sw 5 0 (q_rt ?_);exact zK (([]:List qN),30) q_rm
   ·refine q_sk ?_;obtain⟨g33,hm⟩:=qK hm;obtain⟨g34,hm⟩:=qK hm;obtain⟨g35,hm⟩:=qK hm
    refine q_xu [.frz 3] (o1 (ke v27.Rows.length)) [qi 6 g33,qi 12 g34,qi 18 g35,qd 19 (drw 0 0 (rf qR (l22.set x23.toNat (qN.mk (w64 (((a1.Rings.getD (w64 (x23+1)).toNat dd).Z)-((a1.Rings.getD x23.toNat dd).Z))) v27)))) (stP qR dd (qN.mk (w64 (((a1.Rings.getD (w64 (x23+1)).toNat dd).Z)-((a1.Rings.getD x23.toNat dd).Z))) v27) l22 l22.length x23.toNat 0 [ci (w64 (((a1.Rings.getD (w64 (x23+1)).toNat dd).Z)-((a1.Rings.getD x23.toNat dd).Z))),ci v27.Low,tl qJ dd v27.Rows] rfl (qW (zD g35)) rfl)] [] o0 [0,0,0,4,0,16,60,124,252,0,512,0,3584,7680,15872,32764,0,131068,262143,524287] 5 [14,15,72] [] [2,3,4] [(2,ro 0 80 3 l22.length (rf qR (l22.set x23.toNat (qN.mk (w64 (((a1.Rings.getD (w64 (x23+1)).toNat dd).Z)-((a1.Rings.getD x23.toNat dd).Z))) v27))))] ?_
    exact q_vv [] 5 [56] [(56,vi (w64 (x23+1)))] (q_hl (qAR a1 o17 (l22.set x23.toNat (qN.mk (w64 (((a1.Rings.getD (w64 (x23+1)).toNat dd).Z)-((a1.Rings.getD x23.toNat dd).Z))) v27)) l22.length (w64 (x23+1))) (ih (l22.set x23.toNat (qN.mk (w64 (((a1.Rings.getD (w64 (x23+1)).toNat dd).Z)-((a1.Rings.getD x23.toNat dd).Z))) v27)) l22.length (w64 (x23+1)) _ (yZ rfl) hm))
  ·refine q_ex 2 ?_;obtain rfl:=oi hm;exact q_l1 l22
theorem qRX (a1:Scan) (a2:Int) (a3:Int) (r:(List qN)×Int) (hm:HJ a1 a2 a3=some r):CtX Tryz.prog globs 23 0 0 [.agg (wF a1),.one (ci a2),.one (ci a3)] [] (VZ r) (GI r):=by
 unfold HJ at hm;refine q_E f23 94 λE=>?_;refine s_vn [] 0 ⟨[(1,vi a2),(2,vi a3),(3,vp 0 0)],[(0,bx 25 (wF a1))]⟩ (q_sq ?_);obtain⟨v4,h5,hm⟩:=qC hm;refine s_vv [qc 1 [16] 1 (qI9 a1 v4 h5)] 1 [] [(8,vi v4)] (s_va 1 [(19,vb (v4 !=0))] ?_);refine q_cq hm (λhm=>?_) (λhm=>?_)
 ·refine s_vn [] 1 ⟨[(6,vc (.emp)),(7,vi v4)],[]⟩ (q_fo 6 1 80 3 qR ?_);refine q_fl 6 1 80 3 qR ?_;obtain rfl:=oi hm;exact q_sw 1 0 (q_rt q_rm)
 ·refine q_sk ?_;obtain⟨g7,hm⟩:=qK hm;refine s_vu [qd 3 (drw 1 0 (rf zA (List.replicate ((a1.Rings.length:Int).toNat) (qH.mk 0 ([]:List Span))))) (mkPe zA dd (qH.mk 0 ([]:List Span)) (a1.Rings.length:Int) 32 [ci 0,.emp] (GW g7) (.same _ (.emp _ .nil)))] 1 [8,19] [(9,vo 1 0 2 ((a1.Rings.length:Int).toNat))] [] [(1,ro 0 78 2 ((a1.Rings.length:Int).toNat) (rf zA (List.replicate ((a1.Rings.length:Int).toNat) (qH.mk 0 ([]:List Span)))))] (q_sq ?_);refine s_va 2 [(27,vi (a1.Rings.length:Int)),(28,vi 0)] ?_;obtain⟨u19,h18,hm⟩:=qC hm
  refine zP (nd f23 244) 0 (by kernel_rfl) FUEL (λo=>qF4 a1 o) (λv st=>RetQ Tryz.prog f23 (VZ v) (GI v) .ret st) u19 (q_hl (qAu a1 a2 a3 (List.replicate ((a1.Rings.length:Int).toNat) (qH.mk 0 ([]:List Span))) ((a1.Rings.length:Int).toNat) 0) (qNw E a1 a2 a3 FUEL (List.replicate ((a1.Rings.length:Int).toNat) (qH.mk 0 ([]:List Span))) ((a1.Rings.length:Int).toNat) 0 u19 GO h18)) ?_ ?_
  ·rintro v20 rfl st hr;obtain rfl:=oi hm;exact hr
  ·rintro o17 rfl;replace hm:_=some r:=hm;obtain⟨g21,hm⟩:=qK hm;refine s_vu [qd 4 (drw 2 0 (rf qR (List.replicate ((w64 ((a1.Rings.length:Int)-1)).toNat) (qN.mk 0 (qH.mk 0 ([]:List Span)))))) (mkPe qR dd (qN.mk 0 (qH.mk 0 ([]:List Span))) (w64 ((a1.Rings.length:Int)-1)) 40 [ci 0,ci 0,.emp] (GW g21) (.same _ (.same _ (.emp _ .nil))))] 2 [] [(13,vo 2 0 3 ((w64 ((a1.Rings.length:Int)-1)).toNat))] [] [(2,ro 0 80 3 ((w64 ((a1.Rings.length:Int)-1)).toNat) (rf qR (List.replicate ((w64 ((a1.Rings.length:Int)-1)).toNat) (qN.mk 0 (qH.mk 0 ([]:List Span))))))] (q_sq ?_)
   refine s_va 3 [(55,vi (((w64 ((a1.Rings.length:Int)-1)).toNat:Nat):Int)),(56,vi 0)] ?_;obtain⟨u39,h38,hm⟩:=qC hm;refine zP (nd f23 1012) 2 (by kernel_rfl) FUEL qGb (λv st=>RetQ Tryz.prog f23 (VZ v) (GI v) .ret st) u39 (q_hl (qAR a1 o17 (List.replicate ((w64 ((a1.Rings.length:Int)-1)).toNat) (qN.mk 0 (qH.mk 0 ([]:List Span)))) ((w64 ((a1.Rings.length:Int)-1)).toNat) 0) (qMo E a1 o17 FUEL (List.replicate ((w64 ((a1.Rings.length:Int)-1)).toNat) (qN.mk 0 (qH.mk 0 ([]:List Span)))) ((w64 ((a1.Rings.length:Int)-1)).toNat) 0 u39 GO h38)) ?_ ?_
   ·rintro v40 rfl st hr;obtain rfl:=oi hm;exact hr
   ·rintro o37 rfl;replace hm:_=some r:=hm;refine s_vv [] 3 [13] [(6,vo 2 0 3 o37.length),(7,vi 0)] ?_;obtain rfl:=oi hm;exact q_sw 2 0 (q_rt q_rm)
end Saw
end Go.SL

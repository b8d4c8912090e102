import Derived.Test.YthbamnkheinbgaaGreatDoorSBase
import Derived.Test.YthbamnkheinbgaaGreatDoorSFa3
import Derived.Test.YthbamnkheinbgaaGreatDoorSFa2
set_option linter.unusedVariables false
set_option linter.unusedSimpArgs false
namespace Go.SL
namespace Saw
open Go.Proofs Go.Proofs.Tryz
set_option maxHeartbeats 4000000
set_option maxRecDepth 100000
def qEk (r:Bool):V:=vb r
def qEn (r:Bool):List (Nat×(Nat×O)):=[]
def qBZ (x3:Bool):St:=
 ⟨[(2,vb x3)],[]⟩
theorem qDd (a1:Span) (r:Bool) (hm:JK a1=some r):CtX Tryz.prog globs 117 0 0 [.agg (qI a1)] [] (qEk r) (qEn r):=by
 unfold JK at hm;refine q_E f117 17 λE=>?_;refine s_vn [] 0 ⟨[(1,vp 0 0)],[(0,bx 64 (qI a1))]⟩ (q_jn (qBZ) (λp=>JH p=some r) ?_ ?_)
 ·rintro x3 hm;obtain rfl:=oi hm;exact q_rt q_rm
 ·rcases bif_c hm with⟨b2,hm⟩|⟨b2,hm⟩
  ·exact q_vn [qf 6 b2] 1 ⟨[(2,vb (decide ((imax a1.A a1.B)<=600)))],[]⟩ (q_J (decide ((imax a1.A a1.B)<=600)) hm)
  ·exact q_vn [qf 6 b2] 1 ⟨[(2,vb false)],[]⟩ (q_J (false) hm)
def JT (r:Int):V:=vi r
def JS (r:Int):List (Nat×(Nat×O)):=[]
def RO (a1:qC) (x6:Int):St:=
 ⟨[(1,vp 0 0),(3,vi (a1.Rows.length:Int)),(24,vc (tl qI dd a1.Rows)),(25,vi (a1.Rows.length:Int)),(26,vi x6)],[(0,bx 48 (qM a1))]⟩
def HV (a1:qC):St:=
 ⟨[(1,vp 0 0),(3,vi (a1.Rows.length:Int))],[(0,bx 48 (qM a1))]⟩
def qDw (a1:qC) (x27:Int) (x33:Bool):St:=
 ⟨[(54,vc (tl qI dd a1.Rows)),(55,vi (a1.Rows.length:Int)),(56,vi x27),(66,vb x33)],[]⟩
def RU (a1:qC) (x27:Int):St:=
 ⟨[(54,vc (tl qI dd a1.Rows)),(55,vi (a1.Rows.length:Int)),(56,vi x27)],[]⟩
def SN :St:=
 ⟨[],[]⟩
def qC4 (a1:qC) (x25:Bool):St:=
 ⟨[(1,vp 0 0),(52,vb x25)],[(0,bx 48 (qM a1))]⟩
def qCM (a1:qC) (x4:Bool):St:=
 ⟨[(1,vp 0 0),(3,vi (a1.Rows.length:Int)),(22,vb x4)],[(0,bx 48 (qM a1))]⟩
theorem qCD (E:Env 0) (a1:qC):∀(n:Nat) (x6:Int) (res:Int⊕Unit),jM a1 n x6=some res->HL (kx E 68 0) (nd f62 500) (jJ 0 (λo=>HV a1) (λv st=>RetQ Tryz.prog f62 (JT v) (JS v) .ret st) res) n (RO a1 x6):=by
 intro n
 induction n with
 |zero=>
  intro x6 res hm;cases hm
 |succ n ih=>
  intro x6 res hm;refine qU (s_va 1 [(27,vb (decide (x6<(a1.Rows.length:Int))))] ?_);refine q_sq (q_cq hm (λhm=>?_) (λhm=>?_))
  ·refine q_sk (q_sq ?_);refine q_bk 1 ?_;obtain⟨g8,hm⟩:=qH hm;refine s_vu [qi 0 g8] 1 [27] [(5,vp 1 0)] [] [(1,bx 64 (qI (a1.Rows.getD x6.toNat dd)))] ?_;obtain⟨v9,h10,hm⟩:=qE hm;refine s_vu [qc 1 [30] 2 (qDd (a1.Rows.getD x6.toNat dd) v9 h10)] 2 [5] [(32,vb (!v9))] [1] [] (q_cq hm (λhm=>?_) (λhm=>?_))
   ·refine s_vn [] 2 ⟨[(2,vi 9)],[]⟩ ?_;obtain rfl:=oi hm;refine q_rt (zR 9 ?_);exact q_rm
   ·refine q_sk (q_vv [] 2 [26,32] [(26,vi (w64 (x6+1)))] ?_);exact q_hl (RO a1 (w64 (x6+1))) (ih (w64 (x6+1)) _ hm)
  ·refine q_ex 0 ?_;obtain rfl:=oi hm;exact q_l1 ()
theorem qCA (E:Env 0) (a1:qC):∀(n:Nat) (x27:Int) (res:Int⊕Unit),wJ a1 n x27=some res->HL (kx E 68 0) (nd f62 4084) (jJ 2 (λo=>SN) (λv st=>RetQ Tryz.prog f62 (JT v) (JS v) .ret st) res) n (RU a1 x27):=by
 intro n
 induction n with
 |zero=>
  intro x27 res hm;cases hm
 |succ n ih=>
  intro x27 res hm;refine qU (s_va 1 [(57,vb (decide (x27<(a1.Rows.length:Int))))] ?_);refine q_sq (q_cq hm (λhm=>?_) (λhm=>?_))
  ·refine q_sk (q_sq ?_);refine q_bk 3 ?_;obtain⟨g29,hm⟩:=qH hm;refine s_vu [qi 0 g29] 1 [57] [(7,vp 1 0)] [] [(1,bx 64 (qI (a1.Rows.getD x27.toNat dd)))] (q_jn (qDw a1 x27) (λp=>XX x27 (wJ a1 n) p=some res) ?_ ?_)
   ·rintro x33 hm;refine q_cq hm (λhm=>?_) (λhm=>?_)
    ·refine s_vn [] 2 ⟨[(2,vi 19)],[]⟩ ?_;obtain rfl:=oi hm;refine q_rt (zR 19 ?_);exact q_rm
    ·refine q_sk (q_vv [] 2 [56,66] [(56,vi (w64 (x27+1)))] ?_);exact q_hl (RU a1 (w64 (x27+1))) (ih (w64 (x27+1)) _ hm)
   ·obtain⟨v30,h31,hm⟩:=qE hm;rcases bif_c hm with⟨b32,hm⟩|⟨b32,hm⟩
    ·exact q_vu [qc 1 [60] 2 (wX (a1.Rows.getD x27.toNat dd) v30 h31),qf 2 b32] 2 [7] [(66,vb (!((((a1.Rows.getD x27.toNat dd).A)==0)&&((((a1.Rows.getD x27.toNat dd).B)==0)&&true))))] [1] [] (q_J (!((((a1.Rows.getD x27.toNat dd).A)==0)&&((((a1.Rows.getD x27.toNat dd).B)==0)&&true))) hm)
    ·exact q_vu [qc 1 [60] 2 (wX (a1.Rows.getD x27.toNat dd) v30 h31),qf 2 b32] 2 [7] [(66,vb false)] [1] [] (q_J (false) hm)
  ·refine q_ex 2 ?_;obtain rfl:=oi hm;exact q_l1 ()
theorem IZ (a1:qC) (r:Int) (hm:WU a1=some r):CtX Tryz.prog globs 62 0 0 [.agg (qM a1)] [] (JT r) (JS r):=by
 unfold WU at hm;refine q_E f62 68 λE=>?_;refine s_vn [] 0 ⟨[(1,vp 0 0)],[(0,bx 48 (qM a1))]⟩ (s_va 1 [(3,vi (a1.Rows.length:Int))] ?_);refine q_sq (s_va 1 [(12,vb (decide ((a1.Rows.length:Int)>120)))] ?_);refine q_cq hm (λhm=>?_) (λhm=>?_)
 ·refine s_vn [] 1 ⟨[(2,vi 4)],[]⟩ ?_;obtain rfl:=oi hm;exact q_rt q_rm
 ·refine q_sk (q_sq ?_);refine q_jn (qCM a1) (λp=>KB a1 p=some r) ?_ ?_
  ·rintro x4 hm;refine q_cq hm (λhm=>?_) (λhm=>?_)
   ·refine s_vn [] 1 ⟨[(2,vi 9)],[]⟩ ?_;obtain rfl:=oi hm;exact q_rt q_rm
   ·refine q_sk (q_sq ?_);refine s_vv [] 1 [22] [(24,vc (tl qI dd a1.Rows)),(25,vi (a1.Rows.length:Int)),(26,vi 0)] ?_;obtain⟨u14,h13,hm⟩:=qE hm;refine zZ (nd f62 500) 0 (by kernel_rfl) FUEL (λo=>HV a1) (λv st=>RetQ Tryz.prog f62 (JT v) (JS v) .ret st) u14 (q_hl (RO a1 0) (qCD E a1 FUEL 0 u14 h13)) ?_ ?_
    ·rintro v15 rfl st hr;obtain rfl:=oi hm;exact hr
    ·rintro o12 rfl;replace hm:_=some r:=hm;refine q_sq (s_va 1 [(35,vb ((a1.Rows.length:Int)==0))] ?_);refine q_cq hm (λhm=>?_) (λhm=>?_)
     ·refine q_sq (s_vn [] 1 ⟨[(38,vb (a1.Low !=0))],[]⟩ ?_);refine q_cq hm (λhm=>?_) (λhm=>?_)
      ·refine s_vn [] 1 ⟨[(2,vi 19)],[]⟩ ?_;obtain rfl:=oi hm;exact q_rt q_rm
      ·refine q_sk (s_vn [] 1 ⟨[(2,vi 0)],[]⟩ ?_);obtain rfl:=oi hm;exact q_rt q_rm
     ·refine q_sk (q_sq ?_);refine q_jn (qC4 a1) (λp=>XW a1 p=some r) ?_ ?_
      ·rintro x25 hm;refine q_cq hm (λhm=>?_) (λhm=>?_)
       ·refine s_vn [] 1 ⟨[(2,vi 19)],[]⟩ ?_;obtain rfl:=oi hm;exact q_rt q_rm
       ·refine q_sk (q_sq ?_);refine s_vn [] 1 ⟨[(54,vc (tl qI dd a1.Rows)),(55,vi (a1.Rows.length:Int)),(56,vi 0)],[]⟩ ?_;obtain⟨u37,h36,hm⟩:=qE hm;refine zZ (nd f62 4084) 2 (by kernel_rfl) FUEL (λo=>SN) (λv st=>RetQ Tryz.prog f62 (JT v) (JS v) .ret st) u37 (q_hl (RU a1 0) (qCA E a1 FUEL 0 u37 h36)) ?_ ?_
        ·rintro v38 rfl st hr;obtain rfl:=oi hm;exact hr
        ·rintro o35 rfl;replace hm:_=some r:=hm;refine s_vn [] 1 ⟨[(2,vi 0)],[]⟩ ?_;obtain rfl:=oi hm;exact q_rt q_rm
      ·obtain⟨g18,hm⟩:=qH hm;obtain⟨v19,h20,hm⟩:=qE hm;rcases bif_c hm with⟨b21,hm⟩|⟨b21,hm⟩
       ·exact q_vv [qi 2 g18,qc 4 [42] 1 (wX (a1.Rows.getD (0:Int).toNat dd) v19 h20),qf 5 b21] 1 [3,35] [(52,vb true)] (q_J (true) hm)
       ·obtain⟨g22,hm⟩:=qH hm;obtain⟨v23,h24,hm⟩:=qE hm;exact q_vv [qi 2 g18,qc 4 [42] 1 (wX (a1.Rows.getD (0:Int).toNat dd) v19 h20),qf 5 b21,qi 10 g22,qk 12 [44,50] 1 ⟨[(44,vb false),(50,va [ci ((a1.Rows.getD (w64 ((a1.Rows.length:Int)-1)).toNat dd).A),ci ((a1.Rows.getD (w64 ((a1.Rows.length:Int)-1)).toNat dd).B)])],[]⟩ (wX (a1.Rows.getD (w64 ((a1.Rows.length:Int)-1)).toNat dd) v23 h24)] 1 [3,35] [(52,vb v23)] (q_J (v23) hm)
  ·rcases bif_c hm with⟨b3,hm⟩|⟨b3,hm⟩
   ·exact q_vv [qf 3 b3] 1 [12] [(22,vb true)] (q_J (true) hm)
   ·exact q_vv [qf 3 b3] 1 [12] [(22,vb (decide (a1.Low>(w64 (60-(a1.Rows.length:Int))))))] (q_J (decide (a1.Low>(w64 (60-(a1.Rows.length:Int))))) hm)
def qFV (r:qC):V:=va (qM r)
def qGu (r:qC):List (Nat×(Nat×O)):=[]
theorem DI (a1:qC) (r:qC) (hm:QZ a1=some r):CtX Tryz.prog globs 78 0 0 [.agg (qM a1)] [] (qFV r) (qGu r):=by
 unfold QZ at hm;refine q_E f78 8 λE=>?_;refine s_vn [] 0 ⟨[(1,vp 0 0),(2,vp 1 0)],[(0,bx 48 (qM a1)),(1,bx 48 [ci 0,.emp])]⟩ (q_sq ?_);obtain⟨v2,h3,hm⟩:=qE hm;refine s_vv [qc 1 [3] 2 (IZ a1 v2 h3)] 2 [] [(5,vb (v2 !=0))] (q_cq hm (λhm=>?_) (λhm=>?_))
 ·refine s_vu [] 2 [1,5] [] [0] [] (q_fu [.ownB 1 1 2 64 2 (rf qI [])] [] [] [1] [(1,bx 48 [ci 0,.own 2 0 2 0]),(2,ro 0 64 2 0 (rf qI []))] o0 ?_);refine q_fu [.len 2 (([]:List Span).length),.frz 2] [] [] [1,2] [(1,bx 48 [ci 0,tl qI dd ([]:List Span)])] (o1 (And.intro (And.intro (show 0=([]:List Span).length from rfl) (show 0=([]:List Span).length from rfl)) (kr (([]:List Span).length)))) ?_;obtain rfl:=oi hm;exact q_rt q_rm
 ·refine q_sk (s_vn [] 2 ⟨[(2,vp 1 0)],[(1,bx 48 (qM a1))]⟩ ?_);obtain rfl:=oi hm;exact q_rt q_rm
open Go.Proofs Go.Proofs.Tryz
def qKA (r:Span):V:=va (qI r)
def qK4 (r:Span):List (Nat×(Nat×O)):=[]
def qF9 (a1:qC) (a2:Int) (x4:Bool):St:=
 ⟨[(1,vi a2),(2,vp 0 0),(4,vp 1 0),(18,vb x4)],[(0,bx 48 (qM a1)),(1,bx 64 [ci 0,ci 0])]⟩
theorem qCw (a1:qC) (a2:Int) (r:Span) (hm:UR a1 a2=some r):CtX Tryz.prog globs 82 0 0 [.agg (qM a1),.one (ci a2)] [] (qKA r) (qK4 r):=by
 unfold UR at hm;refine q_E f82 28 λE=>?_;refine s_vn [] 0 ⟨[(1,vi a2),(2,vp 0 0),(4,vp 1 0)],[(0,bx 48 (qM a1)),(1,bx 64 [ci 0,ci 0])]⟩ (q_sq ?_);refine q_jn (qF9 a1 a2) (λp=>GP a1 a2 p=some r) ?_ ?_
 ·rintro x4 hm;refine q_cq hm (λhm=>?_) (λhm=>?_)
  ·refine s_vu [] 2 [1,2,18] [] [0] [] ?_;obtain rfl:=oi hm;exact q_rt q_rm
  ·refine q_sk ?_;obtain⟨g6,hm⟩:=qH hm;refine s_vn [qi 6 g6] 2 ⟨[(4,vp 1 0)],[(1,bx 64 (qI (a1.Rows.getD (w64 (a2-a1.Low)).toNat dd)))]⟩ ?_;obtain rfl:=oi hm;exact q_rt q_rm
 ·rcases bif_c hm with⟨b3,hm⟩|⟨b3,hm⟩
  ·exact q_vv [qf 4 b3] 2 [] [(18,vb true)] (q_J (true) hm)
  ·exact q_vv [qf 4 b3] 2 [] [(18,vb (decide (a2≥(w64 (a1.Low+(a1.Rows.length:Int))))))] (q_J (decide (a2≥(w64 (a1.Low+(a1.Rows.length:Int))))) hm)
def qLt (r:Span):V:=va (qI r)
def qLJ (r:Span):List (Nat×(Nat×O)):=[]
theorem qKZ (a1:Span) (a2:Span) (r:Span) (hm:SI a1 a2=some r):CtX Tryz.prog globs 94 0 0 [.agg (qI a1),.agg (qI a2)] [] (qLt r) (qLJ r):=by
 unfold SI at hm;refine q_E f94 24 λE=>?_;refine s_vn [] 0 ⟨[(2,vp 0 0),(3,vp 1 0),(4,vp 2 0)],[(0,bx 64 (qI a1)),(1,bx 64 (qI a2)),(2,bx 64 [ci 0,ci 0])]⟩ (s_vu [] 3 [2,3] [(5,vp 3 0)] [0,1] [(3,bx 64 [ci (imax a1.A a2.A),ci (imin a1.B a2.B)])] ?_);refine q_sq (s_va 4 [(21,vb (decide ((imax a1.A a2.A)≥(imin a1.B a2.B))))] ?_);refine q_cq hm (λhm=>?_) (λhm=>?_)
 ·refine s_vu [] 4 [5,21] [] [3] [] ?_;obtain rfl:=oi hm;exact q_rt q_rm
 ·refine q_sk (s_vn [] 4 ⟨[(4,vp 2 0)],[(2,bx 64 [ci (imax a1.A a2.A),ci (imin a1.B a2.B)])]⟩ ?_);obtain rfl:=oi hm;exact q_rt q_rm
def OJ (a1:Int) (a2:qC) (a3:qC) (r:Span):V:=va (qI r)
def AU (a1:Int) (a2:qC) (a3:qC) (r:Span):List (Nat×(Nat×O)):=[(0,bx 48 (qM a2)),(1,bx 48 (qM a3))]
theorem qEb (a1:Int) (a2:qC) (a3:qC) (r:Span) (hm:YV a1 a2 a3=some r):CtX Tryz.prog globs 93 2 2 [.one (ci a1),.one (.bptr 0 0 0),.one (.bptr 1 0 0)] [(0,bx 48 (qM a2)),(1,bx 48 (qM a3))] (OJ a1 a2 a3 r) (AU a1 a2 a3 r):=by
 unfold YV at hm;refine q_E f93 12 λE=>?_;refine s_vn [] 2 ⟨[(0,vi a1),(1,vp 0 0),(2,vp 1 0),(4,vp 2 0)],[(0,bx 48 (qM a2)),(1,bx 48 (qM a3)),(2,bx 64 [ci 0,ci 0])]⟩ ?_;obtain⟨v4,h5,hm⟩:=qE hm;obtain⟨v6,h7,hm⟩:=qE hm;obtain⟨v8,h9,hm⟩:=qE hm;refine s_du [qc 2 [5,6] 3 (qCw a2 a1 v4 h5),qc 5 [8,9] 3 (qCw a3 a1 v6 h7),qc 6 [7,10] 3 (qKZ v4 v6 v8 h9)] [0,0,3,0,0,31,63,127] 3 [0,1,2] [] [2] [(2,bx 64 (qI v8))] ?_;obtain rfl:=oi hm;exact q_rt q_rm
open Go.Proofs Go.Proofs.Tryz
def SH (a1:qC) (a2:qC) (r:qC):V:=va [ci r.Low,.own 2 0 2 r.Rows.length]
def HY (a1:qC) (a2:qC) (r:qC):List (Nat×(Nat×O)):=[(0,bx 48 (qM a1)),(1,bx 48 (qM a2)),(2,ro 0 64 2 r.Rows.length (rf qI r.Rows))]
def WR (a1:qC) (a2:qC) (x4:Int):St:=
 ⟨[(0,vc (.fn 93 [.bptr 0 0 0,.bptr 1 0 0])),(2,vp 2 0),(3,vp 3 0),(5,vi x4)],[(0,bx 48 (qM a1)),(1,bx 48 (qM a2)),(2,bx 48 [ci 0,.emp])]⟩
def BG (a1:qC) (a2:qC) (x4:Int) (x18:Int) (x19:Int) (l20:List Span) (l20n:Nat):St:=
 (WR a1 a2 x4).up [] [(4,vi x18)] [] [(3,bx 48 [ci x19,.own 4 0 2 l20n]),(4,ro 0 64 2 l20n (rf qI l20))]
def qAT (a1:qC) (a2:qC) (x4:Int) (l6:List Span) (v8:Span) (x14:Int):St:=
 (WR a1 a2 x4).up [] [(6,vp 5 0)] [] [(3,bx 48 [ci x14,.own 4 0 2 l6.length]),(4,ro 0 64 2 l6.length (rf qI l6)),(5,bx 64 (qI v8))]
def XH (a1:qC) (a2:qC) (x3:Int) (x4:Int) (x5:Int) (l6:List Span) (l6n:Nat):St:=
 (WR a1 a2 x4).up [] [(4,vi x3)] [] [(3,bx 48 [ci x5,.own 4 0 2 l6n]),(4,ro 0 64 2 l6n (rf qI l6))]
def DX (a1:qC) (a2:qC) (x21:Int) (x22:Int) (l23:List Span):St:=
 ⟨[(2,vp 2 0),(3,vp 3 0),(4,vi x21)],[(0,bx 48 (qM a1)),(1,bx 48 (qM a2)),(2,bx 48 [ci 0,.emp]),(3,bx 48 [ci x22,.own 4 0 2 l23.length]),(4,ro 0 64 2 l23.length (rf qI l23))]⟩
theorem qAu (E:Env 2) (a1:qC) (a2:qC):∀(n:Nat) (x3:Int) (x4:Int) (x5:Int) (l6:List Span) (l6n:Nat) (res:Int×Int×(List Span)),l6.length=l6n->zK a1 a2 n x3 x4 x5 l6=some res->HL (kx E 46 2) (nd f80 244) (zW 0 (λo=>DX a1 a2 o.1 o.2.1 o.2.2) res) n (XH a1 a2 x3 x4 x5 l6 l6n):=by
 intro n
 induction n with
 |zero=>
  intro x3 x4 x5 l6 l6n res hl0 hm;cases hm
 |succ n ih=>
  intro x3 x4 x5 l6 l6n res hl0 hm;subst hl0;refine qU (q_sq ?_);refine s_va 5 [(8,vb (decide (x4<60)))] (q_cq hm (λhm=>?_) (λhm=>?_))
  ·refine q_sk (q_jn (ι:=Int×Int×(List Span)×Nat) (λp=>BG a1 a2 x4 p.1 p.2.1 p.2.2.1 p.2.2.2) (λp=>p.2.2.1.length=p.2.2.2/\yT x4 (zK a1 a2 n) p.1 p.2.1 p.2.2.1=some res) ?_ ?_)
   ·rintro⟨x18,x19,l20,l20n⟩ ⟨el20,hm⟩;replace el20:l20.length=l20n:=el20;subst el20;show H _ (BG a1 a2 x4 x18 x19 l20 l20.length) _ _;exact q_vv [] 7 [5] [(5,vi (w64 (x4+1)))] (q_hl (XH a1 a2 x18 (w64 (x4+1)) x19 l20 l20.length) (ih x18 (w64 (x4+1)) x19 l20 l20.length _ rfl hm))
   ·refine q_bk 1 ?_;obtain⟨v8,h9,hm⟩:=qE hm;refine s_vu [qd 2 (dex (cen [(0,0),(1,0)] [0,0] 3 2 (OJ x4 a1 a2 v8) (AU x4 a1 a2 v8) [11,12] [0,1])) (zI (K:=(kx E 46 2)) ⟨[(11,vc (.fn 93 [.bptr 0 0 0,.bptr 1 0 0])),(12,vi x4)],[(0,bx 48 (qM a1)),(1,bx 48 (qM a2))]⟩ (opAt (rg f80 3912) 2) [(0,0),(1,0)] [0,0] 3 o0 rfl (qEb x4 a1 a2 v8 h9) (.inl rfl) (by kernel_rfl))] 5 [8] [(6,vp 5 0)] [] [(5,bx 64 (qI v8))] (q_bk 2 ?_);obtain⟨v10,h11,hm⟩:=qE hm;refine s_vv [qc 1 [15] 6 (wX v8 v10 h11)] 6 [] [(14,vb (!v10))] (q_cq hm (λhm=>?_) (λhm=>?_))
    ·refine q_jn (qAT a1 a2 x4 l6 v8) (λp=>WL x4 l6 (zK a1 a2 n) v8 p=some res) ?_ ?_
     ·rintro x14 hm;obtain⟨g15,hm⟩:=qH hm;refine s_vu [qd 3 (drw 6 0 (rf qI [v8])) (litP qI dd 2 (λ_=>rfl) ([v8]:List Span) 1 rfl),qd 4 (drw 4 1 (rf qI (l6++[v8]))) (apP qI dd l6 ([v8]:List Span) l6.length 1 2 16 (1<=1) (kr _) rfl rfl (λ_=>rfl) (wE g15))] 6 [6] [] [3,4,5] [(3,bx 48 [ci x14,.own 4 1 2 (l6.length+1)]),(4,ro 1 64 2 (l6.length+1) (rf qI (l6++[v8])))] (q_va 7 [(4,vi (((l6.length+1):Nat):Int))] ?_);exact q_J ((((l6.length+1):Nat):Int),x14,(l6++[v8]),(l6.length+1)) ⟨(wS rfl rfl),hm⟩
     ·refine s_vv [] 6 [4,14] [(19,vb (x3==0))] (q_cq hm (λhm=>?_) (λhm=>?_))
      ·exact q_vu [] 6 [19] [] [3] [(3,bx 48 [ci x4,.own 4 0 2 l6.length])] (q_J (x4) hm)
      ·exact q_sk (q_J (x5) hm)
    ·refine s_vu [] 6 [6,14] [(31,vb (decide (x3>0)))] [5] [] (q_cq hm (λhm=>?_) (λhm=>?_))
     ·obtain⟨g17,hm⟩:=qH hm;exact q_vu [qd 3 (drw 6 0 (rf qI [(Span.mk 0 0)])) (litP qI dd 2 (λ_=>rfl) ([(Span.mk 0 0)]:List Span) 1 rfl),qd 4 (drw 4 1 (rf qI (l6++[(Span.mk 0 0)]))) (apP qI dd l6 ([(Span.mk 0 0)]:List Span) l6.length 1 2 16 (1<=1) (kr _) rfl rfl (λ_=>rfl) (wE g17))] 6 [31] [] [3,4] [(3,bx 48 [ci x5,.own 4 1 2 (l6.length+1)]),(4,ro 1 64 2 (l6.length+1) (rf qI (l6++[(Span.mk 0 0)])))] (q_J (x3,x5,(l6++[(Span.mk 0 0)]),(l6.length+1)) ⟨(wS rfl rfl),hm⟩)
     ·exact q_sk (q_J (x3,x5,l6,l6.length) ⟨rfl,hm⟩)
  ·refine q_ex 0 ?_;obtain rfl:=oi hm;exact q_l0
theorem qCF (a1:qC) (a2:qC) (r:qC) (hm:WI a1 a2=some r):CtX Tryz.prog globs 80 2 2 [.one (.fn 93 [.bptr 0 0 0,.bptr 1 0 0])] [(0,bx 48 (qM a1)),(1,bx 48 (qM a2))] (SH a1 a2 r) (HY a1 a2 r):=by
 unfold WI at hm;refine q_E f80 46 λE=>?_;refine s_vn [] 2 ⟨[(0,vc (.fn 93 [.bptr 0 0 0,.bptr 1 0 0])),(2,vp 2 0)],[(0,bx 48 (qM a1)),(1,bx 48 (qM a2)),(2,bx 48 [ci 0,.emp])]⟩ (s_vu [] 3 [] [(3,vp 3 0)] [] [(3,bx 48 [ci 0,.emp])] ?_);refine s_va 4 [(4,vi 0)] (q_sq ?_);refine s_va 4 [(5,vi (-60))] (q_fu [.ownB 3 1 4 64 2 (rf qI [])] [] [] [3] [(3,bx 48 [ci 0,.own 4 0 2 0]),(4,ro 0 64 2 0 (rf qI []))] o0 ?_);obtain⟨o24,h25,hm⟩:=qE hm
 refine zU (nd f80 244) 0 (by kernel_rfl) FUEL (λo=>DX a1 a2 o.1 o.2.1 o.2.2) o24 (q_hl (XH a1 a2 0 (-60) 0 ([]:List Span) 0) (qAu E a1 a2 FUEL 0 (-60) 0 ([]:List Span) 0 o24 rfl h25)) ?_;obtain⟨g26,hm⟩:=qH hm
 refine s_wu [qd 3 dN (And.intro (zG g26).2.1 (zG g26).2.2)] [.row 4 o24.1.toNat (rf qI (o24.2.2.take o24.1.toNat))] (o1 (tkP qI dd o24.2.2 o24.2.2.length o24.1.toNat (show o24.1.toNat<=o24.2.2.length by have:=(zG g26);omega))) 5 [4] [] [3,4] [(3,bx 48 [ci o24.2.1,.own 4 0 2 o24.1.toNat]),(4,ro 0 64 2 o24.1.toNat (rf qI (o24.2.2.take o24.1.toNat)))] (s_vu [] 5 [3] [] [2,3] [(2,bx 48 [ci o24.2.1,.own 4 0 2 o24.1.toNat])] ?_)
 refine q_fu [.len 4 ((o24.2.2.take o24.1.toNat).length)] [] [] [2,4] [(2,bx 48 [ci o24.2.1,.own 4 0 2 ((o24.2.2.take o24.1.toNat).length)]),(4,ro 0 64 2 ((o24.2.2.take o24.1.toNat).length) (rf qI (o24.2.2.take o24.1.toNat)))] (o1 (And.intro (Eq.symm (show(o24.2.2.take o24.1.toNat).length=o24.1.toNat from(KL rfl (show o24.1.toNat<=o24.2.2.length by have:=(zG g26);omega)))) (Eq.symm (show(o24.2.2.take o24.1.toNat).length=o24.1.toNat from(KL rfl (show o24.1.toNat<=o24.2.2.length by have:=(zG g26);omega)))))) ?_;obtain rfl:=oi hm;exact q_sw 4 2 (q_rt q_rm)
def qHG (r:qC):V:=va [ci r.Low,.own 0 0 2 r.Rows.length]
def qHM (r:qC):List (Nat×(Nat×O)):=[(0,ro 0 64 2 r.Rows.length (rf qI r.Rows))]
theorem qFN (a1:qC) (a2:qC) (r:qC) (hm:YZ a1 a2=some r):CtX Tryz.prog globs 45 0 0 [.agg (qM a1),.agg (qM a2)] [] (qHG r) (qHM r):=by
 unfold YZ at hm;refine q_E f45 11 λE=>?_;refine s_vn [] 0 ⟨[(2,vp 0 0),(3,vp 1 0),(4,vp 2 0)],[(0,bx 48 (qM a1)),(1,bx 48 (qM a2)),(2,bx 48 [ci 0,.emp])]⟩ ?_;obtain⟨v3,h4,hm⟩:=qE hm;obtain⟨v5,h6,hm⟩:=qE hm;refine s_du [qc 1 [5] 3 (DI a1 v3 h4),qc 3 [7] 3 (DI a2 v5 h6)] [0,1,0,7,15,31] 3 [] [] [0,1] [(0,bx 48 (qM v3)),(1,bx 48 (qM v5))] ?_;obtain⟨v7,h8,hm⟩:=qE hm
 refine s_vn [qd 1 (dex (cen [(0,0),(1,0)] [0,0] 1 2 (SH v3 v5 v7) (HY v3 v5 v7) [9] [0,1])) (zI (K:=(kx E 11 0)) ⟨[(9,vc (.fn 93 [.bptr 0 0 0,.bptr 1 0 0]))],[(0,bx 48 (qM v3)),(1,bx 48 (qM v5))]⟩ (opAt (rg f45 14) 1) [(0,0),(1,0)] [0,0] 1 o0 rfl (qCF v3 v5 v7 h8) (.inl rfl) (by kernel_rfl))] 3 ⟨[(4,vp 2 0)],[(2,bx 48 [ci v7.Low,.own 3 0 2 v7.Rows.length]),(3,ro 0 64 2 v7.Rows.length (rf qI v7.Rows))]⟩ ?_;obtain rfl:=oi hm;exact q_sw 3 0 (q_rt q_rm)
def TK (r:(List qS)×Int):V:= .tup [.one (.own 0 0 3 r.1.length),.one (ci r.2)]
def TH (r:(List qS)×Int):List (Nat×(Nat×O)):=[(0,ro 0 50 3 r.1.length (rf qT r.1))]
def ND (a1:Scan) (a2:Int) (a3:Int) (l8:List qC) (l8n:Nat) (x9:Int):St:=
 ⟨[(1,vi a2),(2,vi a3),(3,vp 0 0),(9,vo 1 0 2 l8n),(27,vi (a1.Rings.length:Int)),(28,vi x9)],[(0,bx 25 (qZ a1)),(1,ro 0 48 2 l8n (rf qM l8))]⟩
def qAh (a1:Scan) (l16:List qC):St:=
 ⟨[(3,vp 0 0),(9,vo 1 0 2 l16.length)],[(0,bx 25 (qZ a1)),(1,ro 0 48 2 l16.length (rf qM l16))]⟩
def NF (a1:Scan) (o17:(List qC)) (l22:List qS) (l22n:Nat) (x23:Int):St:=
 ⟨[(3,vp 0 0),(9,vo 1 0 2 o17.length),(13,vo 2 0 3 l22n),(55,vi (((w64 ((a1.Rings.length:Int)-1)).toNat:Nat):Int)),(56,vi x23)],[(0,bx 25 (qZ a1)),(1,ro 0 48 2 o17.length (rf qM o17)),(2,ro 0 50 3 l22n (rf qT l22))]⟩
def CS (l36:List qS):St:=
 ⟨[(13,vo 2 0 3 l36.length)],[(2,ro 0 50 3 l36.length (rf qT l36))]⟩
theorem qFD (E:Env 0) (a1:Scan) (a2:Int) (a3:Int):∀(n:Nat) (l8:List qC) (l8n:Nat) (x9:Int) (res:((List qS)×Int)⊕(List qC)),l8.length=l8n->JC a1 a2 a3 n l8 x9=some res->HL (kx E 94 0) (nd f16 244) (jJ 0 (λo=>qAh a1 o) (λv st=>RetQ Tryz.prog f16 (TK v) (TH v) .ret st) res) n (ND a1 a2 a3 l8 l8n x9):=by
 intro n
 induction n with
 |zero=>
  intro l8 l8n x9 res hl0 hm;cases hm
 |succ n ih=>
  intro l8 l8n x9 res hl0 hm;subst hl0;refine qU (s_va 2 [(29,vb (decide (x9<(a1.Rings.length:Int))))] ?_);refine q_sq (q_cq hm (λhm=>?_) (λhm=>?_))
  ·refine q_sk (q_sq ?_);refine q_bk 1 (s_vv [] 2 [29] [(10,vi x9)] ?_);obtain⟨g11,hm⟩:=qH hm;obtain⟨v12,h13,hm⟩:=qE hm;refine s_vu [qi 3 g11,qc 7 [36,37,38] 2 (qEv (a1.Rings.getD x9.toNat dd) a2 a3 v12 h13)] 2 [] [(11,vp 3 0),(12,vi v12.2)] [] [(2,ro 0 64 2 v12.1.Rows.length (rf qI v12.1.Rows)),(3,bx 48 [ci v12.1.Low,.own 2 0 2 v12.1.Rows.length])] (q_sq ?_);refine s_vv [] 4 [12] [(43,vb (v12.2 !=0))] (q_cq hm (λhm=>?_) (λhm=>?_))
   ·refine s_vn [] 4 ⟨[(6,vc (.emp)),(7,vi 30)],[]⟩ (q_fo 6 4 50 3 qT ?_);refine q_fl 6 4 50 3 qT ?_;obtain rfl:=oi hm;refine q_sw 4 0 (q_rt ?_);exact zR (([]:List qS),30) q_rm
   ·refine q_sk ?_;obtain⟨g15,hm⟩:=qH hm;refine q_vu [qi 3 g15,qd 4 (dpr [.frz 2] (drw 0 0 (rf qM (l8.set x9.toNat v12.1)))) (And.intro (kr v12.1.Rows.length) (kr v12.1.Rows.length)),qd 4 dN (stP qM dd v12.1 l8 l8.length x9.toNat 0 (qM v12.1) rfl (zC (zJ g15)) rfl)] 4 [10,11,43] [] [1,2,3] [(1,ro 0 48 2 l8.length (rf qM (l8.set x9.toNat v12.1)))] (q_vv [] 4 [28] [(28,vi (w64 (x9+1)))] ?_);exact q_hl (ND a1 a2 a3 (l8.set x9.toNat v12.1) l8.length (w64 (x9+1))) (ih (l8.set x9.toNat v12.1) l8.length (w64 (x9+1)) _ (UD rfl) hm)
  ·refine q_ex 0 ?_;obtain rfl:=oi hm;exact q_l1 l8
theorem qE1 (E:Env 0) (a1:Scan) (o17:(List qC)):∀(n:Nat) (l22:List qS) (l22n:Nat) (x23:Int) (res:((List qS)×Int)⊕(List qS)),l22.length=l22n->WX a1 o17 n l22 x23=some res->HL (kx E 94 0) (nd f16 1012) (jJ 2 CS (λv st=>RetQ Tryz.prog f16 (TK v) (TH v) .ret st) res) n (NF a1 o17 l22 l22n x23):=by
 intro n
 induction n with
 |zero=>
  intro l22 l22n x23 res hl0 hm;cases hm
 |succ n ih=>
  intro l22 l22n x23 res hl0 hm;subst hl0;refine qU (s_va 3 [(57,vb (decide (x23<(((w64 ((a1.Rings.length:Int)-1)).toNat:Nat):Int))))] ?_);refine q_sq (q_cq hm (λhm=>?_) (λhm=>?_))
  ·refine q_sk (q_sq ?_);refine q_bk 3 (s_vv [] 3 [57] [(14,vi x23)] ?_);obtain⟨g25,hm⟩:=qH hm;obtain⟨g26,hm⟩:=qH hm;obtain⟨v27,h28,hm⟩:=qE hm;refine s_du [qi 2 g25,qd 3 dN (zC (zJ g25)),qi 7 g26,qd 8 dN (zC (zJ g26)),qc 9 [62,67] 3 (qFN (o17.getD x23.toNat dd) (o17.getD ((w64 (x23+1)).toNat) dd) v27 h28)] [0,0,3,7,0,0,32,112,240,511,0,2047] 3 [] [(15,vp 4 0)] [] [(3,ro 0 64 2 v27.Rows.length (rf qI v27.Rows)),(4,bx 48 [ci v27.Low,.own 3 0 2 v27.Rows.length])] (q_sq ?_);refine s_va 5 [(72,vb ((v27.Rows.length:Int)==0))] (q_cq hm (λhm=>?_) (λhm=>?_))
   ·refine s_vn [] 5 ⟨[(6,vc (.emp)),(7,vi 30)],[]⟩ (q_fo 6 5 50 3 qT ?_);refine q_fl 6 5 50 3 qT ?_;obtain rfl:=oi hm;refine q_sw 5 0 (q_rt ?_);exact zR (([]:List qS),30) q_rm
   ·refine q_sk ?_;obtain⟨g33,hm⟩:=qH hm;obtain⟨g34,hm⟩:=qH hm;obtain⟨g35,hm⟩:=qH hm
    refine q_xu [.frz 3] (o1 (kr v27.Rows.length)) [qi 6 g33,qi 12 g34,qi 18 g35,qd 19 (drw 0 0 (rf qT (l22.set x23.toNat (qS.mk (w64 (((a1.Rings.getD (w64 (x23+1)).toNat dd).Z)-((a1.Rings.getD x23.toNat dd).Z))) v27)))) (stP qT dd (qS.mk (w64 (((a1.Rings.getD (w64 (x23+1)).toNat dd).Z)-((a1.Rings.getD x23.toNat dd).Z))) v27) l22 l22.length x23.toNat 0 [ci (w64 (((a1.Rings.getD (w64 (x23+1)).toNat dd).Z)-((a1.Rings.getD x23.toNat dd).Z))),ci v27.Low,tl qI dd v27.Rows] rfl (zC (zJ g35)) rfl)] [] o0 [0,0,0,4,0,16,60,124,252,0,512,0,3584,7680,15872,32764,0,131068,262143,524287] 5 [14,15,72] [] [2,3,4] [(2,ro 0 50 3 l22.length (rf qT (l22.set x23.toNat (qS.mk (w64 (((a1.Rings.getD (w64 (x23+1)).toNat dd).Z)-((a1.Rings.getD x23.toNat dd).Z))) v27))))] ?_
    exact q_vv [] 5 [56] [(56,vi (w64 (x23+1)))] (q_hl (NF a1 o17 (l22.set x23.toNat (qS.mk (w64 (((a1.Rings.getD (w64 (x23+1)).toNat dd).Z)-((a1.Rings.getD x23.toNat dd).Z))) v27)) l22.length (w64 (x23+1))) (ih (l22.set x23.toNat (qS.mk (w64 (((a1.Rings.getD (w64 (x23+1)).toNat dd).Z)-((a1.Rings.getD x23.toNat dd).Z))) v27)) l22.length (w64 (x23+1)) _ (UD rfl) hm))
  ·refine q_ex 2 ?_;obtain rfl:=oi hm;exact q_l1 l22
theorem qCv (a1:Scan) (a2:Int) (a3:Int) (r:(List qS)×Int) (hm:QK a1 a2 a3=some r):CtX Tryz.prog globs 16 0 0 [.agg (qZ a1),.one (ci a2),.one (ci a3)] [] (TK r) (TH r):=by
 unfold QK at hm;refine q_E f16 94 λE=>?_;refine s_vn [] 0 ⟨[(1,vi a2),(2,vi a3),(3,vp 0 0)],[(0,bx 25 (qZ a1))]⟩ (q_sq ?_);obtain⟨v4,h5,hm⟩:=qE hm;refine s_vv [qc 1 [16] 1 (KT a1 v4 h5)] 1 [] [(8,vi v4)] (s_va 1 [(19,vb (v4 !=0))] ?_);refine q_cq hm (λhm=>?_) (λhm=>?_)
 ·refine s_vn [] 1 ⟨[(6,vc (.emp)),(7,vi v4)],[]⟩ (q_fo 6 1 50 3 qT ?_);refine q_fl 6 1 50 3 qT ?_;obtain rfl:=oi hm;exact q_sw 1 0 (q_rt q_rm)
 ·refine q_sk ?_;obtain⟨g7,hm⟩:=qH hm;refine s_vu [qd 3 (drw 1 0 (rf qM (List.replicate ((a1.Rings.length:Int).toNat) (qC.mk 0 ([]:List Span))))) (mkPe qM dd (qC.mk 0 ([]:List Span)) (a1.Rings.length:Int) 32 [ci 0,.emp] (qHs g7) (.same _ (.emp _ .nil)))] 1 [8,19] [(9,vo 1 0 2 ((a1.Rings.length:Int).toNat))] [] [(1,ro 0 48 2 ((a1.Rings.length:Int).toNat) (rf qM (List.replicate ((a1.Rings.length:Int).toNat) (qC.mk 0 ([]:List Span)))))] (q_sq ?_);refine s_va 2 [(27,vi (a1.Rings.length:Int)),(28,vi 0)] ?_;obtain⟨u19,h18,hm⟩:=qE hm
  refine zZ (nd f16 244) 0 (by kernel_rfl) FUEL (λo=>qAh a1 o) (λv st=>RetQ Tryz.prog f16 (TK v) (TH v) .ret st) u19 (q_hl (ND a1 a2 a3 (List.replicate ((a1.Rings.length:Int).toNat) (qC.mk 0 ([]:List Span))) ((a1.Rings.length:Int).toNat) 0) (qFD E a1 a2 a3 FUEL (List.replicate ((a1.Rings.length:Int).toNat) (qC.mk 0 ([]:List Span))) ((a1.Rings.length:Int).toNat) 0 u19 qHL h18)) ?_ ?_
  ·rintro v20 rfl st hr;obtain rfl:=oi hm;exact hr
  ·rintro o17 rfl;replace hm:_=some r:=hm;obtain⟨g21,hm⟩:=qH hm;refine s_vu [qd 4 (drw 2 0 (rf qT (List.replicate ((w64 ((a1.Rings.length:Int)-1)).toNat) (qS.mk 0 (qC.mk 0 ([]:List Span)))))) (mkPe qT dd (qS.mk 0 (qC.mk 0 ([]:List Span))) (w64 ((a1.Rings.length:Int)-1)) 40 [ci 0,ci 0,.emp] (qHs g21) (.same _ (.same _ (.emp _ .nil))))] 2 [] [(13,vo 2 0 3 ((w64 ((a1.Rings.length:Int)-1)).toNat))] [] [(2,ro 0 50 3 ((w64 ((a1.Rings.length:Int)-1)).toNat) (rf qT (List.replicate ((w64 ((a1.Rings.length:Int)-1)).toNat) (qS.mk 0 (qC.mk 0 ([]:List Span))))))] (q_sq ?_)
   refine s_va 3 [(55,vi (((w64 ((a1.Rings.length:Int)-1)).toNat:Nat):Int)),(56,vi 0)] ?_;obtain⟨u39,h38,hm⟩:=qE hm;refine zZ (nd f16 1012) 2 (by kernel_rfl) FUEL CS (λv st=>RetQ Tryz.prog f16 (TK v) (TH v) .ret st) u39 (q_hl (NF a1 o17 (List.replicate ((w64 ((a1.Rings.length:Int)-1)).toNat) (qS.mk 0 (qC.mk 0 ([]:List Span)))) ((w64 ((a1.Rings.length:Int)-1)).toNat) 0) (qE1 E a1 o17 FUEL (List.replicate ((w64 ((a1.Rings.length:Int)-1)).toNat) (qS.mk 0 (qC.mk 0 ([]:List Span)))) ((w64 ((a1.Rings.length:Int)-1)).toNat) 0 u39 qHL h38)) ?_ ?_
   ·rintro v40 rfl st hr;obtain rfl:=oi hm;exact hr
   ·rintro o37 rfl;replace hm:_=some r:=hm;refine s_vv [] 3 [13] [(6,vo 2 0 3 o37.length),(7,vi 0)] ?_;obtain rfl:=oi hm;exact q_sw 2 0 (q_rt q_rm)
open Go.Proofs Go.Proofs.Tryz
def qCG (r:(List Int)):V:=vo 0 0 1 r.length
def qCI (r:(List Int)):List (Nat×(Nat×O)):=[(0,ro 0 3 1 r.length (rf qK r))]
def VT (a1:List qD) (x3:Int) (l9:List Int) (l9n:Nat):St:=
 ⟨[(3,vo 0 0 1 l9n),(6,vc (tl qG dd a1)),(7,vi (a1.length:Int)),(8,vi x3)],[(0,ro 0 3 1 l9n (rf qK l9))]⟩
def YE (a1:List qD) (l2:List Int) (l2n:Nat) (x3:Int):St:=
 ⟨[(3,vo 0 0 1 l2n),(6,vc (tl qG dd a1)),(7,vi (a1.length:Int)),(8,vi x3)],[(0,ro 0 3 1 l2n (rf qK l2))]⟩
def VO (l10:List Int):St:=
 ⟨[(3,vo 0 0 1 l10.length)],[(0,ro 0 3 1 l10.length (rf qK l10))]⟩
theorem OU (E:Env 0) (a1:List qD):∀(n:Nat) (l2:List Int) (l2n:Nat) (x3:Int) (res:(List Int)),l2.length=l2n->yE a1 n l2 x3=some res->HL (kx E 28 0) (nd f50 116) (zW 0 VO res) n (YE a1 l2 l2n x3):=by
 intro n
 induction n with
 |zero=>
  intro l2 l2n x3 res hl0 hm;cases hm
 |succ n ih=>
  intro l2 l2n x3 res hl0 hm;subst hl0;refine qU (s_va 1 [(9,vb (decide (x3<(a1.length:Int))))] ?_);refine q_sq (q_cq hm (λhm=>?_) (λhm=>?_))
  ·refine q_sk (q_jn (ι:=(List Int)×Nat) (λp=>VT a1 x3 p.1 p.2) (λp=>p.1.length=p.2/\KK x3 (yE a1 n) p.1=some res) ?_ ?_)
   ·rintro⟨l9,l9n⟩ ⟨el9,hm⟩;replace el9:l9.length=l9n:=el9;subst el9;show H _ (VT a1 x3 l9 l9.length) _ _;exact q_vv [] 3 [8] [(8,vi (w64 (x3+1)))] (q_hl (YE a1 l9 l9.length (w64 (x3+1))) (ih l9 l9.length (w64 (x3+1)) _ rfl hm))
   ·refine q_bk 1 ?_;obtain⟨g5,hm⟩:=qH hm;refine s_vu [qi 0 g5] 1 [9] [(5,vp 1 0)] [] [(1,bx 73 (qG (a1.getD x3.toNat dd)))] (s_va 2 [(13,vb ((a1.getD x3.toNat dd).Ok))] ?_);refine q_cq hm (λhm=>?_) (λhm=>?_)
    ·obtain⟨g7,hm⟩:=qH hm
     exact q_vu [qd 7 (drw 2 0 (rf qK [1,((a1.getD x3.toNat dd).P).X,((a1.getD x3.toNat dd).P).Y])) (litP qK dd 1 (λ_=>rfl) ([1,((a1.getD x3.toNat dd).P).X,((a1.getD x3.toNat dd).P).Y]:List Int) 3 rfl),qd 8 (drw 0 1 (rf qK (l2++[1,((a1.getD x3.toNat dd).P).X,((a1.getD x3.toNat dd).P).Y]))) (apP qK dd l2 ([1,((a1.getD x3.toNat dd).P).X,((a1.getD x3.toNat dd).P).Y]:List Int) l2.length 3 1 8 (3<=3) (kr _) rfl rfl (λ_=>rfl) (wE g7))] 2 [3,5,13] [(3,vo 0 1 1 (l2.length+3))] [0,1] [(0,ro 1 3 1 (l2.length+3) (rf qK (l2++[1,((a1.getD x3.toNat dd).P).X,((a1.getD x3.toNat dd).P).Y])))] (q_J ((l2++[1,((a1.getD x3.toNat dd).P).X,((a1.getD x3.toNat dd).P).Y]),(l2.length+3)) ⟨(wS rfl rfl),hm⟩)
    ·obtain⟨g8,hm⟩:=qH hm;exact q_vu [qd 1 (drw 2 0 (rf qK [0])) (litP qK dd 1 (λ_=>rfl) ([0]:List Int) 1 rfl),qd 2 (drw 0 1 (rf qK (l2++[0]))) (apP qK dd l2 ([0]:List Int) l2.length 1 1 8 (1<=1) (kr _) rfl rfl (λ_=>rfl) (wE g8))] 2 [3,5,13] [(3,vo 0 1 1 (l2.length+1))] [0,1] [(0,ro 1 3 1 (l2.length+1) (rf qK (l2++[0])))] (q_J ((l2++[0]),(l2.length+1)) ⟨(wS rfl rfl),hm⟩)
  ·refine q_ex 0 ?_;obtain rfl:=oi hm;exact q_l0
theorem qBQ (a1:List qD) (r:(List Int)) (hm:VG a1=some r):CtX Tryz.prog globs 50 0 0 [.one (tl qG dd a1)] [] (qCG r) (qCI r):=by
 unfold VG at hm;refine q_E f50 28 λE=>?_;refine s_vn [] 0 ⟨[(0,vc (tl qG dd a1))],[]⟩ (s_va 0 [(3,vc (.emp))] ?_);refine q_sq (s_vv [] 0 [0] [(6,vc (tl qG dd a1)),(7,vi (a1.length:Int)),(8,vi 0)] ?_);refine q_fo 3 0 3 1 qK ?_;obtain⟨o11,h12,hm⟩:=qE hm;refine zU (nd f50 116) 0 (by kernel_rfl) FUEL VO o11 (q_hl (YE a1 ([]:List Int) 0 0) (OU E a1 FUEL ([]:List Int) 0 0 o11 rfl h12)) (s_vv [] 1 [3] [(2,vo 0 0 1 o11.length)] ?_);obtain rfl:=oi hm;exact q_rt q_rm
def qLM (r:ByteArray):V:=vc (cs r)
def qLF (r:ByteArray):List (Nat×(Nat×O)):=[]
def LP (x2:Int) (l3:List Int) (l3n:Nat):St:=
 ⟨[(0,vc (.val (.int .u64 x2))),(3,vo 0 0 1 l3n)],[(0,ro 0 5 1 l3n (rf e_u8 l3))]⟩
def qAV (x6:Int) (l7:List Int):St:=
 ⟨[(0,vc (.val (.int .u64 x6))),(3,vo 0 0 1 l7.length)],[(0,ro 0 5 1 l7.length (rf e_u8 l7))]⟩
theorem qGN (E:Env 0):∀(n:Nat) (x2:Int) (l3:List Int) (l3n:Nat) (res:Int×(List Int)),l3.length=l3n->OM n x2 l3=some res->HL (kx E 20 0) (nd f102 56) (zW 0 (λo=>qAV o.1 o.2) res) n (LP x2 l3 l3n):=by
 intro n
 induction n with
 |zero=>
  intro x2 l3 l3n res hl0 hm;cases hm
 |succ n ih=>
  intro x2 l3 l3n res hl0 hm;subst hl0;refine qU (q_sq ?_);refine s_va 1 [(5,vb (decide (x2≥128)))] (q_cq hm (λhm=>?_) (λhm=>?_))
  ·refine q_sk (q_bk 1 ?_);obtain⟨g5,hm⟩:=qH hm
   refine s_vu [qd 4 (drw 1 0 (rf e_u8 [orI .u8 (IntKind.u8.wrap (x2)) 128])) (litP e_u8 dd 1 (λ_=>rfl) ([orI .u8 (IntKind.u8.wrap (x2)) 128]:List Int) 1 rfl),qd 5 (drw 0 1 (rf e_u8 (l3++[orI .u8 (IntKind.u8.wrap (x2)) 128]))) (apP e_u8 dd l3 ([orI .u8 (IntKind.u8.wrap (x2)) 128]:List Int) l3.length 1 1 1 (1<=1) (kr _) rfl rfl (λ_=>rfl) (wE g5))] 1 [3,5] [(3,vo 0 1 1 (l3.length+1))] [0] [(0,ro 1 5 1 (l3.length+1) (rf e_u8 (l3++[orI .u8 (IntKind.u8.wrap (x2)) 128])))] (q_vv [qd 1 dN (show¬(7:Int)<0 by decide)] 2 [0] [(0,vc (.val (.int .u64 (shrI .u64 x2 7))))] ?_)
   exact q_hl (LP (shrI .u64 x2 7) (l3++[orI .u8 (IntKind.u8.wrap (x2)) 128]) (l3.length+1)) (ih (shrI .u64 x2 7) (l3++[orI .u8 (IntKind.u8.wrap (x2)) 128]) (l3.length+1) _ (wS rfl rfl) hm)
  ·refine q_ex 0 ?_;obtain rfl:=oi hm;exact q_l0
theorem IF (a1:Int) (r:ByteArray) (hm:DV a1=some r):CtX Tryz.prog globs 102 0 0 [.one (.val (.int .u64 a1))] [] (qLM r) (qLF r):=by
 unfold DV at hm;refine q_E f102 20 λE=>?_;refine s_vn [] 0 ⟨[(0,vc (.val (.int .u64 a1)))],[]⟩ (s_va 0 [(3,vc (.emp))] ?_);refine q_sq (q_fo 3 0 5 1 e_u8 ?_);obtain⟨o8,h9,hm⟩:=qE hm;refine zU (nd f102 56) 0 (by kernel_rfl) FUEL (λo=>qAV o.1 o.2) o8 (q_hl (LP a1 ([]:List Int) 0) (qGN E FUEL a1 ([]:List Int) 0 o8 rfl h9)) ?_;obtain⟨g10,hm⟩:=qH hm
 refine s_vn [qd 3 (drw 1 0 (rf e_u8 [IntKind.u8.wrap (o8.1)])) (litP e_u8 dd 1 (λ_=>rfl) ([IntKind.u8.wrap (o8.1)]:List Int) 1 rfl),qd 4 (drw 0 1 (rf e_u8 (o8.2++[IntKind.u8.wrap (o8.1)]))) (apP e_u8 dd o8.2 ([IntKind.u8.wrap (o8.1)]:List Int) o8.2.length 1 1 1 (1<=1) (kr _) rfl rfl (λ_=>rfl) (wE g10)),qd 5 dN (And.intro (kr (o8.2.length+1)) (u8all (o8.2++[IntKind.u8.wrap (o8.1)]) (o8.2.length+1)))] 1 ⟨[(2,vc (cs (strTk (o8.2.length+1) (o8.2++[IntKind.u8.wrap (o8.1)]))))],[]⟩ ?_;obtain rfl:=oi hm;exact q_rt q_rm
def qM1 (r:ByteArray):V:=vc (cs r)
def qMN (r:ByteArray):List (Nat×(Nat×O)):=[]
theorem qLx (a1:Int) (r:ByteArray) (hm:OG a1=some r):CtX Tryz.prog globs 103 0 0 [.one (ci a1)] [] (qM1 r) (qMN r):=by
 unfold OG at hm;refine q_E f103 15 λE=>?_;refine s_vn [] 0 ⟨[(0,vi a1)],[]⟩ (q_sq ?_);refine s_va 0 [(4,vb (decide (a1<0)))] (q_cq hm (λhm=>?_) (λhm=>?_))
 ·obtain⟨v3,h4,hm⟩:=qE hm;refine s_vn [qd 3 dN (show¬(1:Int)<0 by decide),qc 5 [9] 0 (IF (orI .u64 (shlI .u64 (notI .u64 (IntKind.u64.wrap (a1))) 1) 1) v3 h4)] 0 ⟨[(2,vc (cs v3))],[]⟩ ?_;obtain rfl:=oi hm;exact q_rt q_rm
 ·refine q_sk ?_;obtain⟨v5,h6,hm⟩:=qE hm;refine s_vn [qd 2 dN (show¬(1:Int)<0 by decide),qc 3 [13] 0 (IF (shlI .u64 (IntKind.u64.wrap (a1)) 1) v5 h6)] 0 ⟨[(2,vc (cs v5))],[]⟩ ?_;obtain rfl:=oi hm;exact q_rt q_rm
end Saw
end Go.SL

import Derived.Test.YtidlfgiogdjkaaaGreatDoorEBase
import Derived.Test.YtidlfgiogdjkaaaGreatDoorEFa4
set_option linter.unusedVariables false
set_option linter.unusedSimpArgs false
namespace Go.SL
namespace Saw
open Go.Proofs Go.Proofs.Tryz
set_option maxHeartbeats 4000000
set_option maxRecDepth 100000
def qAX (r:Int):V:=vi r
def qBS (r:Int):List (Nat×(Nat×O)):=[]
def SH (a1:Line) (x9:Int):St:=
 ⟨[(1,vp 0 0),(35,vc (tl (qM qA) du a1.Gain)),(36,vi (a1.Gain.length:Int)),(37,vi x9)],[(0,bx 84 (wB a1))]⟩
def qDv (a1:Line):St:=
 ⟨[(1,vp 0 0)],[(0,bx 84 (wB a1))]⟩
def qKf (x25:Bool):St:=
 ⟨[(65,vb x25)],[]⟩
def qKl (a1:Line) (x7:Bool):St:=
 ⟨[(1,vp 0 0),(33,vb x7)],[(0,bx 84 (wB a1))]⟩
theorem qJp (E:Env 0) (a1:Line):∀(n:Nat) (x9:Int) (res:Int⊕Unit),YO a1 n x9=some res->HL (kx E 66 0) (nd f150 244) (wN 0 (λo=>qDv a1) (λv st=>RetQ Tryz.prog f150 (qAX v) (qBS v) .ret st) res) n (SH a1 x9):=by
 intro n
 induction n with
 |zero=>
  intro x9 res hm;cases hm
 |succ n ih=>
  intro x9 res hm;refine qT (s_va 1 [(38,vb (decide (x9<(a1.Gain.length:Int))))] ?_);refine q_sq (q_cq hm (λhm=>?_) (λhm=>?_))
  ·refine q_sk (q_sq ?_);refine q_bk 1 ?_;obtain⟨g11,hm⟩:=qI hm;refine s_vv [qi 1 g11] 1 [38] [(4,vi x9),(5,vc (tl qA du (a1.Gain.getD x9.toNat du)))] ?_;obtain⟨g12,hm⟩:=qI hm;obtain⟨v13,h14,hm⟩:=qB hm;refine s_du [qi 6 g12,qc 8 [44,49] 1 (qL5 a1 (a1.Sizes.getD x9.toNat du) v13 h14)] [0,1,0,0,8,0,56,120,252,511] 1 [4,5] [(51,vb (((a1.Gain.getD x9.toNat du).length:Int) !=v13))] [] [] (q_cq hm (λhm=>?_) (λhm=>?_))
   ·refine s_vn [] 1 ⟨[(2,vi 19)],[]⟩ ?_;obtain rfl:=oi hm;refine q_rt (zG 19 ?_);exact q_rm
   ·refine q_sk (q_vv [] 1 [37,51] [(37,vi (w64 (x9+1)))] ?_);exact q_hl (SH a1 (w64 (x9+1))) (ih (w64 (x9+1)) _ hm)
  ·refine q_ex 0 ?_;obtain rfl:=oi hm;exact q_l1 ()
theorem qNG (a1:Line) (r:Int) (hm:FL a1=some r):CtX Tryz.prog globs 150 0 0 [.agg (wB a1)] [] (qAX r) (qBS r):=by
 unfold FL at hm;refine q_E f150 66 λE=>?_;refine s_vn [] 0 ⟨[(1,vp 0 0)],[(0,bx 84 (wB a1))]⟩ (q_sq ?_);obtain⟨v2,h3,hm⟩:=qB hm;refine s_vv [qc 1 [6] 1 (qJo a1 v2 h3)] 1 [] [(3,vi v2)] (s_va 1 [(9,vb (v2 !=0))] ?_);refine q_cq hm (λhm=>?_) (λhm=>?_)
 ·refine s_vn [] 1 ⟨[(2,vi v2)],[]⟩ ?_;obtain rfl:=oi hm;exact q_rt q_rm
 ·refine q_sk (q_sq ?_);refine q_jn (qKl a1) (λp=>RV a1 p=some r) ?_ ?_
  ·rintro x7 hm;refine q_cq hm (λhm=>?_) (λhm=>?_)
   ·refine s_vn [] 1 ⟨[(2,vi 19)],[]⟩ ?_;obtain rfl:=oi hm;exact q_rt q_rm
   ·refine q_sk (q_sq ?_);refine s_vv [] 1 [33] [(35,vc (tl (qM qA) du a1.Gain)),(36,vi (a1.Gain.length:Int)),(37,vi 0)] ?_;obtain⟨u18,h17,hm⟩:=qB hm;refine zT (nd f150 244) 0 (by kernel_rfl) FUEL (λo=>qDv a1) (λv st=>RetQ Tryz.prog f150 (qAX v) (qBS v) .ret st) u18 (q_hl (SH a1 0) (qJp E a1 FUEL 0 u18 h17)) ?_ ?_
    ·rintro v19 rfl st hr;obtain rfl:=oi hm;exact hr
    ·rintro o16 rfl;replace hm:_=some r:=hm;refine q_sq (q_jn (qKf) (λp=>NT p=some r) ?_ ?_)
     ·rintro x25 hm;refine q_cq hm (λhm=>?_) (λhm=>?_)
      ·refine s_vn [] 2 ⟨[(2,vi 9)],[]⟩ ?_;obtain rfl:=oi hm;exact q_rt q_rm
      ·refine q_sk (s_vn [] 2 ⟨[(2,vi 0)],[]⟩ ?_);obtain rfl:=oi hm;exact q_rt q_rm
     ·obtain⟨v20,h21,hm⟩:=qB hm;rcases bif_c hm with⟨b22,hm⟩|⟨b22,hm⟩
      ·exact q_vn [qc 2 [54] 1 (qAh a1.Gain v20 h21),qf 4 b22] 1 ⟨[(65,vb true)],[]⟩ (q_J (true) hm)
      ·obtain⟨v23,h24,hm⟩:=qB hm
       exact q_vn [qc 2 [54] 1 (qAh a1.Gain v20 h21),qf 4 b22,qd 9 (drw 1 0 (rf (qM qA) [a1.Chip,a1.Dust])) (litP (qM qA) du 1 (λ_=>rfl) ([a1.Chip,a1.Dust]:List (List Int)) 2 rfl),qd 10 (dex (cen [] [] 2 0 (KR v23) (ZA v23) [57,62] [1])) (wU (K:=(kx E 66 0)) (xs':=[.one (.lst 2 (rf (qM qA) [a1.Chip,a1.Dust]))]) (b:=false) ⟨[(57,vb false),(62,vo 1 0 1 2)],[(1,ro 0 28 1 2 (rf (qM qA) [a1.Chip,a1.Dust]))]⟩ (opAt (rg f150 124) 10) [] [] 2 (o1 (ki 2)) (by simp only[tl,rf,show([a1.Chip,a1.Dust]:List (List Int)).length=2 from rfl]) (qAh ([a1.Chip,a1.Dust]:List (List Int)) v23 h24) (.inr ⟨(by kernel_rfl),qPH v23⟩) (by kernel_rfl))] 1 ⟨[(65,vb (!v23))],[]⟩ (q_J (!v23) hm)
  ·rcases bif_c hm with⟨b5,hm⟩|⟨b5,hm⟩
   ·exact q_vv [qf 7 b5] 1 [3,9] [(33,vb true)] (q_J (true) hm)
   ·rcases bif_c hm with⟨b6,hm⟩|⟨b6,hm⟩
    ·exact q_vv [qf 7 b5,qf 15 b6] 1 [3,9] [(33,vb true)] (q_J (true) hm)
    ·exact q_vv [qf 7 b5,qf 15 b6] 1 [3,9] [(33,vb ((a1.Dust.length:Int) !=a1.Len))] (q_J ((a1.Dust.length:Int) !=a1.Len) hm)
def qGG (r:qD):V:=va (qR r)
def LT (r:qD):List (Nat×(Nat×O)):=[]
theorem qOW (r:qD):jS (LT r):=by
 intro i k o h;unfold LT at h;cases h
def JI (a1:Line) (a2:Int) (a3:List Int) (a4:List qD) (x5:Int):St:=
 ⟨[(1,vi a2),(2,vc (tl qA du a3)),(3,vc (tl qR du a4)),(4,vp 0 0),(8,vp 1 0),(9,vp 2 0),(18,vc (tl qA du a1.Sizes)),(19,vi (a1.Sizes.length:Int)),(20,vi x5)],[(0,bx 84 (wB a1)),(1,bx 207 [ci 0,ci 0,ci 0])]⟩
def qKG (a1:Line) (a2:Int) (a3:List Int) (a4:List qD) (x5:Int) (x26:qD):St:=
 (JI a1 a2 a3 a4 x5).up [] [] [] [(2,bx 207 (qR x26))]
def qJI (a1:Line) (a2:Int) (a3:List Int) (a4:List qD) (x5:Int) (x6:qD) (x22:qD) (x24:Bool):St:=
 (JI a1 a2 a3 a4 x5).up [] [(13,vp 3 0),(89,vb x24)] [] [(2,bx 207 (qR x6)),(3,bx 207 (qR x22))]
def qJF (a1:Line) (a2:Int) (a3:List Int) (a4:List qD) (x5:Int) (x6:qD) (x22:qD):St:=
 (JI a1 a2 a3 a4 x5).up [] [(13,vp 3 0)] [] [(2,bx 207 (qR x6)),(3,bx 207 (qR x22))]
def qJE (a1:Line) (a2:Int) (a3:List Int) (a4:List qD) (x5:Int) (x6:qD) (x12:Bool):St:=
 (JI a1 a2 a3 a4 x5).up [] [(10,vi x5),(12,vi (w64 (a2+(a1.Sizes.getD x5.toNat du)))),(42,vb x12)] [] [(2,bx 207 (qR x6))]
def ST (a1:Line) (a2:Int) (a3:List Int) (a4:List qD) (x5:Int) (x6:qD):St:=
 (JI a1 a2 a3 a4 x5).up [] [] [] [(2,bx 207 (qR x6))]
def qC1 (x27:qD):St:=
 ⟨[(8,vp 1 0),(9,vp 2 0)],[(1,bx 207 [ci 0,ci 0,ci 0]),(2,bx 207 (qR x27))]⟩
theorem qJC (E:Env 0) (a1:Line) (a2:Int) (a3:List Int) (a4:List qD):∀(n:Nat) (x5:Int) (x6:qD) (res:qD),jD a1 a2 a3 a4 n x5 x6=some res->HL (kx E 93 0) (nd f195 116) (zL 0 qC1 res) n (ST a1 a2 a3 a4 x5 x6):=by
 intro n
 induction n with
 |zero=>
  intro x5 x6 res hm;cases hm
 |succ n ih=>
  intro x5 x6 res hm;refine qT (s_va 3 [(21,vb (decide (x5<(a1.Sizes.length:Int))))] ?_);refine q_sq (q_cq hm (λhm=>?_) (λhm=>?_))
  ·refine q_sk (q_jn (qKG a1 a2 a3 a4 x5) (λp=>RP x5 (jD a1 a2 a3 a4 n) p=some res) ?_ ?_)
   ·rintro x26 hm;exact q_vv [] 4 [20] [(20,vi (w64 (x5+1)))] (q_hl (ST a1 a2 a3 a4 (w64 (x5+1)) x26) (ih (w64 (x5+1)) x26 _ hm))
   ·refine q_bk 1 ?_;obtain⟨g8,hm⟩:=qI hm;refine s_vv [qi 1 g8] 3 [21] [(10,vi x5),(11,vi (a1.Sizes.getD x5.toNat du))] (s_vv [] 3 [11] [(12,vi (w64 (a2+(a1.Sizes.getD x5.toNat du))))] ?_);refine q_sq (q_jn (qJE a1 a2 a3 a4 x5 x6) (λp=>BX a1 a2 a3 a4 x5 x6 (jD a1 a2 a3 a4 n) p=some res) ?_ ?_)
    ·rintro x12 hm;refine q_cq hm (λhm=>?_) (λhm=>?_)
     ·exact q_ex 1 (q_J (x6) hm)
     ·refine q_sk ?_;obtain⟨g14,hm⟩:=qI hm;obtain⟨g15,hm⟩:=qI hm;refine s_vu [qi 6 g14,qi 9 g15] 3 [10,42] [(13,vp 3 0)] [] [(3,bx 207 [ci x5,ci a2,ci ((a1.Gain.getD x5.toNat du).getD a2.toNat du)])] (q_jn (qJF a1 a2 a3 a4 x5 x6) (λp=>NQ x5 x6 (jD a1 a2 a3 a4 n) p=some res) ?_ ?_)
      ·rintro x22 hm;refine q_jn (qJI a1 a2 a3 a4 x5 x6 x22) (λp=>BZ x5 x6 (jD a1 a2 a3 a4 n) x22 p=some res) ?_ ?_
       ·rintro x24 hm;refine q_cq hm (λhm=>?_) (λhm=>?_)
        ·exact q_vu [] 4 [13,89] [] [2,3] [(2,bx 207 (qR x22))] (q_J (x22) hm)
        ·exact q_sk (q_J (x6) hm)
       ·rcases bif_c hm with⟨b23,hm⟩|⟨b23,hm⟩
        ·exact q_vv [qf 4 b23] 4 [] [(89,vb true)] (q_J (true) hm)
        ·exact q_vv [qf 4 b23] 4 [] [(89,vb (decide (x22.value>x6.value)))] (q_J (decide (x22.value>x6.value)) hm)
      ·obtain⟨v16,h17,hm⟩:=qB hm;refine s_vv [qc 2 [55,56] 4 (qEe a1 (w64 (a2+(a1.Sizes.getD x5.toNat du))) v16 h17)] 4 [] [(14,vi v16)] (s_va 4 [(59,vb (decide (v16≥0)))] ?_);refine q_cq hm (λhm=>?_) (λhm=>?_)
       ·obtain⟨g19,hm⟩:=qI hm;obtain⟨g20,hm⟩:=qI hm;obtain⟨g21,hm⟩:=qI hm
        exact q_du [qi 4 g19,qi 8 g20,qi 13 g21] [0,1,0,0,12,28,0,0,192,448,1020,0,0,6144,14336,30720,65532,131071,262143,524287] 4 [12,14,59] [] [3] [(3,bx 207 [ci x5,ci a2,ci (w64 (((a1.Gain.getD x5.toNat du).getD a2.toNat du)+(w64 ((w64 ((a3.getD v16.toNat du)-(a3.getD (w64 (a2+(a1.Sizes.getD x5.toNat du))).toNat du)))+((a4.getD v16.toNat du).value)))))])] (q_J ((qD.mk (qX.mk x5 a2) (w64 (((a1.Gain.getD x5.toNat du).getD a2.toNat du)+(w64 ((w64 ((a3.getD v16.toNat du)-(a3.getD (w64 (a2+(a1.Sizes.getD x5.toNat du))).toNat du)))+((a4.getD v16.toNat du).value))))))) hm)
       ·exact q_sk (q_J ((qD.mk (qX.mk x5 a2) ((a1.Gain.getD x5.toNat du).getD a2.toNat du))) hm)
    ·rcases bif_c hm with⟨b9,hm⟩|⟨b9,hm⟩
     ·exact q_vv [qf 4 b9] 3 [] [(42,vb true)] (q_J (true) hm)
     ·obtain⟨g10,hm⟩:=qI hm;obtain⟨g11,hm⟩:=qI hm;exact q_vv [qf 4 b9,qi 8 g10,qi 11 g11] 3 [] [(42,vb (decide (((a1.Gain.getD x5.toNat du).getD a2.toNat du)<0)))] (q_J (decide (((a1.Gain.getD x5.toNat du).getD a2.toNat du)<0)) hm)
  ·refine q_ex 0 ?_;obtain rfl:=oi hm;exact q_l0
theorem qNF (a1:Line) (a2:Int) (a3:List Int) (a4:List qD) (r:qD) (hm:FG a1 a2 a3 a4=some r):CtX Tryz.prog globs 195 0 0 [.agg (wB a1),.one (ci a2),.one (tl qA du a3),.one (tl qR du a4)] [] (qGG r) (LT r):=by
 unfold FG at hm;refine q_E f195 93 λE=>?_;refine s_vn [] 0 ⟨[(1,vi a2),(2,vc (tl qA du a3)),(3,vc (tl qR du a4)),(4,vp 0 0),(8,vp 1 0)],[(0,bx 84 (wB a1)),(1,bx 207 [ci 0,ci 0,ci 0])]⟩ (s_vu [] 2 [] [(9,vp 2 0)] [] [(2,bx 207 [ci (-1),ci (-1),ci 0])] ?_);refine q_sq (s_va 3 [(18,vc (tl qA du a1.Sizes)),(19,vi (a1.Sizes.length:Int)),(20,vi 0)] ?_);obtain⟨o28,h29,hm⟩:=qB hm;refine zF (nd f195 116) 0 (by kernel_rfl) FUEL qC1 o28 (q_hl (ST a1 a2 a3 a4 0 (qD.mk (qX.mk (-1) (-1)) 0)) (qJC E a1 a2 a3 a4 FUEL 0 (qD.mk (qX.mk (-1) (-1)) 0) o28 h29)) (s_vu [] 3 [9] [] [1,2] [(1,bx 207 (qR o28))] ?_)
 obtain rfl:=oi hm;exact q_rt q_rm
def qRx (r:(List Int)):V:=vo 0 0 1 r.length
def qRC (r:(List Int)):List (Nat×(Nat×O)):=[(0,ro 0 3 1 r.length (rf qA r))]
def IF (a1:List Int) (l3:List Int) (l3n:Nat) (x4:Int):St:=
 ⟨[(3,vo 0 0 1 l3n),(10,vc (tl qA du a1)),(11,vi (a1.length:Int)),(12,vi x4)],[(0,ro 0 3 1 l3n (rf qA l3))]⟩
def qEo (l9:List Int):St:=
 ⟨[(3,vo 0 0 1 l9.length)],[(0,ro 0 3 1 l9.length (rf qA l9))]⟩
theorem qK7 (E:Env 0) (a1:List Int):∀(n:Nat) (l3:List Int) (l3n:Nat) (x4:Int) (res:(List Int)),l3.length=l3n->XV a1 n l3 x4=some res->HL (kx E 29 0) (nd f194 116) (zL 0 qEo res) n (IF a1 l3 l3n x4):=by
 intro n
 induction n with
 |zero=>
  intro l3 l3n x4 res hl0 hm;cases hm
 |succ n ih=>
  intro l3 l3n x4 res hl0 hm;subst hl0;refine qT (s_va 1 [(13,vb (decide (x4<(a1.length:Int))))] ?_);refine q_sq (q_cq hm (λhm=>?_) (λhm=>?_))
  ·refine q_sk (q_sq ?_);refine q_bk 1 ?_;obtain⟨g6,hm⟩:=qI hm;refine s_vv [qi 1 g6] 1 [13] [(4,vi x4),(5,vi (a1.getD x4.toNat du))] ?_;obtain⟨g7,hm⟩:=qI hm;obtain⟨g8,hm⟩:=qI hm
   refine q_vu [qi 5 g7,qd 6 dN (qV (zC g7)),qi 9 g8,qd 10 (drw 0 0 (rf qA (l3.set ((w64 (x4+1)).toNat) (w64 ((l3.getD x4.toNat du)+(a1.getD x4.toNat du)))))) (stP qA du (w64 ((l3.getD x4.toNat du)+(a1.getD x4.toNat du))) l3 l3.length ((w64 (x4+1)).toNat) 0 [ci (w64 ((l3.getD x4.toNat du)+(a1.getD x4.toNat du)))] rfl (qV (zC g8)) rfl)] 1 [4,5] [] [0] [(0,ro 0 3 1 l3.length (rf qA (l3.set ((w64 (x4+1)).toNat) (w64 ((l3.getD x4.toNat du)+(a1.getD x4.toNat du))))))] (q_vv [] 1 [12] [(12,vi (w64 (x4+1)))] ?_)
   exact q_hl (IF a1 (l3.set ((w64 (x4+1)).toNat) (w64 ((l3.getD x4.toNat du)+(a1.getD x4.toNat du)))) l3.length (w64 (x4+1))) (ih (l3.set ((w64 (x4+1)).toNat) (w64 ((l3.getD x4.toNat du)+(a1.getD x4.toNat du)))) l3.length (w64 (x4+1)) _ (qEI rfl) hm)
  ·refine q_ex 0 ?_;obtain rfl:=oi hm;exact q_l0
theorem qFW (a1:List Int) (r:(List Int)) (hm:GU a1=some r):CtX Tryz.prog globs 194 0 0 [.one (tl qA du a1)] [] (qRx r) (qRC r):=by
 unfold GU at hm;refine q_E f194 29 λE=>?_;refine s_vn [] 0 ⟨[(0,vc (tl qA du a1))],[]⟩ ?_;obtain⟨g2,hm⟩:=qI hm;refine s_vu [qd 3 (drw 0 0 (rf qA (List.replicate ((w64 ((a1.length:Int)+1)).toNat) 0))) (mkP qA du 0 (w64 ((a1.length:Int)+1)) 8 [ci 0] (qHK g2) rfl)] 0 [] [(3,vo 0 0 1 ((w64 ((a1.length:Int)+1)).toNat))] [] [(0,ro 0 3 1 ((w64 ((a1.length:Int)+1)).toNat) (rf qA (List.replicate ((w64 ((a1.length:Int)+1)).toNat) 0)))] (q_sq ?_);refine s_vv [] 1 [0] [(10,vc (tl qA du a1)),(11,vi (a1.length:Int)),(12,vi 0)] ?_;obtain⟨o10,h11,hm⟩:=qB hm
 refine zF (nd f194 116) 0 (by kernel_rfl) FUEL qEo o10 (q_hl (IF a1 (List.replicate ((w64 ((a1.length:Int)+1)).toNat) 0) ((w64 ((a1.length:Int)+1)).toNat) 0) (qK7 E a1 FUEL (List.replicate ((w64 ((a1.length:Int)+1)).toNat) 0) ((w64 ((a1.length:Int)+1)).toNat) 0 o10 qHq h11)) (s_vv [] 1 [3] [(2,vo 0 0 1 o10.length)] ?_);obtain rfl:=oi hm;exact q_rt q_rm
open Go.Proofs Go.Proofs.Tryz
def qMh (r:(List qD)):V:=vo 0 0 3 r.length
def qLu (r:(List qD)):List (Nat×(Nat×O)):=[(0,ro 0 207 3 r.length (rf qR r))]
def yM (a1:Line) (v2:(List Int)) (v4:(List Int)) (l7:List qD) (l8:List qD) (x9:Int) (v11:qD):St:=
 ⟨[(1,vp 0 0),(3,vo 1 0 1 v2.length),(4,vo 2 0 1 v4.length),(5,vo 3 0 3 l7.length),(6,vo 4 0 3 l8.length),(7,vi x9),(8,vp 5 0)],[(0,bx 84 (wB a1)),(1,ro 0 3 1 v2.length (rf qA v2)),(2,ro 0 3 1 v4.length (rf qA v4)),(3,ro 0 207 3 l7.length (rf qR l7)),(4,ro 0 207 3 l8.length (rf qR (l8.set x9.toNat v11)))]⟩
def qIq (a1:Line) (v2:(List Int)) (v4:(List Int)) (l7:List qD) (l8:List qD) (x9:Int) (v11:qD) (x20:Int) (x31:qD):St:=
 (yM a1 v2 v4 l7 l8 x9 v11).up [] [(10,vi x20)] [] [(5,bx 207 (qR x31))]
def qIB (a1:Line) (v2:(List Int)) (v4:(List Int)) (l7:List qD) (l8:List qD) (x9:Int) (v11:qD) (x20:Int) (x21:qD) (x29:Bool):St:=
 (yM a1 v2 v4 l7 l8 x9 v11).up [] [(10,vi x20),(11,vp 7 0),(125,vb x29)] [] [(5,bx 207 (qR x21)),(7,bx 207 [ci ((((l8.set x9.toNat v11).getD x20.toNat du).piece).Size),ci ((((l8.set x9.toNat v11).getD x20.toNat du).piece).At),ci (w64 ((((l8.set x9.toNat v11).getD x20.toNat du).value)+(w64 ((w64 ((w64 ((v2.getD ((w64 (x20-a1.Kerf)).toNat) du)-(v2.getD x9.toNat du)))+(v4.getD x20.toNat du)))-(v4.getD ((w64 (x20-a1.Kerf)).toNat) du)))))])]
def NA (a1:Line) (v2:(List Int)) (v4:(List Int)) (l7:List qD) (l8:List qD) (x9:Int) (v11:qD) (x20:Int) (x21:qD):St:=
 (yM a1 v2 v4 l7 l8 x9 v11).up [] [(10,vi x20)] [] [(5,bx 207 (qR x21))]
def qA6 (a1:Line) (v2:(List Int)) (v4:(List Int)) (l7:List qD) (l8:List qD) (x9:Int) (v11:qD) (x32:qD):St:=
 (yM a1 v2 v4 l7 l8 x9 v11).up [] [] [] [(5,bx 207 (qR x32))]
def qIp (a1:Line) (v2:(List Int)) (v4:(List Int)) (l7:List qD) (l8:List qD) (x9:Int) (v11:qD) (x19:qD):St:=
 (yM a1 v2 v4 l7 l8 x9 v11).up [] [] [] [(5,bx 207 (qR x19))]
def qIA (a1:Line) (v2:(List Int)) (v4:(List Int)) (l7:List qD) (l8:List qD) (x9:Int) (v11:qD) (x17:Bool):St:=
 (yM a1 v2 v4 l7 l8 x9 v11).up [] [(9,vp 6 0),(67,vb x17)] [] [(5,bx 207 [ci (-1),ci (-1),ci (w64 ((v2.getD a1.Len.toNat du)-(v2.getD x9.toNat du)))]),(6,bx 207 (qR ((l8.set x9.toNat v11).getD x9.toNat du)))]
def NO (a1:Line) (v2:(List Int)) (v4:(List Int)) (l7:List qD) (l7n:Nat) (l8:List qD) (l8n:Nat) (x9:Int):St:=
 ⟨[(1,vp 0 0),(3,vo 1 0 1 v2.length),(4,vo 2 0 1 v4.length),(5,vo 3 0 3 l7n),(6,vo 4 0 3 l8n),(7,vi x9)],[(0,bx 84 (wB a1)),(1,ro 0 3 1 v2.length (rf qA v2)),(2,ro 0 3 1 v4.length (rf qA v4)),(3,ro 0 207 3 l7n (rf qR l7)),(4,ro 0 207 3 l8n (rf qR l8))]⟩
def qBz (l36:List qD):St:=
 ⟨[(5,vo 3 0 3 l36.length)],[(3,ro 0 207 3 l36.length (rf qR l36))]⟩
theorem qIb (E:Env 0) (a1:Line) (v2:(List Int)) (v4:(List Int)) (l7:List qD) (l8:List qD) (x9:Int) (v11:qD):∀(n:Nat) (x20:Int) (x21:qD) (res:qD),jA a1 v2 v4 l8 x9 v11 n x20 x21=some res->HL (kx E 132 0) (nd f151 512628) (zL 2 (λo=>qA6 a1 v2 v4 l7 l8 x9 v11 o) res) n (NA a1 v2 v4 l7 l8 x9 v11 x20 x21):=by
 intro n
 induction n with
 |zero=>
  intro x20 x21 res hm;cases hm
 |succ n ih=>
  intro x20 x21 res hm;refine qT (q_sq ?_);refine s_va 7 [(79,vb (decide (x20<=a1.Len)))] (q_cq hm (λhm=>?_) (λhm=>?_))
  ·refine q_sk (q_jn (qIq a1 v2 v4 l7 l8 x9 v11 x20) (λp=>UT a1 x20 (jA a1 v2 v4 l8 x9 v11 n) p=some res) ?_ ?_)
   ·rintro x31 hm;exact q_vv [] 8 [10] [(10,vi (w64 (x20+a1.Pitch)))] (q_hl (NA a1 v2 v4 l7 l8 x9 v11 (w64 (x20+a1.Pitch)) x31) (ih (w64 (x20+a1.Pitch)) x31 _ hm))
   ·refine q_bk 3 ?_;obtain⟨g23,hm⟩:=qI hm;refine s_vu [qi 2 g23,qd 3 dN (qV (zC g23))] 7 [79] [(11,vp 7 0)] [] [(7,bx 207 (qR ((l8.set x9.toNat v11).getD x20.toNat du)))] (s_va 8 [(12,vi (w64 (x20-a1.Kerf)))] ?_);obtain⟨g24,hm⟩:=qI hm;obtain⟨g25,hm⟩:=qI hm;obtain⟨g26,hm⟩:=qI hm;obtain⟨g27,hm⟩:=qI hm
    refine s_du [qi 4 g24,qd 5 dN (qV (zC g24)),qi 8 g25,qd 9 dN (qV (zC g25)),qi 13 g26,qd 14 dN (qV (zC g26)),qi 18 g27,qd 19 dN (qV (zC g27))] [0,1,0,0,12,28,0,0,192,448,1020,0,0,6144,14336,32764,0,0,196608,458752,1048572,2097151,4194303,8388607] 8 [12] [] [7] [(7,bx 207 [ci ((((l8.set x9.toNat v11).getD x20.toNat du).piece).Size),ci ((((l8.set x9.toNat v11).getD x20.toNat du).piece).At),ci (w64 ((((l8.set x9.toNat v11).getD x20.toNat du).value)+(w64 ((w64 ((w64 ((v2.getD ((w64 (x20-a1.Kerf)).toNat) du)-(v2.getD x9.toNat du)))+(v4.getD x20.toNat du)))-(v4.getD ((w64 (x20-a1.Kerf)).toNat) du)))))])] ?_
    refine q_jn (qIB a1 v2 v4 l7 l8 x9 v11 x20 x21) (λp=>UZ a1 v2 v4 l8 x9 v11 x20 x21 (jA a1 v2 v4 l8 x9 v11 n) p=some res) ?_ ?_
    ·rintro x29 hm;refine q_cq hm (λhm=>?_) (λhm=>?_)
     ·exact q_vu [] 8 [11,125] [] [5,7] [(5,bx 207 [ci ((((l8.set x9.toNat v11).getD x20.toNat du).piece).Size),ci ((((l8.set x9.toNat v11).getD x20.toNat du).piece).At),ci (w64 ((((l8.set x9.toNat v11).getD x20.toNat du).value)+(w64 ((w64 ((w64 ((v2.getD ((w64 (x20-a1.Kerf)).toNat) du)-(v2.getD x9.toNat du)))+(v4.getD x20.toNat du)))-(v4.getD ((w64 (x20-a1.Kerf)).toNat) du)))))])] (q_J ((qD.mk (((l8.set x9.toNat v11).getD x20.toNat du).piece) (w64 ((((l8.set x9.toNat v11).getD x20.toNat du).value)+(w64 ((w64 ((w64 ((v2.getD ((w64 (x20-a1.Kerf)).toNat) du)-(v2.getD x9.toNat du)))+(v4.getD x20.toNat du)))-(v4.getD ((w64 (x20-a1.Kerf)).toNat) du))))))) hm)
     ·exact q_sk (q_J (x21) hm)
    ·rcases bif_c hm with⟨b28,hm⟩|⟨b28,hm⟩
     ·exact q_vv [qf 4 b28] 8 [] [(125,vb (decide ((w64 ((((l8.set x9.toNat v11).getD x20.toNat du).value)+(w64 ((w64 ((w64 ((v2.getD ((w64 (x20-a1.Kerf)).toNat) du)-(v2.getD x9.toNat du)))+(v4.getD x20.toNat du)))-(v4.getD ((w64 (x20-a1.Kerf)).toNat) du)))))>x21.value)))] (q_J (decide ((w64 ((((l8.set x9.toNat v11).getD x20.toNat du).value)+(w64 ((w64 ((w64 ((v2.getD ((w64 (x20-a1.Kerf)).toNat) du)-(v2.getD x9.toNat du)))+(v4.getD x20.toNat du)))-(v4.getD ((w64 (x20-a1.Kerf)).toNat) du)))))>x21.value)) hm)
     ·exact q_vv [qf 4 b28] 8 [] [(125,vb false)] (q_J (false) hm)
  ·refine q_ex 2 ?_;obtain rfl:=oi hm;exact q_l0
theorem qHB (E:Env 0) (a1:Line) (v2:(List Int)) (v4:(List Int)):∀(n:Nat) (l7:List qD) (l7n:Nat) (l8:List qD) (l8n:Nat) (x9:Int) (res:(List qD)),l7.length=l7n->l8.length=l8n->jM a1 v2 v4 n l7 l8 x9=some res->HL (kx E 132 0) (nd f151 500) (zL 0 qBz res) n (NO a1 v2 v4 l7 l7n l8 l8n x9):=by
 intro n
 induction n with
 |zero=>
  intro l7 l7n l8 l8n x9 res hl0 hl1 hm;cases hm
 |succ n ih=>
  intro l7 l7n l8 l8n x9 res hl0 hl1 hm;subst hl0;subst hl1;refine qT (q_sq ?_);refine s_va 5 [(30,vb (decide (x9≥0)))] (q_cq hm (λhm=>?_) (λhm=>?_))
  ·refine q_sk (q_sq ?_);refine q_bk 1 ?_;obtain⟨v11,h12,hm⟩:=qB hm;obtain⟨g13,hm⟩:=qI hm
   refine s_vu [qd 6 (dex (cen [] [] 5 0 (qGG v11) (LT v11) [35,36,37,38] [2,3])) (wU (K:=(kx E 132 0)) (b:=false) ⟨[(35,va (wB a1)),(36,vi x9),(37,vo 2 0 1 v4.length),(38,vo 3 0 3 l7.length)],[(2,ro 0 3 1 v4.length (rf qA v4)),(3,ro 0 207 3 l7.length (rf qR l7))]⟩ (opAt (rg f151 8008) 6) [] [] 5 (o1 (And.intro (ki v4.length) (ki l7.length))) rfl (qNF a1 x9 v4 l7 v11 h12) (.inr ⟨(by kernel_rfl),qOW v11⟩) (by kernel_rfl)),qi 7 g13,qd 8 (drw 0 0 (rf qR (l8.set x9.toNat v11))) (stP qR du v11 l8 l8.length x9.toNat 0 (qR v11) rfl (qV (zC g13)) rfl)] 5 [30] [] [4] [(4,ro 0 207 3 l8.length (rf qR (l8.set x9.toNat v11)))] ?_
   obtain⟨g14,hm⟩:=qI hm;obtain⟨g15,hm⟩:=qI hm;refine s_du [qi 4 g14,qd 5 dN (qV (zC g14)),qi 8 g15,qd 9 dN (qV (zC g15))] [0,0,0,4,14,30,0,0,192,448,1022,2047,0,8191] 5 [] [(8,vp 5 0)] [] [(5,bx 207 [ci (-1),ci (-1),ci (w64 ((v2.getD a1.Len.toNat du)-(v2.getD x9.toNat du)))])] (q_jn (qIp a1 v2 v4 l7 l8 x9 v11) (λp=>VJ a1 v2 v4 l7 l8 x9 (jM a1 v2 v4 n) v11 p=some res) ?_ ?_)
   ·rintro x19 hm;refine q_sq (s_va 7 [(10,vi (w64 ((w64 (x9+a1.Pitch))+a1.Kerf)))] ?_);obtain⟨o33,h34,hm⟩:=qB hm;refine zF (nd f151 512628) 2 (by kernel_rfl) FUEL (λo=>qA6 a1 v2 v4 l7 l8 x9 v11 o) o33 (q_hl (NA a1 v2 v4 l7 l8 x9 v11 (w64 ((w64 (x9+a1.Pitch))+a1.Kerf)) x19) (qIb E a1 v2 v4 l7 l8 x9 v11 FUEL (w64 ((w64 (x9+a1.Pitch))+a1.Kerf)) x19 o33 h34)) ?_;obtain⟨g35,hm⟩:=qI hm
    refine q_vu [qi 3 g35,qd 4 (drw 0 0 (rf qR (l7.set x9.toNat o33))) (stP qR du o33 l7 l7.length x9.toNat 0 (qR o33) rfl (qV (zC g35)) rfl)] 7 [8] [] [3,5] [(3,ro 0 207 3 l7.length (rf qR (l7.set x9.toNat o33)))] (q_vv [] 7 [7] [(7,vi (w64 (x9-1)))] ?_);exact q_hl (NO a1 v2 v4 (l7.set x9.toNat o33) l7.length (l8.set x9.toNat v11) l8.length (w64 (x9-1))) (ih (l7.set x9.toNat o33) l7.length (l8.set x9.toNat v11) l8.length (w64 (x9-1)) _ (qEI rfl) (qEI rfl) hm)
   ·refine s_vu [qi 2 g13,qd 3 dN (qV (zC g13))] 6 [] [(9,vp 6 0)] [] [(6,bx 207 (qR ((l8.set x9.toNat v11).getD x9.toNat du)))] (q_jn (qIA a1 v2 v4 l7 l8 x9 v11) (λp=>VG a1 v2 v4 l7 l8 x9 (jM a1 v2 v4 n) v11 p=some res) ?_ ?_)
    ·rintro x17 hm;refine q_cq hm (λhm=>?_) (λhm=>?_)
     ·exact q_vu [] 7 [9,67] [] [5,6] [(5,bx 207 (qR ((l8.set x9.toNat v11).getD x9.toNat du)))] (q_J (((l8.set x9.toNat v11).getD x9.toNat du)) hm)
     ·exact q_sk (q_J ((qD.mk (qX.mk (-1) (-1)) (w64 ((v2.getD a1.Len.toNat du)-(v2.getD x9.toNat du))))) hm)
    ·rcases bif_c hm with⟨b16,hm⟩|⟨b16,hm⟩
     ·exact q_vv [qf 4 b16] 7 [] [(67,vb (decide ((((l8.set x9.toNat v11).getD x9.toNat du).value)>(w64 ((v2.getD a1.Len.toNat du)-(v2.getD x9.toNat du))))))] (q_J (decide ((((l8.set x9.toNat v11).getD x9.toNat du).value)>(w64 ((v2.getD a1.Len.toNat du)-(v2.getD x9.toNat du))))) hm)
     ·exact q_vv [qf 4 b16] 7 [] [(67,vb false)] (q_J (false) hm)
  ·refine q_ex 0 ?_;obtain rfl:=oi hm;exact q_l0
theorem qJ4 (a1:Line) (r:(List qD)) (hm:UG a1=some r):CtX Tryz.prog globs 151 0 0 [.agg (wB a1)] [] (qMh r) (qLu r):=by
 unfold UG at hm;refine q_E f151 132 λE=>?_;refine s_vn [] 0 ⟨[(1,vp 0 0)],[(0,bx 84 (wB a1))]⟩ ?_;obtain⟨v2,h3,hm⟩:=qB hm;obtain⟨v4,h5,hm⟩:=qB hm;refine s_du [qc 2 [14] 1 (qFW a1.Chip v2 h3),qc 5 [17] 2 (qFW a1.Dust v4 h5)] [0,1,3,0,8,31,63,127] 1 [] [(3,vo 1 0 1 v2.length),(4,vo 2 0 1 v4.length)] [] [(1,ro 0 3 1 v2.length (rf qA v2)),(2,ro 0 3 1 v4.length (rf qA v4))] ?_;obtain⟨g6,hm⟩:=qI hm
 refine s_vu [qd 3 (drw 3 0 (rf qR (List.replicate ((w64 (a1.Len+1)).toNat) (qD.mk (qX.mk 0 0) 0)))) (mkP qR du (qD.mk (qX.mk 0 0) 0) (w64 (a1.Len+1)) 24 [ci 0,ci 0,ci 0] (qHK g6) rfl)] 3 [] [(5,vo 3 0 3 ((w64 (a1.Len+1)).toNat))] [] [(3,ro 0 207 3 ((w64 (a1.Len+1)).toNat) (rf qR (List.replicate ((w64 (a1.Len+1)).toNat) (qD.mk (qX.mk 0 0) 0))))] ?_
 refine s_vu [qd 3 (drw 4 0 (rf qR (List.replicate ((w64 (a1.Len+1)).toNat) (qD.mk (qX.mk 0 0) 0)))) (mkP qR du (qD.mk (qX.mk 0 0) 0) (w64 (a1.Len+1)) 24 [ci 0,ci 0,ci 0] (qHK g6) rfl)] 4 [] [(6,vo 4 0 3 ((w64 (a1.Len+1)).toNat))] [] [(4,ro 0 207 3 ((w64 (a1.Len+1)).toNat) (rf qR (List.replicate ((w64 (a1.Len+1)).toNat) (qD.mk (qX.mk 0 0) 0))))] (q_sq ?_);refine s_va 5 [(7,vi a1.Len)] ?_;obtain⟨o37,h38,hm⟩:=qB hm
 refine zF (nd f151 500) 0 (by kernel_rfl) FUEL qBz o37 (q_hl (NO a1 v2 v4 (List.replicate ((w64 (a1.Len+1)).toNat) (qD.mk (qX.mk 0 0) 0)) ((w64 (a1.Len+1)).toNat) (List.replicate ((w64 (a1.Len+1)).toNat) (qD.mk (qX.mk 0 0) 0)) ((w64 (a1.Len+1)).toNat) a1.Len) (qHB E a1 v2 v4 FUEL (List.replicate ((w64 (a1.Len+1)).toNat) (qD.mk (qX.mk 0 0) 0)) ((w64 (a1.Len+1)).toNat) (List.replicate ((w64 (a1.Len+1)).toNat) (qD.mk (qX.mk 0 0) 0)) ((w64 (a1.Len+1)).toNat) a1.Len o37 qHq qHq h38)) (s_vv [] 5 [5] [(2,vo 3 0 3 o37.length)] ?_);obtain rfl:=oi hm;exact q_sw 3 0 (q_rt q_rm)
def qB6 (r:(List qX)×Int×Int):V:= .tup [.one (.own 0 0 2 r.1.length),.one (ci r.2.1),.one (ci r.2.2)]
def BE (r:(List qX)×Int×Int):List (Nat×(Nat×O)):=[(0,ro 0 92 2 r.1.length (rf zY r.1))]
theorem qIe (r:(List qX)×Int×Int):jS (BE r):=by
 intro i k o h;unfold BE at h;rw[look_cons] at h;split at h
 ·cases h;exact λ_ _=>rfl
 ·cases h
def IR (a1:Line) (v5:(List qD)) (l7:List qX) (l7n:Nat) (x8:Int):St:=
 ⟨[(1,vp 0 0),(6,vo 1 0 3 v5.length),(7,vo 2 0 2 l7n),(8,vi x8)],[(0,bx 84 (wB a1)),(1,ro 0 207 3 v5.length (rf qR v5)),(2,ro 0 92 2 l7n (rf zY l7))]⟩
def qEi (v5:(List qD)) (l16:List qX):St:=
 ⟨[(6,vo 1 0 3 v5.length),(7,vo 2 0 2 l16.length)],[(1,ro 0 207 3 v5.length (rf qR v5)),(2,ro 0 92 2 l16.length (rf zY l16))]⟩
theorem qKb (E:Env 0) (a1:Line) (v5:(List qD)):∀(n:Nat) (l7:List qX) (l7n:Nat) (x8:Int) (res:(List qX)),l7.length=l7n->XU a1 v5 n l7 x8=some res->HL (kx E 47 0) (nd f87 500) (zL 0 (λo=>qEi v5 o) res) n (IR a1 v5 l7 l7n x8):=by
 intro n
 induction n with
 |zero=>
  intro l7 l7n x8 res hl0 hm;cases hm
 |succ n ih=>
  intro l7 l7n x8 res hl0 hm;subst hl0;refine qT (q_sq ?_);refine s_va 3 [(18,vb (decide (x8≥0)))] (q_cq hm (λhm=>?_) (λhm=>?_))
  ·refine q_sk (q_bk 1 ?_);obtain⟨g10,hm⟩:=qI hm;refine s_vu [qi 2 g10,qd 4 dN (qV (zC g10))] 3 [8,18] [(9,vp 3 0)] [] [(3,bx 92 (zY ((v5.getD x8.toNat du).piece)))] (q_sq ?_);refine s_va 4 [(26,vb (((((v5.getD x8.toNat du).piece).Size)==(-1))&&(((((v5.getD x8.toNat du).piece).At)==(-1))&&true)))] (q_cq hm (λhm=>?_) (λhm=>?_))
   ·refine q_ex 0 ?_;obtain rfl:=oi hm;exact q_l0
   ·refine q_sk ?_;obtain⟨g12,hm⟩:=qI hm;refine s_vu [qd 2 (drw 4 0 (rf zY [(v5.getD x8.toNat du).piece])) (litP zY du 2 (λ_=>rfl) ([(v5.getD x8.toNat du).piece]:List qX) 1 rfl),qd 3 (drw 2 1 (rf zY (l7++[(v5.getD x8.toNat du).piece]))) (apP zY du l7 ([(v5.getD x8.toNat du).piece]:List qX) l7.length 1 2 16 (1<=1) (ki _) rfl rfl (λ_=>rfl) (zI g12))] 4 [7,26] [(7,vo 2 1 2 (l7.length+1))] [2] [(2,ro 1 92 2 (l7.length+1) (rf zY (l7++[(v5.getD x8.toNat du).piece])))] ?_;obtain⟨g13,hm⟩:=qI hm;obtain⟨v14,h15,hm⟩:=qB hm
    exact q_du [qi 7 g13,qc 10 [31,40] 5 (qEe a1 (w64 ((((v5.getD x8.toNat du).piece).At)+(a1.Sizes.getD (((v5.getD x8.toNat du).piece).Size).toNat du))) v14 h15)] [0,0,2,0,8,0,32,120,248,510,1023,2047] 5 [9] [(8,vi v14)] [3] [] (q_hl (IR a1 v5 (l7++[(v5.getD x8.toNat du).piece]) (l7.length+1) v14) (ih (l7++[(v5.getD x8.toNat du).piece]) (l7.length+1) v14 _ (zE rfl rfl) hm))
  ·refine q_ex 0 ?_;obtain rfl:=oi hm;exact q_l0
theorem qGV (a1:Line) (r:(List qX)×Int×Int) (hm:JC a1=some r):CtX Tryz.prog globs 87 0 0 [.agg (wB a1)] [] (qB6 r) (BE r):=by
 unfold JC at hm;refine q_E f87 47 λE=>?_;refine s_vn [] 0 ⟨[(1,vp 0 0)],[(0,bx 84 (wB a1))]⟩ (q_sq ?_);obtain⟨v2,h3,hm⟩:=qB hm;refine s_vv [qc 1 [10] 1 (qNG a1 v2 h3)] 1 [] [(5,vi v2)] (s_va 1 [(13,vb (v2 !=0))] ?_);refine q_cq hm (λhm=>?_) (λhm=>?_)
 ·refine s_vn [] 1 ⟨[(2,vc (.emp)),(3,vi 0),(4,vi v2)],[]⟩ (q_fo 2 1 92 2 zY ?_);refine q_fl 2 1 92 2 zY ?_;obtain rfl:=oi hm;exact q_sw 1 0 (q_rt q_rm)
 ·refine q_sk ?_;obtain⟨v5,h6,hm⟩:=qB hm;refine s_vu [qc 1 [15] 1 (qJ4 a1 v5 h6)] 1 [5,13] [(6,vo 1 0 3 v5.length)] [] [(1,ro 0 207 3 v5.length (rf qR v5))] (s_va 2 [(7,vc (.emp))] ?_);refine q_sq (s_va 2 [(8,vi 0)] ?_);refine q_fo 7 2 92 2 zY ?_;obtain⟨o17,h18,hm⟩:=qB hm;refine zF (nd f87 500) 0 (by kernel_rfl) FUEL (λo=>qEi v5 o) o17 (q_hl (IR a1 v5 ([]:List qX) 0 0) (qKb E a1 v5 FUEL ([]:List qX) 0 0 o17 rfl h18)) ?_;obtain⟨g19,hm⟩:=qI hm
  refine s_du [qi 2 g19,qd 4 dN (qV (zC g19))] [0,0,2,6,14,1,63,127] 3 [6,7] [(2,vo 2 0 2 o17.length),(3,vi ((v5.getD ((0:Int).toNat) du).value)),(4,vi 0)] [1] [] ?_;obtain rfl:=oi hm;exact q_sw 2 0 (q_rt q_rm)
def XN (a1:List Node) (a2:Int) (a3:List Node) (r:Int×(List Node)):V:= .undef
def yY (a1:List Node) (a2:Int) (a3:List Node) (r:Int×(List Node)):List (Nat×(Nat×O)):=[(0,bx 3 [ci r.1]),(1,bx 44 [.own 2 0 2 r.2.length]),(2,ro 0 65 2 r.2.length (rf qE r.2))]
theorem HO (a1:List Node) (a2:Int) (a3:List Node) (r:Int×(List Node)):jS (yY a1 a2 a3 r):=by
 intro i k o h;unfold yY at h;rw[look_cons] at h;split at h
 ·cases h;rfl
 ·rw[look_cons] at h;split at h
  ·cases h;rfl
  ·rw[look_cons] at h;split at h
   ·cases h;exact λ_ _=>rfl
   ·cases h
theorem TF (a1:List Node) (a2:Int) (a3:List Node) (r:Int×(List Node)) (hm:yX a1 a2 a3=some r):CtX Tryz.prog globs 154 3 2 [.one (tl qE du a1),.one (.bptr 0 0 0),.one (.bptr 1 0 0)] [(0,bx 3 [ci a2]),(1,bx 44 [.own 2 0 2 a3.length]),(2,ro 0 65 2 a3.length (rf qE a3))] (XN a1 a2 a3 r) (yY a1 a2 a3 r):=by
 unfold yX at hm;refine q_E f154 13 λE=>?_;refine s_vn [] 3 ⟨[(0,vc (tl qE du a1)),(1,vp 0 0),(2,vp 1 0)],[(0,bx 3 [ci (w64 (a2+(a1.length:Int)))]),(1,bx 44 [.own 2 0 2 a3.length]),(2,ro 0 65 2 a3.length (rf qE a3))]⟩ (s_vv [] 3 [1] [(9,vb (decide ((w64 (a2+(a1.length:Int)))<=127)))] ?_);refine q_cq hm (λhm=>?_) (λhm=>?_)
 ·obtain⟨g5,hm⟩:=qI hm;refine q_wu [qd 2 (drw 2 1 (rf qE (a3++a1))) (apP qE du a3 a1 a3.length a1.length 2 16 (True) trivial rfl rfl (λ_=>rfl) (zI g5))] [.len 2 ((a3++a1).length)] (o1 (And.intro (Eq.symm (show(a3++a1).length=(a3.length+a1.length) from(zE rfl rfl))) (And.intro (Eq.symm (show(a3++a1).length=(a3.length+a1.length) from(zE rfl rfl))) (Eq.symm (show(a3++a1).length=(a3.length+a1.length) from(zE rfl rfl)))))) 3 [0,2,9] [] [1,2] [(1,bx 44 [.own 2 1 2 ((a3++a1).length)]),(2,ro 1 65 2 ((a3++a1).length) (rf qE (a3++a1)))] ?_;obtain rfl:=oi hm;exact q_rm
 ·refine q_sk ?_;obtain rfl:=oi hm;exact q_rm
open Go.Proofs Go.Proofs.Tryz
def qOD (r:Bool):V:=vb r
def qQa (r:Bool):List (Nat×(Nat×O)):=[]
def qK0 (x3:Bool):St:=
 ⟨[(2,vb x3)],[]⟩
theorem qOh (a1:Int) (r:Bool) (hm:jH a1=some r):CtX Tryz.prog globs 153 0 0 [.one (ci a1)] [] (qOD r) (qQa r):=by
 unfold jH at hm;refine q_E f153 9 λE=>?_;refine s_vn [] 0 ⟨[(0,vi a1)],[]⟩ (q_jn (qK0) (λp=>BS p=some r) ?_ ?_)
 ·rintro x3 hm;obtain rfl:=oi hm;exact q_rt q_rm
 ·rcases bif_c hm with⟨b2,hm⟩|⟨b2,hm⟩
  ·exact q_vn [qf 2 b2] 0 ⟨[(2,vb true)],[]⟩ (q_J (true) hm)
  ·exact q_vn [qf 2 b2] 0 ⟨[(2,vb (a1==3))],[]⟩ (q_J (a1==3) hm)
def qPc (r:Span):V:=va (qG r)
def qQJ (r:Span):List (Nat×(Nat×O)):=[]
theorem qMX (a1:Rect) (a2:Int) (r:Span) (hm:JZ a1 a2=some r):CtX Tryz.prog globs 155 0 0 [.agg (qO a1),.one (ci a2)] [] (qPc r) (qQJ r):=by
 unfold JZ at hm;refine q_E f155 11 λE=>?_;refine s_vn [] 0 ⟨[(1,vi a2),(2,vp 0 0),(4,vp 1 0)],[(0,bx 33 (qO a1)),(1,bx 31 [ci 0,ci 0])]⟩ (q_sq ?_);refine s_vv [] 2 [1] [(6,vb (a2==2))] (q_cq hm (λhm=>?_) (λhm=>?_))
 ·refine s_vn [] 2 ⟨[(4,vp 1 0)],[(1,bx 31 (qG a1.X))]⟩ ?_;obtain rfl:=oi hm;exact q_rt q_rm
 ·refine q_sk (s_vn [] 2 ⟨[(4,vp 1 0)],[(1,bx 31 (qG a1.Y))]⟩ ?_);obtain rfl:=oi hm;exact q_rt q_rm
def IS (r:Bool):V:=vb r
def OD (r:Bool):List (Nat×(Nat×O)):=[]
def qID (a1:Rect) (x2:Int) (x7:Bool):St:=
 ⟨[(9,va (qO a1)),(10,vi x2),(27,vb x7)],[]⟩
def NR (a1:Rect) (x2:Int):St:=
 ⟨[(9,va (qO a1)),(10,vi x2)],[]⟩
def qA9 :St:=
 ⟨[],[]⟩
theorem qHX (E:Env 0) (a1:Rect):∀(n:Nat) (x2:Int) (res:Bool⊕Unit),zX a1 n x2=some res->HL (kx E 29 0) (nd f115 52) (wN 0 (λo=>qA9) (λv st=>RetQ Tryz.prog f115 (IS v) (OD v) .ret st) res) n (NR a1 x2):=by
 intro n
 induction n with
 |zero=>
  intro x2 res hm;cases hm
 |succ n ih=>
  intro x2 res hm;refine qT (s_va 1 [(11,vb (decide (x2<2)))] ?_);refine q_sq (q_cq hm (λhm=>?_) (λhm=>?_))
  ·refine q_sk (q_sq ?_);refine q_bk 1 ?_;obtain⟨g4,hm⟩:=qI hm;refine s_vu [qi 0 g4] 1 [11] [(4,vp 1 0)] [] [(1,bx 31 [ci (([a1.X.A,a1.X.B,a1.Y.A,a1.Y.B]:List Int).getD (x2.toNat*2+0) 0),ci (([a1.X.A,a1.X.B,a1.Y.A,a1.Y.B]:List Int).getD (x2.toNat*2+1) 0)])] (q_jn (qID a1 x2) (λp=>jJ x2 (zX a1 n) p=some res) ?_ ?_)
   ·rintro x7 hm;refine q_cq hm (λhm=>?_) (λhm=>?_)
    ·refine s_vn [] 2 ⟨[(2,vb false)],[]⟩ ?_;obtain rfl:=oi hm;refine q_rt (zG false ?_);exact q_rm
    ·refine q_sk (q_vv [] 2 [10,27] [(10,vi (w64 (x2+1)))] ?_);exact q_hl (NR a1 (w64 (x2+1))) (ih (w64 (x2+1)) _ hm)
   ·rcases bif_c hm with⟨b5,hm⟩|⟨b5,hm⟩
    ·exact q_vu [qf 3 b5] 2 [4] [(27,vb true)] [1] [] (q_J (true) hm)
    ·rcases bif_c hm with⟨b6,hm⟩|⟨b6,hm⟩
     ·exact q_vu [qf 3 b5,qf 8 b6] 2 [4] [(27,vb true)] [1] [] (q_J (true) hm)
     ·exact q_vu [qf 3 b5,qf 8 b6] 2 [4] [(27,vb (decide ((([a1.X.A,a1.X.B,a1.Y.A,a1.Y.B]:List Int).getD (x2.toNat*2+0) 0)≥(([a1.X.A,a1.X.B,a1.Y.A,a1.Y.B]:List Int).getD (x2.toNat*2+1) 0))))] [1] [] (q_J (decide ((([a1.X.A,a1.X.B,a1.Y.A,a1.Y.B]:List Int).getD (x2.toNat*2+0) 0)≥(([a1.X.A,a1.X.B,a1.Y.A,a1.Y.B]:List Int).getD (x2.toNat*2+1) 0))) hm)
  ·refine q_ex 0 ?_;obtain rfl:=oi hm;exact q_l1 ()
theorem qDw (a1:Rect) (r:Bool) (hm:yP a1=some r):CtX Tryz.prog globs 115 0 0 [.agg (qO a1)] [] (IS r) (OD r):=by
 unfold yP at hm;refine q_E f115 29 λE=>?_;refine s_vn [] 0 ⟨[(1,vp 0 0)],[(0,bx 33 (qO a1))]⟩ (q_sq ?_);refine s_vn [] 1 ⟨[(9,va (qO a1)),(10,vi 0)],[]⟩ ?_;obtain⟨u11,h10,hm⟩:=qB hm;refine zT (nd f115 52) 0 (by kernel_rfl) FUEL (λo=>qA9) (λv st=>RetQ Tryz.prog f115 (IS v) (OD v) .ret st) u11 (q_hl (NR a1 0) (qHX E a1 FUEL 0 u11 h10)) ?_ ?_
 ·rintro v12 rfl st hr;obtain rfl:=oi hm;exact hr
 ·rintro o9 rfl;replace hm:_=some r:=hm;refine s_vn [] 1 ⟨[(2,vb true)],[]⟩ ?_;obtain rfl:=oi hm;exact q_rt q_rm
end Saw
end Go.SL

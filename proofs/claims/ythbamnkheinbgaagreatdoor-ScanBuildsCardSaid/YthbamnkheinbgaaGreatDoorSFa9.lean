import Derived.Test.YthbamnkheinbgaaGreatDoorSBase
import Derived.Test.YthbamnkheinbgaaGreatDoorSFa8
import Derived.Test.YthbamnkheinbgaaGreatDoorSFa7
set_option linter.unusedVariables false
set_option linter.unusedSimpArgs false
namespace Go.SL
namespace Saw
open Go.Proofs Go.Proofs.Tryz
set_option maxHeartbeats 4000000
set_option maxRecDepth 100000
def PM (r:Int):V:=vi r
def PF (r:Int):List (Nat×(Nat×O)):=[]
def jG (a1:qC):St:=
 ⟨[(1,vp 0 0),(3,vi (a1.Rows.length:Int))],[(0,bx 48 (qJ a1))]⟩
def qG5 (a1:qC) (x6:Int) (x14:Bool):St:=
 (jG a1).up [] [(4,vi x6),(41,vb x14)] [] []
def NO (a1:qC) (x6:Int):St:=
 (jG a1).up [] [(4,vi x6)] [] []
def OY (a1:qC):St:=
 (jG a1).up [] [] [] []
def qGw (a1:qC) (x31:Int) (x37:Bool):St:=
 (jG a1).up [] [(5,vi x31),(80,vb x37)] [] []
def NN (a1:qC) (x31:Int):St:=
 (jG a1).up [] [(5,vi x31)] [] []
def CI :St:=
 ⟨[],[]⟩
def qGn (a1:qC) (x29:Bool):St:=
 (jG a1).up [] [(60,vb x29)] [] []
def qHd (a1:qC) (x4:Bool):St:=
 (jG a1).up [] [(20,vb x4)] [] []
theorem qFM (E:Env 0) (a1:qC):∀(n:Nat) (x6:Int) (res:Int⊕Unit),jN a1 n x6=some res->HL (kx E 81 0) (nd f156 500) (wL 0 (λo=>OY a1) (λv st=>RetQ Tryz.prog f156 (PM v) (PF v) .ret st) res) n (NO a1 x6):=by
 intro n
 induction n with
 |zero=>
  intro x6 res hm;cases hm
 |succ n ih=>
  intro x6 res hm;refine qP (q_sq ?_);refine s_va 1 [(23,vb (decide (x6<(a1.Rows.length:Int))))] (q_cq hm (λhm=>?_) (λhm=>?_))
  ·refine q_sk (q_sq ?_);refine q_bk 1 (q_jn (qG5 a1 x6) (λp=>US x6 (jN a1 n) p=some res) ?_ ?_)
   ·rintro x14 hm;refine q_cq hm (λhm=>?_) (λhm=>?_)
    ·refine s_vn [] 1 ⟨[(2,vi 9)],[]⟩ ?_;obtain rfl:=oi hm;refine q_rt (zG 9 ?_);exact q_rm
    ·refine q_sk (q_vv [] 1 [4,41] [(4,vi (w64 (x6+1)))] ?_);exact q_hl (NO a1 (w64 (x6+1))) (ih (w64 (x6+1)) _ hm)
   ·obtain⟨g8,hm⟩:=qH hm;obtain⟨v9,h10,hm⟩:=qD hm;rcases bif_c hm with⟨b11,hm⟩|⟨b11,hm⟩
    ·exact q_vv [qi 3 g8,qc 6 [31] 1 (ME ((a1.Rows.getD x6.toNat dd).A) v9 h10),qf 7 b11] 1 [23] [(41,vb true)] (q_J (true) hm)
    ·obtain⟨v12,h13,hm⟩:=qD hm;exact q_vv [qi 3 g8,qc 6 [31] 1 (ME ((a1.Rows.getD x6.toNat dd).A) v9 h10),qf 7 b11,qi 11 g8,qk 14 [33,39] 1 ⟨[(33,vb false),(39,vi ((a1.Rows.getD x6.toNat dd).B))],[]⟩ (ME ((a1.Rows.getD x6.toNat dd).B) v12 h13)] 1 [23] [(41,vb v12)] (q_J (v12) hm)
  ·refine q_ex 0 ?_;obtain rfl:=oi hm;exact q_l1 ()
theorem qFz (E:Env 0) (a1:qC):∀(n:Nat) (x31:Int) (res:Int⊕Unit),jM a1 n x31=some res->HL (kx E 81 0) (nd f156 4084) (wL 2 (λo=>CI) (λv st=>RetQ Tryz.prog f156 (PM v) (PF v) .ret st) res) n (NN a1 x31):=by
 intro n
 induction n with
 |zero=>
  intro x31 res hm;cases hm
 |succ n ih=>
  intro x31 res hm;refine qP (q_sq ?_);refine s_va 1 [(63,vb (decide (x31<(a1.Rows.length:Int))))] (q_cq hm (λhm=>?_) (λhm=>?_))
  ·refine q_sk (q_sq ?_);refine q_bk 3 (q_jn (qGw a1 x31) (λp=>VG x31 (jM a1 n) p=some res) ?_ ?_)
   ·rintro x37 hm;refine q_cq hm (λhm=>?_) (λhm=>?_)
    ·refine s_vn [] 1 ⟨[(2,vi 19)],[]⟩ ?_;obtain rfl:=oi hm;refine q_rt (zG 19 ?_);exact q_rm
    ·refine q_sk (q_vv [] 1 [5,80] [(5,vi (w64 (x31+1)))] ?_);exact q_hl (NN a1 (w64 (x31+1))) (ih (w64 (x31+1)) _ hm)
   ·obtain⟨g33,hm⟩:=qH hm;obtain⟨v34,h35,hm⟩:=qD hm;rcases bif_c hm with⟨b36,hm⟩|⟨b36,hm⟩
    ·exact q_vv [qi 3 g33,qc 5 [70] 1 (yD (a1.Rows.getD x31.toNat dd) v34 h35),qf 6 b36,qi 10 g33] 1 [63] [(80,vb (!((((a1.Rows.getD x31.toNat dd).A)==0)&&((((a1.Rows.getD x31.toNat dd).B)==0)&&true))))] (q_J (!((((a1.Rows.getD x31.toNat dd).A)==0)&&((((a1.Rows.getD x31.toNat dd).B)==0)&&true))) hm)
    ·exact q_vv [qi 3 g33,qc 5 [70] 1 (yD (a1.Rows.getD x31.toNat dd) v34 h35),qf 6 b36] 1 [63] [(80,vb false)] (q_J (false) hm)
  ·refine q_ex 2 ?_;obtain rfl:=oi hm;exact q_l1 ()
theorem qIW (a1:qC) (r:Int) (hm:GP a1=some r):CtX Tryz.prog globs 156 0 0 [.agg (qJ a1)] [] (PM r) (PF r):=by
 unfold GP at hm;refine q_E f156 81 λE=>?_;refine s_vn [] 0 ⟨[(1,vp 0 0)],[(0,bx 48 (qJ a1))]⟩ (s_va 1 [(3,vi (a1.Rows.length:Int))] ?_);refine q_sq (s_va 1 [(10,vb (decide ((a1.Rows.length:Int)>120)))] ?_);refine q_cq hm (λhm=>?_) (λhm=>?_)
 ·refine s_vn [] 1 ⟨[(2,vi 4)],[]⟩ ?_;obtain rfl:=oi hm;exact q_rt q_rm
 ·refine q_sk (q_sq ?_);refine q_jn (qHd a1) (λp=>UZ a1 p=some r) ?_ ?_
  ·rintro x4 hm;refine q_cq hm (λhm=>?_) (λhm=>?_)
   ·refine s_vn [] 1 ⟨[(2,vi 9)],[]⟩ ?_;obtain rfl:=oi hm;exact q_rt q_rm
   ·refine q_sk (q_sq ?_);refine s_vv [] 1 [20] [(4,vi 0)] ?_;obtain⟨u18,h17,hm⟩:=qD hm;refine zR (nd f156 500) 0 (by kernel_rfl) FUEL (λo=>OY a1) (λv st=>RetQ Tryz.prog f156 (PM v) (PF v) .ret st) u18 (q_hl (NO a1 0) (qFM E a1 FUEL 0 u18 h17)) ?_ ?_
    ·rintro v19 rfl st hr;obtain rfl:=oi hm;exact hr
    ·rintro o16 rfl;replace hm:_=some r:=hm;refine q_sq (s_va 1 [(43,vb ((a1.Rows.length:Int)==0))] ?_);refine q_cq hm (λhm=>?_) (λhm=>?_)
     ·refine q_sq (s_vn [] 1 ⟨[(46,vb (a1.Low !=0))],[]⟩ ?_);refine q_cq hm (λhm=>?_) (λhm=>?_)
      ·refine s_vn [] 1 ⟨[(2,vi 19)],[]⟩ ?_;obtain rfl:=oi hm;exact q_rt q_rm
      ·refine q_sk (s_vn [] 1 ⟨[(2,vi 0)],[]⟩ ?_);obtain rfl:=oi hm;exact q_rt q_rm
     ·refine q_sk (q_sq ?_);refine q_jn (qGn a1) (λp=>VB a1 p=some r) ?_ ?_
      ·rintro x29 hm;refine q_cq hm (λhm=>?_) (λhm=>?_)
       ·refine s_vn [] 1 ⟨[(2,vi 19)],[]⟩ ?_;obtain rfl:=oi hm;exact q_rt q_rm
       ·refine q_sk (q_sq ?_);refine s_vv [] 1 [60] [(5,vi 0)] ?_;obtain⟨u41,h40,hm⟩:=qD hm;refine zR (nd f156 4084) 2 (by kernel_rfl) FUEL (λo=>CI) (λv st=>RetQ Tryz.prog f156 (PM v) (PF v) .ret st) u41 (q_hl (NN a1 0) (qFz E a1 FUEL 0 u41 h40)) ?_ ?_
        ·rintro v42 rfl st hr;obtain rfl:=oi hm;exact hr
        ·rintro o39 rfl;replace hm:_=some r:=hm;refine s_vn [] 1 ⟨[(2,vi 0)],[]⟩ ?_;obtain rfl:=oi hm;exact q_rt q_rm
      ·obtain⟨g22,hm⟩:=qH hm;obtain⟨v23,h24,hm⟩:=qD hm;rcases bif_c hm with⟨b25,hm⟩|⟨b25,hm⟩
       ·exact q_vv [qi 2 g22,qc 4 [50] 1 (yD (a1.Rows.getD (0:Int).toNat dd) v23 h24),qf 5 b25] 1 [43] [(60,vb true)] (q_J (true) hm)
       ·obtain⟨g26,hm⟩:=qH hm;obtain⟨v27,h28,hm⟩:=qD hm;exact q_vv [qi 2 g22,qc 4 [50] 1 (yD (a1.Rows.getD (0:Int).toNat dd) v23 h24),qf 5 b25,qi 10 g26,qk 12 [52,58] 1 ⟨[(52,vb false),(58,va [ci ((a1.Rows.getD (w64 ((a1.Rows.length:Int)-1)).toNat dd).A),ci ((a1.Rows.getD (w64 ((a1.Rows.length:Int)-1)).toNat dd).B)])],[]⟩ (yD (a1.Rows.getD (w64 ((a1.Rows.length:Int)-1)).toNat dd) v27 h28)] 1 [43] [(60,vb v27)] (q_J (v27) hm)
  ·rcases bif_c hm with⟨b3,hm⟩|⟨b3,hm⟩
   ·exact q_vv [qf 3 b3] 1 [10] [(20,vb true)] (q_J (true) hm)
   ·exact q_vv [qf 3 b3] 1 [10] [(20,vb (decide (a1.Low>(w64 (60-(a1.Rows.length:Int))))))] (q_J (decide (a1.Low>(w64 (60-(a1.Rows.length:Int))))) hm)
def qKL (r:qC):V:=va (qJ r)
def qLc (r:qC):List (Nat×(Nat×O)):=[]
theorem qBW (a1:qC) (r:qC) (hm:RF a1=some r):CtX Tryz.prog globs 98 0 0 [.agg (qJ a1)] [] (qKL r) (qLc r):=by
 unfold RF at hm;refine q_E f98 8 λE=>?_;refine s_vn [] 0 ⟨[(1,vp 0 0),(2,vp 1 0)],[(0,bx 48 (qJ a1)),(1,bx 48 [ci 0,.emp])]⟩ (q_sq ?_);obtain⟨v2,h3,hm⟩:=qD hm;refine s_vv [qc 1 [3] 2 (qIW a1 v2 h3)] 2 [] [(5,vb (v2 !=0))] (q_cq hm (λhm=>?_) (λhm=>?_))
 ·refine s_vu [] 2 [1,5] [] [0] [] (q_fu [.ownB 1 1 2 64 2 (rf qF [])] [] [] [1] [(1,bx 48 [ci 0,.own 2 0 2 0]),(2,ro 0 64 2 0 (rf qF []))] o0 ?_);refine q_fu [.len 2 (([]:List Span).length),.frz 2] [] [] [1,2] [(1,bx 48 [ci 0,tl qF dd ([]:List Span)])] (o1 (And.intro (And.intro (show 0=([]:List Span).length from rfl) (show 0=([]:List Span).length from rfl)) (ki (([]:List Span).length)))) ?_;obtain rfl:=oi hm;exact q_rt q_rm
 ·refine q_sk (s_vn [] 2 ⟨[(2,vp 1 0)],[(1,bx 48 (qJ a1))]⟩ ?_);obtain rfl:=oi hm;exact q_rt q_rm
def qEj (r:qC):V:=va [ci r.Low,.own 0 0 2 r.Rows.length]
def LY (r:qC):List (Nat×(Nat×O)):=[(0,ro 0 64 2 r.Rows.length (rf qF r.Rows))]
theorem qMI (r:qC):jO (LY r):=by
 intro i k o h;unfold LY at h;rw[look_cons] at h;split at h
 ·cases h;exact λ_ _=>rfl
 ·cases h
def LU (v3:qC) (v5:qC) (l7:List Span) (l7n:Nat) (x8:Int):St:=
 ⟨[(2,vp 0 0),(3,vp 1 0),(4,vp 2 0),(5,vo 3 0 2 l7n),(6,vi x8)],[(0,bx 48 (qJ v3)),(1,bx 48 (qJ v5)),(2,bx 48 [ci 0,.emp]),(3,ro 0 64 2 l7n (rf qF l7))]⟩
def qA0 (l15:List Span):St:=
 ⟨[(4,vp 2 0),(5,vo 3 0 2 l15.length)],[(2,bx 48 [ci 0,.emp]),(3,ro 0 64 2 l15.length (rf qF l15))]⟩
theorem qGK (E:Env 0) (v3:qC) (v5:qC):∀(n:Nat) (l7:List Span) (l7n:Nat) (x8:Int) (res:(List Span)),l7.length=l7n->ZC v3 v5 n l7 x8=some res->HL (kx E 39 0) (nd f47 500) (zH 0 qA0 res) n (LU v3 v5 l7 l7n x8):=by
 intro n
 induction n with
 |zero=>
  intro l7 l7n x8 res hl0 hm;cases hm
 |succ n ih=>
  intro l7 l7n x8 res hl0 hm;subst hl0;refine qP (q_sq ?_);refine s_va 4 [(14,vb (decide (x8<60)))] (q_cq hm (λhm=>?_) (λhm=>?_))
  ·refine q_sk (q_sq ?_);refine q_bk 1 ?_;obtain⟨v10,h11,hm⟩:=qD hm;obtain⟨v12,h13,hm⟩:=qD hm;refine s_du [qc 2 [17,18] 4 (qEN v3 x8 v10 h11),qc 5 [20,21] 4 (qEN v5 x8 v12 h13)] [0,0,3,0,0,31,0,0,255,511] 4 [14] [(7,vp 4 0),(8,vp 5 0)] [] [(4,bx 64 (qF v10)),(5,bx 64 (qF v12))] ?_;obtain⟨g14,hm⟩:=qH hm
   refine q_vu [qd 12 (drw 6 0 (rf qF [(Span.mk (imax v10.A v12.A) (imin v10.B v12.B))])) (litP qF dd 2 (λ_=>rfl) ([(Span.mk (imax v10.A v12.A) (imin v10.B v12.B))]:List Span) 1 rfl),qd 13 (drw 3 1 (rf qF (l7++[(Span.mk (imax v10.A v12.A) (imin v10.B v12.B))]))) (apP qF dd l7 ([(Span.mk (imax v10.A v12.A) (imin v10.B v12.B))]:List Span) l7.length 1 2 16 (1<=1) (ki _) rfl rfl (λ_=>rfl) (zK g14))] 6 [5,7,8] [(5,vo 3 1 2 (l7.length+1))] [3,4,5] [(3,ro 1 64 2 (l7.length+1) (rf qF (l7++[(Span.mk (imax v10.A v12.A) (imin v10.B v12.B))])))] (q_vv [] 7 [6] [(6,vi (w64 (x8+1)))] ?_)
   exact q_hl (LU v3 v5 (l7++[(Span.mk (imax v10.A v12.A) (imin v10.B v12.B))]) (l7.length+1) (w64 (x8+1))) (ih (l7++[(Span.mk (imax v10.A v12.A) (imin v10.B v12.B))]) (l7.length+1) (w64 (x8+1)) _ (zA rfl rfl) hm)
  ·refine q_ex 0 ?_;obtain rfl:=oi hm;exact q_l0
theorem qK4 (a1:qC) (a2:qC) (r:qC) (hm:JO a1 a2=some r):CtX Tryz.prog globs 47 0 0 [.agg (qJ a1),.agg (qJ a2)] [] (qEj r) (LY r):=by
 unfold JO at hm;refine q_E f47 39 λE=>?_;refine s_vn [] 0 ⟨[(2,vp 0 0),(3,vp 1 0),(4,vp 2 0)],[(0,bx 48 (qJ a1)),(1,bx 48 (qJ a2)),(2,bx 48 [ci 0,.emp])]⟩ ?_;obtain⟨v3,h4,hm⟩:=qD hm;refine s_vu [qc 1 [9] 3 (qBW a1 v3 h4)] 3 [] [] [0] [(0,bx 48 (qJ v3))] ?_;obtain⟨v5,h6,hm⟩:=qD hm;refine s_vu [qc 1 [11] 3 (qBW a2 v5 h6)] 3 [] [] [1] [(1,bx 48 (qJ v5))] (s_va 3 [(5,vc (.emp))] ?_);refine q_sq (s_va 3 [(6,vi (-60))] ?_);refine q_fo 5 3 64 2 qF ?_;obtain⟨o16,h17,hm⟩:=qD hm
 refine qY (nd f47 500) 0 (by kernel_rfl) FUEL qA0 o16 (q_hl (LU v3 v5 ([]:List Span) 0 (-60)) (qGK E v3 v5 FUEL ([]:List Span) 0 (-60) o16 rfl h17)) ?_;obtain⟨v18,h19,hm⟩:=qD hm;refine s_vu [qd 1 (dex (cen [] [] 4 0 (LC v18) (JY v18) [37] [3])) (zJ (K:=(kx E 39 0)) (b:=false) ⟨[(37,vo 3 0 2 o16.length)],[(3,ro 0 64 2 o16.length (rf qF o16))]⟩ (opAt (rg f47 126) 1) [] [] 4 (o1 (ki o16.length)) rfl (OQ (-60) o16 v18 h19) (.inr ⟨(by kernel_rfl),qBg v18⟩) (by kernel_rfl))] 4 [5] [] [2,3] [(2,bx 48 [ci v18.Low,.own 4 0 2 v18.Rows.length]),(4,ro 0 64 2 v18.Rows.length (rf qF v18.Rows))] ?_
 obtain rfl:=oi hm;exact q_sw 4 0 (q_rt q_rm)
open Go.Proofs Go.Proofs.Tryz
def qK3 (r:Bool):V:=vb r
def qLB (r:Bool):List (Nat×(Nat×O)):=[]
def qGj (x4:Bool):St:=
 ⟨[(2,vb x4)],[]⟩
theorem qJg (a1:Box) (r:Bool) (hm:DG a1=some r):CtX Tryz.prog globs 87 0 0 [.agg (OA a1)] [] (qK3 r) (qLB r):=by
 unfold DG at hm;refine q_E f87 28 λE=>?_;refine s_vn [] 0 ⟨[(1,vp 0 0)],[(0,bx 66 (OA a1))]⟩ (q_jn (qGj) (λp=>XJ p=some r) ?_ ?_)
 ·rintro x4 hm;obtain rfl:=oi hm;exact q_rt q_rm
 ·rcases bif_c hm with⟨b2,hm⟩|⟨b2,hm⟩
  ·exact q_vn [qf 7 b2] 1 ⟨[(2,vb true)],[]⟩ (q_J (true) hm)
  ·rcases bif_c hm with⟨b3,hm⟩|⟨b3,hm⟩
   ·exact q_vn [qf 7 b2,qf 16 b3] 1 ⟨[(2,vb true)],[]⟩ (q_J (true) hm)
   ·exact q_vn [qf 7 b2,qf 16 b3] 1 ⟨[(2,vb (decide (a1.Z.A≥a1.Z.B)))],[]⟩ (q_J (decide (a1.Z.A≥a1.Z.B)) hm)
def qPE (r:Bool):V:=vb r
def qPq (r:Bool):List (Nat×(Nat×O)):=[]
def qKW (x5:Bool):St:=
 ⟨[(6,vb x5)],[]⟩
theorem RB (a1:Span) (a2:Int) (a3:Int) (r:Bool) (hm:NG a1 a2 a3=some r):CtX Tryz.prog globs 143 0 0 [.agg (qF a1),.one (ci a2),.one (ci a3)] [] (qPE r) (qPq r):=by
 unfold NG at hm;refine q_E f143 17 λE=>?_;refine s_vn [] 0 ⟨[(1,vi a2),(2,vi a3),(3,vp 0 0)],[(0,bx 64 (qF a1))]⟩ (q_jn (qKW) (λp=>SM p=some r) ?_ ?_)
 ·rintro x5 hm;obtain rfl:=oi hm;exact q_rt q_rm
 ·rcases bif_c hm with⟨b4,hm⟩|⟨b4,hm⟩
  ·exact q_vn [qf 4 b4] 1 ⟨[(6,vb (decide (a1.B<=a3)))],[]⟩ (q_J (decide (a1.B<=a3)) hm)
  ·exact q_vn [qf 4 b4] 1 ⟨[(6,vb false)],[]⟩ (q_J (false) hm)
def qI4 (r:Bool):V:=vb r
def qJk (r:Bool):List (Nat×(Nat×O)):=[]
def qFH (x10:Bool):St:=
 ⟨[(2,vb x10)],[]⟩
theorem qHt (a1:Box) (r:Bool) (hm:TS a1=some r):CtX Tryz.prog globs 88 0 0 [.agg (OA a1)] [] (qI4 r) (qJk r):=by
 unfold TS at hm;refine q_E f88 16 λE=>?_;refine s_vn [] 0 ⟨[(1,vp 0 0)],[(0,bx 66 (OA a1))]⟩ (q_jn (qFH) (λp=>YI p=some r) ?_ ?_)
 ·rintro x10 hm;obtain rfl:=oi hm;exact q_rt q_rm
 ·obtain⟨v2,h3,hm⟩:=qD hm;rcases bif_c hm with⟨b4,hm⟩|⟨b4,hm⟩
  ·obtain⟨v5,h6,hm⟩:=qD hm;rcases bif_c hm with⟨b7,hm⟩|⟨b7,hm⟩
   ·obtain⟨v8,h9,hm⟩:=qD hm;exact q_vn [qk 2 [4] 1 ⟨[(4,va (qF a1.X))],[]⟩ (RB a1.X (-600) 600 v2 h3),qf 3 b4,qk 6 [6,8] 1 ⟨[(6,vb true),(8,va (qF a1.Y))],[]⟩ (RB a1.Y (-600) 600 v5 h6),qf 8 b7,qk 11 [11,13] 1 ⟨[(11,vb true),(13,va (qF a1.Z))],[]⟩ (RB a1.Z 0 20000 v8 h9)] 1 ⟨[(2,vb v8)],[]⟩ (q_J (v8) hm)
   ·exact q_vn [qk 2 [4] 1 ⟨[(4,va (qF a1.X))],[]⟩ (RB a1.X (-600) 600 v2 h3),qf 3 b4,qk 6 [6,8] 1 ⟨[(6,vb true),(8,va (qF a1.Y))],[]⟩ (RB a1.Y (-600) 600 v5 h6),qf 8 b7] 1 ⟨[(2,vb false)],[]⟩ (q_J (false) hm)
  ·exact q_vn [qk 2 [4] 1 ⟨[(4,va (qF a1.X))],[]⟩ (RB a1.X (-600) 600 v2 h3),qf 3 b4] 1 ⟨[(2,vb false)],[]⟩ (q_J (false) hm)
open Go.Proofs Go.Proofs.Tryz
def AS (r:Int):V:=vi r
def AM (r:Int):List (Nat×(Nat×O)):=[]
def qGE (a1:List qL) (x3:Int) (x7:Bool):St:=
 ⟨[(0,vc (tl qR dd a1)),(3,vi x3),(13,vb x7)],[]⟩
def BR (a1:List qL) (x3:Int):St:=
 ⟨[(0,vc (tl qR dd a1)),(3,vi x3)],[]⟩
def CE :St:=
 ⟨[],[]⟩
theorem qFQ (E:Env 0) (a1:List qL):∀(n:Nat) (x3:Int) (res:Int⊕Unit),jL a1 n x3=some res->HL (kx E 43 0) (nd f41 116) (wL 0 (λo=>CE) (λv st=>RetQ Tryz.prog f41 (AS v) (AM v) .ret st) res) n (BR a1 x3):=by
 intro n
 induction n with
 |zero=>
  intro x3 res hm;cases hm
 |succ n ih=>
  intro x3 res hm;refine qP (q_sq ?_);refine s_va 0 [(10,vb (decide (x3<(a1.length:Int))))] (q_cq hm (λhm=>?_) (λhm=>?_))
  ·refine q_sk (q_sq ?_);refine q_bk 1 (q_bk 2 ?_);refine q_jn (qGE a1 x3) (λp=>UU a1 x3 (jL a1 n) p=some res) ?_ ?_
   ·rintro x7 hm;refine q_cq hm (λhm=>?_) (λhm=>?_)
    ·refine s_vn [] 0 ⟨[(2,vi 10)],[]⟩ ?_;obtain rfl:=oi hm;refine q_rt (zG 10 ?_);exact q_rm
    ·obtain⟨g9,hm⟩:=qH hm;obtain⟨v10,h11,hm⟩:=qD hm;refine s_vv [qi 2 g9,qc 5 [33] 0 (qJg ((a1.getD x3.toNat dd).Box) v10 h11)] 0 [13] [(28,vb v10)] (q_cq hm (λhm=>?_) (λhm=>?_))
     ·refine s_vn [] 0 ⟨[(2,vi 19)],[]⟩ ?_;obtain rfl:=oi hm;refine q_rt (zG 19 ?_);exact q_rm
     ·obtain⟨v13,h14,hm⟩:=qD hm;refine s_vv [qi 2 g9,qc 5 [40] 0 (qHt ((a1.getD x3.toNat dd).Box) v13 h14)] 0 [28] [(35,vb (!v13))] (q_cq hm (λhm=>?_) (λhm=>?_))
      ·refine s_vn [] 0 ⟨[(2,vi 9)],[]⟩ ?_;obtain rfl:=oi hm;refine q_rt (zG 9 ?_);exact q_rm
      ·refine q_sk (q_vv [] 0 [3,35] [(3,vi (w64 (x3+1)))] ?_);exact q_hl (BR a1 (w64 (x3+1))) (ih (w64 (x3+1)) _ hm)
   ·obtain⟨g5,hm⟩:=qH hm;rcases bif_c hm with⟨b6,hm⟩|⟨b6,hm⟩
    ·exact q_vv [qi 2 g5,qf 6 b6] 0 [10] [(13,vb true)] (q_J (true) hm)
    ·exact q_vv [qi 2 g5,qf 6 b6,qi 9 g5] 0 [10] [(13,vb (decide (((a1.getD x3.toNat dd).Kind)>6)))] (q_J (decide (((a1.getD x3.toNat dd).Kind)>6)) hm)
  ·refine q_ex 0 ?_;obtain rfl:=oi hm;exact q_l1 ()
theorem qIV (a1:List qL) (r:Int) (hm:DJ a1=some r):CtX Tryz.prog globs 41 0 0 [.one (tl qR dd a1)] [] (AS r) (AM r):=by
 unfold DJ at hm;refine q_E f41 43 λE=>?_;refine s_vn [] 0 ⟨[(0,vc (tl qR dd a1))],[]⟩ (q_sq ?_);refine s_va 0 [(6,vb (decide ((a1.length:Int)>64)))] (q_cq hm (λhm=>?_) (λhm=>?_))
 ·refine s_vn [] 0 ⟨[(2,vi 4)],[]⟩ ?_;obtain rfl:=oi hm;exact q_rt q_rm
 ·refine q_sk (q_sq ?_);refine s_vv [] 0 [6] [(3,vi 0)] ?_;obtain⟨u18,h17,hm⟩:=qD hm;refine zR (nd f41 116) 0 (by kernel_rfl) FUEL (λo=>CE) (λv st=>RetQ Tryz.prog f41 (AS v) (AM v) .ret st) u18 (q_hl (BR a1 0) (qFQ E a1 FUEL 0 u18 h17)) ?_ ?_
  ·rintro v19 rfl st hr;obtain rfl:=oi hm;exact hr
  ·rintro o16 rfl;replace hm:_=some r:=hm;refine s_vn [] 0 ⟨[(2,vi 0)],[]⟩ ?_;obtain rfl:=oi hm;exact q_rt q_rm
def PL (r:Int):V:=vi r
def PE (r:Int):List (Nat×(Nat×O)):=[]
def qHa (a1:Scan) (x5:Int) (x15:Bool):St:=
 ⟨[(1,vp 0 0),(4,vi x5),(5,vp 1 0),(50,vb x15)],[(0,bx 25 (qZ a1)),(1,bx 45 (qN (a1.Rings.getD x5.toNat dd)))]⟩
def BU (a1:Scan) (x4:Int) (x5:Int):St:=
 ⟨[(1,vp 0 0),(3,vi x4),(4,vi x5)],[(0,bx 25 (qZ a1))]⟩
def qAg (a1:Scan) (x19:Int):St:=
 ⟨[(1,vp 0 0),(3,vi x19)],[(0,bx 25 (qZ a1))]⟩
def BX (a1:Scan) (o20:Int) (x27:Int):St:=
 ⟨[(1,vp 0 0),(3,vi o20),(8,vi x27)],[(0,bx 25 (qZ a1))]⟩
def CK :St:=
 ⟨[],[]⟩
theorem qFw (E:Env 0) (a1:Scan):∀(n:Nat) (x4:Int) (x5:Int) (res:Int⊕Int),zQ a1 n x4 x5=some res->HL (kx E 86 0) (nd f14 500) (wL 0 (λo=>qAg a1 o) (λv st=>RetQ Tryz.prog f14 (PL v) (PE v) .ret st) res) n (BU a1 x4 x5):=by
 intro n
 induction n with
 |zero=>
  intro x4 x5 res hm;cases hm
 |succ n ih=>
  intro x4 x5 res hm;refine qP (q_sq ?_);refine s_va 1 [(21,vb (decide (x5<(a1.Rings.length:Int))))] (q_cq hm (λhm=>?_) (λhm=>?_))
  ·refine q_sk (q_sq ?_);refine q_bk 1 ?_;obtain⟨g7,hm⟩:=qH hm;refine s_vu [qi 3 g7] 1 [21] [(5,vp 1 0)] [] [(1,bx 45 (qN (a1.Rings.getD x5.toNat dd)))] (q_sq ?_);obtain⟨v8,h9,hm⟩:=qD hm;refine s_vv [qc 1 [29] 2 (MW (a1.Rings.getD x5.toNat dd) v8 h9)] 2 [] [(6,vi v8)] (s_va 2 [(32,vb (v8 !=0))] ?_);refine q_cq hm (λhm=>?_) (λhm=>?_)
   ·refine s_vn [] 2 ⟨[(2,vi v8)],[]⟩ ?_;obtain rfl:=oi hm;refine q_rt (zG v8 ?_);exact q_rm
   ·refine q_sk (q_sq ?_);refine q_jn (qHa a1 x5) (λp=>QP a1 x5 (zQ a1 n) p=some res) ?_ ?_
    ·rintro x15 hm;refine q_cq hm (λhm=>?_) (λhm=>?_)
     ·refine s_vn [] 2 ⟨[(2,vi 11)],[]⟩ ?_;obtain rfl:=oi hm;refine q_rt (zG 11 ?_);exact q_rm
     ·refine q_sk (q_sq ?_);obtain⟨g17,hm⟩:=qH hm;refine s_du [qi 5 g17] [0,1,3,0,8,24,56,120,248,511] 2 [50] [(60,vb (((((a1.Rings.getD x5.toNat dd).Read).length:Nat):Int) !=((((a1.Rings.getD (0:Int).toNat dd).Read).length:Nat):Int)))] [] [] (q_cq hm (λhm=>?_) (λhm=>?_))
      ·refine s_vn [] 2 ⟨[(2,vi 19)],[]⟩ ?_;obtain rfl:=oi hm;refine q_rt (zG 19 ?_);exact q_rm
      ·refine q_sk (q_vu [] 2 [5,60] [(3,vi ((a1.Rings.getD x5.toNat dd).Z))] [1] [] ?_);exact q_vv [] 2 [4] [(4,vi (w64 (x5+1)))] (q_hl (BU a1 ((a1.Rings.getD x5.toNat dd).Z) (w64 (x5+1))) (ih ((a1.Rings.getD x5.toNat dd).Z) (w64 (x5+1)) _ hm))
    ·rcases bif_c hm with⟨b11,hm⟩|⟨b11,hm⟩
     ·rcases bif_c hm with⟨b12,hm⟩|⟨b12,hm⟩
      ·exact q_vv [qf 2 b11,qf 7 b12] 2 [3,6,32] [(50,vb true)] (q_J (true) hm)
      ·rcases bif_c hm with⟨b13,hm⟩|⟨b13,hm⟩
       ·exact q_vv [qf 2 b11,qf 7 b12,qf 10 b13] 2 [3,6,32] [(50,vb (decide (((a1.Rings.getD x5.toNat dd).Z)<=x4)))] (q_J (decide (((a1.Rings.getD x5.toNat dd).Z)<=x4)) hm)
       ·exact q_vv [qf 2 b11,qf 7 b12,qf 10 b13] 2 [3,6,32] [(50,vb false)] (q_J (false) hm)
     ·rcases bif_c hm with⟨b14,hm⟩|⟨b14,hm⟩
      ·exact q_vv [qf 2 b11,qf 10 b14] 2 [3,6,32] [(50,vb (decide (((a1.Rings.getD x5.toNat dd).Z)<=x4)))] (q_J (decide (((a1.Rings.getD x5.toNat dd).Z)<=x4)) hm)
      ·exact q_vv [qf 2 b11,qf 10 b14] 2 [3,6,32] [(50,vb false)] (q_J (false) hm)
  ·refine q_ex 0 ?_;obtain rfl:=oi hm;exact q_l1 x4
theorem qFm (E:Env 0) (a1:Scan) (o20:Int):∀(n:Nat) (x27:Int) (res:Int⊕Unit),WF a1 o20 n x27=some res->HL (kx E 86 0) (nd f14 2036) (wL 2 (λo=>CK) (λv st=>RetQ Tryz.prog f14 (PL v) (PE v) .ret st) res) n (BX a1 o20 x27):=by
 intro n
 induction n with
 |zero=>
  intro x27 res hm;cases hm
 |succ n ih=>
  intro x27 res hm;refine qP (q_sq ?_);refine s_va 1 [(73,vb (decide (x27<(a1.Defects.length:Int))))] (q_cq hm (λhm=>?_) (λhm=>?_))
  ·refine q_sk (q_sq ?_);refine q_bk 3 ?_;obtain⟨g29,hm⟩:=qH hm;refine s_vv [qi 3 g29] 1 [73] [(85,vb (decide (((((a1.Defects.getD x27.toNat dd).Box).Z).B)>o20)))] (q_cq hm (λhm=>?_) (λhm=>?_))
   ·refine s_vn [] 1 ⟨[(2,vi 9)],[]⟩ ?_;obtain rfl:=oi hm;refine q_rt (zG 9 ?_);exact q_rm
   ·refine q_sk (q_vv [] 1 [8,85] [(8,vi (w64 (x27+1)))] ?_);exact q_hl (BX a1 o20 (w64 (x27+1))) (ih (w64 (x27+1)) _ hm)
  ·refine q_ex 2 ?_;obtain rfl:=oi hm;exact q_l1 ()
theorem qI6 (a1:Scan) (r:Int) (hm:GY a1=some r):CtX Tryz.prog globs 14 0 0 [.agg (qZ a1)] [] (PL r) (PE r):=by
 unfold GY at hm;refine q_E f14 86 λE=>?_;refine s_vn [] 0 ⟨[(1,vp 0 0)],[(0,bx 25 (qZ a1))]⟩ (q_sq ?_);refine s_va 1 [(12,vb (decide ((a1.Rings.length:Int)<2)))] (q_cq hm (λhm=>?_) (λhm=>?_))
 ·refine s_vn [] 1 ⟨[(2,vi 3)],[]⟩ ?_;obtain rfl:=oi hm;exact q_rt q_rm
 ·refine q_sk (q_sq ?_);refine s_vv [] 1 [12] [(16,vb (decide ((a1.Rings.length:Int)>24)))] (q_cq hm (λhm=>?_) (λhm=>?_))
  ·refine s_vn [] 1 ⟨[(2,vi 4)],[]⟩ ?_;obtain rfl:=oi hm;exact q_rt q_rm
  ·refine q_sk (s_vv [] 1 [16] [(3,vi 0)] ?_);refine q_sq (s_va 1 [(4,vi 0)] ?_);obtain⟨u22,h21,hm⟩:=qD hm;refine zR (nd f14 500) 0 (by kernel_rfl) FUEL (λo=>qAg a1 o) (λv st=>RetQ Tryz.prog f14 (PL v) (PE v) .ret st) u22 (q_hl (BU a1 0 0) (qFw E a1 FUEL 0 0 u22 h21)) ?_ ?_
   ·rintro v23 rfl st hr;obtain rfl:=oi hm;exact hr
   ·rintro o20 rfl;replace hm:_=some r:=hm;refine q_sq ?_;obtain⟨v24,h25,hm⟩:=qD hm;refine s_vv [qc 2 [64] 1 (qIV a1.Defects v24 h25)] 1 [] [(7,vi v24)] (s_va 1 [(67,vb (v24 !=0))] ?_);refine q_cq hm (λhm=>?_) (λhm=>?_)
    ·refine s_vn [] 1 ⟨[(2,vi v24)],[]⟩ ?_;obtain rfl:=oi hm;exact q_rt q_rm
    ·refine q_sk (q_sq ?_);refine s_vv [] 1 [7,67] [(8,vi 0)] ?_;obtain⟨u33,h32,hm⟩:=qD hm;refine zR (nd f14 2036) 2 (by kernel_rfl) FUEL (λo=>CK) (λv st=>RetQ Tryz.prog f14 (PL v) (PE v) .ret st) u33 (q_hl (BX a1 o20 0) (qFm E a1 o20 FUEL 0 u33 h32)) ?_ ?_
     ·rintro v34 rfl st hr;obtain rfl:=oi hm;exact hr
     ·rintro o31 rfl;replace hm:_=some r:=hm;refine s_vn [] 1 ⟨[(2,vi 0)],[]⟩ ?_;obtain rfl:=oi hm;exact q_rt q_rm
def AU (r:(List qO)×Int):V:= .tup [.one (.own 0 0 3 r.1.length),.one (ci r.2)]
def AN (r:(List qO)×Int):List (Nat×(Nat×O)):=[(0,ro 0 50 3 r.1.length (rf qQ r.1))]
def CV (a1:Scan) (a2:Int) (a3:Int) (x8:Int) (x9:Int) (l10:List Span) (v13:qC×Bool) (l23:List qO) (l23n:Nat):St:=
 ⟨[(1,vi a2),(2,vi a3),(3,vp 0 0),(9,vo 2 0 3 l23n),(10,vp 1 0),(11,vi x8),(12,vp 5 0)],[(0,bx 25 (qZ a1)),(1,bx 48 [ci x9,.own 3 0 2 l10.length]),(2,ro 0 50 3 l23n (rf qQ l23)),(3,ro 0 64 2 l10.length (rf qF l10)),(4,ro 0 64 2 v13.1.Rows.length (rf qF v13.1.Rows)),(5,bx 48 [ci v13.1.Low,.own 4 0 2 v13.1.Rows.length])]⟩
def NK (a1:Scan) (a2:Int) (a3:Int) (l7:List qO) (l7n:Nat) (x8:Int) (x9:Int) (l10:List Span) (l10n:Nat):St:=
 ⟨[(1,vi a2),(2,vi a3),(3,vp 0 0),(9,vo 2 0 3 l7n),(10,vp 1 0),(11,vi x8)],[(0,bx 25 (qZ a1)),(1,bx 48 [ci x9,.own 3 0 2 l10n]),(2,ro 0 50 3 l7n (rf qQ l7)),(3,ro 0 64 2 l10n (rf qF l10))]⟩
def qAp (l24:List qO):St:=
 ⟨[(9,vo 2 0 3 l24.length)],[(2,ro 0 50 3 l24.length (rf qQ l24))]⟩
theorem qFf (E:Env 0) (a1:Scan) (a2:Int) (a3:Int):∀(n:Nat) (l7:List qO) (l7n:Nat) (x8:Int) (x9:Int) (l10:List Span) (l10n:Nat) (res:((List qO)×Int)⊕(List qO)),l7.length=l7n->l10.length=l10n->zZ a1 a2 a3 n l7 x8 x9 l10=some res->HL (kx E 70 0) (nd f17 500) (wL 0 qAp (λv st=>RetQ Tryz.prog f17 (AU v) (AN v) .ret st) res) n (NK a1 a2 a3 l7 l7n x8 x9 l10 l10n):=by
 intro n
 induction n with
 |zero=>
  intro l7 l7n x8 x9 l10 l10n res hl0 hl1 hm;cases hm
 |succ n ih=>
  intro l7 l7n x8 x9 l10 l10n res hl0 hl1 hm;subst hl0;subst hl1;refine qP (q_sq ?_);refine s_va 4 [(24,vb (decide (x8<(a1.Rings.length:Int))))] (q_cq hm (λhm=>?_) (λhm=>?_))
  ·refine q_sk (q_sq ?_);refine q_bk 1 ?_;obtain⟨g12,hm⟩:=qH hm;obtain⟨v13,h14,hm⟩:=qD hm;refine s_vu [qi 3 g12,qc 7 [32,33,34] 4 (qG1 (a1.Rings.getD x8.toNat dd) a2 a3 v13 h14)] 4 [24] [(12,vp 5 0),(13,vb v13.2)] [] [(4,ro 0 64 2 v13.1.Rows.length (rf qF v13.1.Rows)),(5,bx 48 [ci v13.1.Low,.own 4 0 2 v13.1.Rows.length])] (q_sq ?_);refine s_vv [] 6 [13] [(39,vb (!v13.2))] (q_cq hm (λhm=>?_) (λhm=>?_))
   ·refine s_vn [] 6 ⟨[(6,vc (.emp)),(7,vi 30)],[]⟩ (q_fo 6 6 50 3 qQ ?_);refine q_fl 6 6 50 3 qQ ?_;obtain rfl:=oi hm;refine q_sw 6 0 (q_rt ?_);exact zG (([]:List qO),30) q_rm
   ·refine q_sk (q_jn (ι:=(List qO)×Nat) (λp=>CV a1 a2 a3 x8 x9 l10 v13 p.1 p.2) (λp=>p.1.length=p.2/\UW x8 (zZ a1 a2 a3 n) v13 p.1=some res) ?_ ?_)
    ·rintro⟨l23,l23n⟩ ⟨el23,hm⟩;replace el23:l23.length=l23n:=el23;subst el23;show H _ (CV a1 a2 a3 x8 x9 l10 v13 l23 l23.length) _ _;refine q_vu [] 9 [12] [] [1,3,5] [(1,bx 48 [ci v13.1.Low,.own 4 0 2 v13.1.Rows.length])] (q_wu [] [.swp 4 3] o0 9 [11] [(11,vi (w64 (x8+1)))] [1,4] [(1,bx 48 [ci v13.1.Low,.own 3 0 2 v13.1.Rows.length]),(3,ro 0 64 2 v13.1.Rows.length (rf qF v13.1.Rows))] ?_);exact q_hl (NK a1 a2 a3 l23 l23.length (w64 (x8+1)) v13.1.Low v13.1.Rows v13.1.Rows.length) (ih l23 l23.length (w64 (x8+1)) v13.1.Low v13.1.Rows v13.1.Rows.length _ rfl rfl hm)
    ·refine s_vv [] 6 [39] [(41,vb (decide (x8>0)))] (q_cq hm (λhm=>?_) (λhm=>?_))
     ·obtain⟨v17,h18,hm⟩:=qD hm
      refine s_vu [qd 2 (dex (cen [] [] 6 0 (qEj v17) (LY v17) [42,43] [3,4])) (zJ (K:=(kx E 70 0)) (b:=false) ⟨[(42,va [ci x9,.own 3 0 2 l10.length]),(43,va [ci v13.1.Low,.own 4 0 2 v13.1.Rows.length])],[(3,ro 0 64 2 l10.length (rf qF l10)),(4,ro 0 64 2 v13.1.Rows.length (rf qF v13.1.Rows))]⟩ (opAt (rg f17 256308) 2) [] [] 6 (o1 (And.intro (ki l10.length) (ki v13.1.Rows.length))) rfl (qK4 (qC.mk x9 l10) (qC.mk v13.1.Low v13.1.Rows) v17 h18) (.inr ⟨(by kernel_rfl),qMI v17⟩) (by kernel_rfl))] 6 [41] [(14,vp 7 0)] [] [(6,ro 0 64 2 v17.Rows.length (rf qF v17.Rows)),(7,bx 48 [ci v17.Low,.own 6 0 2 v17.Rows.length])] (q_sq ?_)
      refine s_va 8 [(48,vb ((v17.Rows.length:Int)==0))] (q_cq hm (λhm=>?_) (λhm=>?_))
      ·refine s_vn [] 8 ⟨[(6,vc (.emp)),(7,vi 30)],[]⟩ (q_fo 6 8 50 3 qQ ?_);refine q_fl 6 8 50 3 qQ ?_;obtain rfl:=oi hm;refine q_sw 8 0 (q_rt ?_);exact zG (([]:List qO),30) q_rm
      ·refine q_sk ?_;obtain⟨g21,hm⟩:=qH hm;obtain⟨g22,hm⟩:=qH hm
       refine q_xu [.frz 6] (o1 (ki v17.Rows.length)) [qi 4 g12,qi 11 g21,qd 17 (drw 8 0 (rf qQ [(qO.mk (w64 (((a1.Rings.getD x8.toNat dd).Z)-((a1.Rings.getD (w64 (x8-1)).toNat dd).Z))) v17)])) (litP qQ dd 3 (λ_=>rfl) ([(qO.mk (w64 (((a1.Rings.getD x8.toNat dd).Z)-((a1.Rings.getD (w64 (x8-1)).toNat dd).Z))) v17)]:List qO) 1 rfl),qd 18 (drw 2 1 (rf qQ (l7++[(qO.mk (w64 (((a1.Rings.getD x8.toNat dd).Z)-((a1.Rings.getD (w64 (x8-1)).toNat dd).Z))) v17)]))) (apP qQ dd l7 ([(qO.mk (w64 (((a1.Rings.getD x8.toNat dd).Z)-((a1.Rings.getD (w64 (x8-1)).toNat dd).Z))) v17)]:List qO) l7.length 1 3 40 (1<=1) (ki _) rfl rfl (λ_=>rfl) (zK g22))] [] o0 [0,0,2,0,14,30,62,0,128,0,512,1920,3968,8064,16382,0,65534,131070,262143,524287] 8 [9,14,48] [(9,vo 2 1 3 (l7.length+1))] [2,6,7] [(2,ro 1 50 3 (l7.length+1) (rf qQ (l7++[(qO.mk (w64 (((a1.Rings.getD x8.toNat dd).Z)-((a1.Rings.getD (w64 (x8-1)).toNat dd).Z))) v17)])))] ?_
       exact q_J ((l7++[(qO.mk (w64 (((a1.Rings.getD x8.toNat dd).Z)-((a1.Rings.getD (w64 (x8-1)).toNat dd).Z))) v17)]),(l7.length+1)) ⟨(zA rfl rfl),hm⟩
     ·exact q_sk (q_J (l7,l7.length) ⟨rfl,hm⟩)
  ·refine q_ex 0 ?_;obtain rfl:=oi hm;exact q_l1 l7
theorem qJi (a1:Scan) (a2:Int) (a3:Int) (r:(List qO)×Int) (hm:GQ a1 a2 a3=some r):CtX Tryz.prog globs 17 0 0 [.agg (qZ a1),.one (ci a2),.one (ci a3)] [] (AU r) (AN r):=by
 unfold GQ at hm;refine q_E f17 70 λE=>?_;refine s_vn [] 0 ⟨[(1,vi a2),(2,vi a3),(3,vp 0 0)],[(0,bx 25 (qZ a1))]⟩ (q_sq ?_);obtain⟨v4,h5,hm⟩:=qD hm;refine s_vv [qc 1 [15] 1 (qI6 a1 v4 h5)] 1 [] [(8,vi v4)] (s_va 1 [(18,vb (v4 !=0))] ?_);refine q_cq hm (λhm=>?_) (λhm=>?_)
 ·refine s_vn [] 1 ⟨[(6,vc (.emp)),(7,vi v4)],[]⟩ (q_fo 6 1 50 3 qQ ?_);refine q_fl 6 1 50 3 qQ ?_;obtain rfl:=oi hm;exact q_sw 1 0 (q_rt q_rm)
 ·refine q_sk (s_vv [] 1 [8,18] [(9,vc (.emp))] ?_);refine s_vu [] 1 [] [(10,vp 1 0)] [] [(1,bx 48 [ci 0,.emp])] (q_sq ?_);refine s_va 2 [(11,vi 0)] (q_fo 9 2 50 3 qQ ?_);refine q_fu [.ownB 1 1 3 64 2 (rf qF [])] [] [] [1] [(1,bx 48 [ci 0,.own 3 0 2 0]),(3,ro 0 64 2 0 (rf qF []))] o0 ?_;obtain⟨u27,h26,hm⟩:=qD hm;refine zR (nd f17 500) 0 (by kernel_rfl) FUEL qAp (λv st=>RetQ Tryz.prog f17 (AU v) (AN v) .ret st) u27 (q_hl (NK a1 a2 a3 ([]:List qO) 0 0 0 ([]:List Span) 0) (qFf E a1 a2 a3 FUEL ([]:List qO) 0 0 0 ([]:List Span) 0 u27 rfl rfl h26)) ?_ ?_
  ·rintro v28 rfl st hr;obtain rfl:=oi hm;exact hr
  ·rintro o25 rfl;replace hm:_=some r:=hm;refine s_vv [] 4 [9] [(6,vo 2 0 3 o25.length),(7,vi 0)] ?_;obtain rfl:=oi hm;exact q_sw 2 0 (q_rt q_rm)
open Go.Proofs Go.Proofs.Tryz
def RM (r:Bool):V:=vb r
def RL (r:Bool):List (Nat×(Nat×O)):=[]
def YU (a1:qC) (a2:qC) (x6:Int):St:=
 ⟨[(2,vp 0 0),(3,vp 1 0),(5,vi x6)],[(0,bx 48 (qJ a1)),(1,bx 48 (qJ a2))]⟩
def DI :St:=
 ⟨[],[]⟩
def qBF (a1:qC) (a2:qC) (x4:Bool):St:=
 ⟨[(2,vp 0 0),(3,vp 1 0),(19,vb x4)],[(0,bx 48 (qJ a1)),(1,bx 48 (qJ a2))]⟩
theorem qAw (E:Env 0) (a1:qC) (a2:qC):∀(n:Nat) (x6:Int) (res:Bool⊕Unit),wK a1 a2 n x6=some res->HL (kx E 38 0) (nd f48 116) (wL 0 (λo=>DI) (λv st=>RetQ Tryz.prog f48 (RM v) (RL v) .ret st) res) n (YU a1 a2 x6):=by
 intro n
 induction n with
 |zero=>
  intro x6 res hm;cases hm
 |succ n ih=>
  intro x6 res hm;refine qP (q_sq ?_);refine s_va 2 [(24,vb (decide (x6<(a1.Rows.length:Int))))] (q_cq hm (λhm=>?_) (λhm=>?_))
  ·refine q_sk (q_sq ?_);refine q_bk 1 ?_;obtain⟨g8,hm⟩:=qH hm;obtain⟨g9,hm⟩:=qH hm;refine s_du [qi 3 g8,qi 8 g9] [0,1,0,7,15,0,32,0,224,480,1023] 2 [24] [(37,vb (!((((a1.Rows.getD x6.toNat dd).A)==((a2.Rows.getD x6.toNat dd).A))&&((((a1.Rows.getD x6.toNat dd).B)==((a2.Rows.getD x6.toNat dd).B))&&true))))] [] [] (q_cq hm (λhm=>?_) (λhm=>?_))
   ·refine s_vn [] 2 ⟨[(4,vb false)],[]⟩ ?_;obtain rfl:=oi hm;refine q_rt (zG false ?_);exact q_rm
   ·refine q_sk (q_vv [] 2 [5,37] [(5,vi (w64 (x6+1)))] ?_);exact q_hl (YU a1 a2 (w64 (x6+1))) (ih (w64 (x6+1)) _ hm)
  ·refine q_ex 0 ?_;obtain rfl:=oi hm;exact q_l1 ()
theorem qCx (a1:qC) (a2:qC) (r:Bool) (hm:ZQ a1 a2=some r):CtX Tryz.prog globs 48 0 0 [.agg (qJ a1),.agg (qJ a2)] [] (RM r) (RL r):=by
 unfold ZQ at hm;refine q_E f48 38 λE=>?_;refine s_vn [] 0 ⟨[(2,vp 0 0),(3,vp 1 0)],[(0,bx 48 (qJ a1)),(1,bx 48 (qJ a2))]⟩ (q_sq ?_);refine q_jn (qBF a1 a2) (λp=>ZX a1 a2 p=some r) ?_ ?_
 ·rintro x4 hm;refine q_cq hm (λhm=>?_) (λhm=>?_)
  ·refine s_vn [] 2 ⟨[(4,vb false)],[]⟩ ?_;obtain rfl:=oi hm;exact q_rt q_rm
  ·refine q_sk (q_sq ?_);refine s_vv [] 2 [19] [(5,vi 0)] ?_;obtain⟨u13,h12,hm⟩:=qD hm;refine zR (nd f48 116) 0 (by kernel_rfl) FUEL (λo=>DI) (λv st=>RetQ Tryz.prog f48 (RM v) (RL v) .ret st) u13 (q_hl (YU a1 a2 0) (qAw E a1 a2 FUEL 0 u13 h12)) ?_ ?_
   ·rintro v14 rfl st hr;obtain rfl:=oi hm;exact hr
   ·rintro o11 rfl;replace hm:_=some r:=hm;refine s_vn [] 2 ⟨[(4,vb true)],[]⟩ ?_;obtain rfl:=oi hm;exact q_rt q_rm
 ·rcases bif_c hm with⟨b3,hm⟩|⟨b3,hm⟩
  ·exact q_vv [qf 5 b3] 2 [] [(19,vb true)] (q_J (true) hm)
  ·exact q_vv [qf 5 b3] 2 [] [(19,vb ((a1.Rows.length:Int) !=(a2.Rows.length:Int)))] (q_J ((a1.Rows.length:Int) !=(a2.Rows.length:Int)) hm)
def KC (r:Bool):V:=vb r
def QU (r:Bool):List (Nat×(Nat×O)):=[]
theorem OW (r:Bool):jO (QU r):=by
 intro i k o h;unfold QU at h;cases h
def qHP (a1:List qO) (a2:List qO) (x4:Int) (x11:Bool):St:=
 ⟨[(0,vc (tl qQ dd a1)),(1,vc (tl qQ dd a2)),(5,vi x4),(41,vb x11)],[]⟩
def LD (a1:List qO) (a2:List qO) (x4:Int):St:=
 ⟨[(0,vc (tl qQ dd a1)),(1,vc (tl qQ dd a2)),(5,vi x4)],[]⟩
def qBj :St:=
 ⟨[],[]⟩
theorem qGi (E:Env 0) (a1:List qO) (a2:List qO):∀(n:Nat) (x4:Int) (res:Bool⊕Unit),jU a1 a2 n x4=some res->HL (kx E 42 0) (nd f18 116) (wL 0 (λo=>qBj) (λv st=>RetQ Tryz.prog f18 (KC v) (QU v) .ret st) res) n (LD a1 a2 x4):=by
 intro n
 induction n with
 |zero=>
  intro x4 res hm;cases hm
 |succ n ih=>
  intro x4 res hm;refine qP (q_sq ?_);refine s_va 0 [(14,vb (decide (x4<(a1.length:Int))))] (q_cq hm (λhm=>?_) (λhm=>?_))
  ·refine q_sk (q_sq ?_);refine q_bk 1 (q_jn (qHP a1 a2 x4) (λp=>DT x4 (jU a1 a2 n) p=some res) ?_ ?_)
   ·rintro x11 hm;refine q_cq hm (λhm=>?_) (λhm=>?_)
    ·refine s_vn [] 0 ⟨[(4,vb false)],[]⟩ ?_;obtain rfl:=oi hm;refine q_rt (zG false ?_);exact q_rm
    ·refine q_sk (q_vv [] 0 [5,41] [(5,vi (w64 (x4+1)))] ?_);exact q_hl (LD a1 a2 (w64 (x4+1))) (ih (w64 (x4+1)) _ hm)
   ·obtain⟨g6,hm⟩:=qH hm;obtain⟨g7,hm⟩:=qH hm;rcases bif_c hm with⟨b8,hm⟩|⟨b8,hm⟩
    ·exact q_du [qi 2 g6,qi 7 g7,qf 11 b8] [0,0,3,7,15,0,0,96,224,480,1023,2047,4095,4095,16383,32767,65535,4095,4095,397311,921599,1970175,4194303,8388607,16777215] 0 [14] [(41,vb true)] [] [] (q_J (true) hm)
    ·obtain⟨v9,h10,hm⟩:=qD hm;exact q_du [qi 2 g6,qi 7 g7,qf 11 b8,qi 14 g6,qi 19 g7,qk 22 [28,33,38] 0 ⟨[(28,vb false),(33,va [ci (((a1.getD x4.toNat dd).Sec).Low),tl qF dd (((a1.getD x4.toNat dd).Sec).Rows)]),(38,va [ci (((a2.getD x4.toNat dd).Sec).Low),tl qF dd (((a2.getD x4.toNat dd).Sec).Rows)])],[]⟩ (qCx ((a1.getD x4.toNat dd).Sec) ((a2.getD x4.toNat dd).Sec) v9 h10)] [0,0,3,7,15,0,0,96,224,480,1023,2047,4095,4095,16383,32767,65535,4095,4095,397311,921599,1970175,4194303,8388607,16777215] 0 [14] [(41,vb (!v9))] [] [] (q_J (!v9) hm)
  ·refine q_ex 0 ?_;obtain rfl:=oi hm;exact q_l1 ()
theorem AY (a1:List qO) (a2:List qO) (r:Bool) (hm:FK a1 a2=some r):CtX Tryz.prog globs 18 0 0 [.one (tl qQ dd a1),.one (tl qQ dd a2)] [] (KC r) (QU r):=by
 unfold FK at hm;refine q_E f18 42 λE=>?_;refine s_vn [] 0 ⟨[(0,vc (tl qQ dd a1)),(1,vc (tl qQ dd a2))],[]⟩ (q_sq ?_);refine s_va 0 [(10,vb ((a1.length:Int) !=(a2.length:Int)))] (q_cq hm (λhm=>?_) (λhm=>?_))
 ·refine s_vn [] 0 ⟨[(4,vb false)],[]⟩ ?_;obtain rfl:=oi hm;exact q_rt q_rm
 ·refine q_sk (q_sq ?_);refine s_vv [] 0 [10] [(5,vi 0)] ?_;obtain⟨u15,h14,hm⟩:=qD hm;refine zR (nd f18 116) 0 (by kernel_rfl) FUEL (λo=>qBj) (λv st=>RetQ Tryz.prog f18 (KC v) (QU v) .ret st) u15 (q_hl (LD a1 a2 0) (qGi E a1 a2 FUEL 0 u15 h14)) ?_ ?_
  ·rintro v16 rfl st hr;obtain rfl:=oi hm;exact hr
  ·rintro o13 rfl;replace hm:_=some r:=hm;refine s_vn [] 0 ⟨[(4,vb true)],[]⟩ ?_;obtain rfl:=oi hm;exact q_rt q_rm
end Saw
end Go.SL

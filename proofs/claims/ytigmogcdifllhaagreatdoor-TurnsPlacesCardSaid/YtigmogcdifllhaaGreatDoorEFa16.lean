import Derived.Test.YtigmogcdifllhaaGreatDoorEBase
import Derived.Test.YtigmogcdifllhaaGreatDoorEFa15
import Derived.Test.YtigmogcdifllhaaGreatDoorEFa13
import Derived.Test.YtigmogcdifllhaaGreatDoorEFa14
set_option linter.unusedVariables false
set_option linter.unusedSimpArgs false
namespace Go.SL
namespace Saw
open Go.Proofs Go.Proofs.Tryz
set_option maxHeartbeats 4000000
set_option maxRecDepth 100000
def GU (r:Int):V:=vi r
def DC (r:Int):List (Nat×(Nat×O)):=[]
def yN (a1:qG):St:=
 ⟨[(1,vp 0 0),(3,vi (a1.Rows.length:Int))],[(0,bx 78 (qV a1))]⟩
def qO2 (a1:qG) (x6:Int) (x14:Bool):St:=
 (yN a1).up [] [(4,vi x6),(41,vb x14)] [] []
def OC (a1:qG) (x6:Int):St:=
 (yN a1).up [] [(4,vi x6)] [] []
def qFE (a1:qG):St:=
 (yN a1).up [] [] [] []
def qPp (a1:qG) (x31:Int) (x37:Bool):St:=
 (yN a1).up [] [(5,vi x31),(80,vb x37)] [] []
def OP (a1:qG) (x31:Int):St:=
 (yN a1).up [] [(5,vi x31)] [] []
def qGh :St:=
 ⟨[],[]⟩
def qOD (a1:qG) (x29:Bool):St:=
 (yN a1).up [] [(60,vb x29)] [] []
def qOI (a1:qG) (x4:Bool):St:=
 (yN a1).up [] [(20,vb x4)] [] []
theorem qMV (E:Env 0) (a1:qG):∀(n:Nat) (x6:Int) (res:Int⊕Unit),QD a1 n x6=some res->HL (kx E 81 0) (nd f163 500) (wC 0 (λo=>qFE a1) (λv st=>RetQ Tryz.prog f163 (GU v) (DC v) .ret st) res) n (OC a1 x6):=by
 intro n
 induction n with
 |zero=>
  intro x6 res hm;cases hm
 |succ n ih=>
  intro x6 res hm;refine qR (q_sq ?_);refine s_va 1 [(23,vb (decide (x6<(a1.Rows.length:Int))))] (q_cq hm (λhm=>?_) (λhm=>?_))
  ·refine q_sk (q_sq ?_);refine q_bk 1 (q_jn (qO2 a1 x6) (λp=>HS x6 (QD a1 n) p=some res) ?_ ?_)
   ·rintro x14 hm;refine q_cq hm (λhm=>?_) (λhm=>?_)
    ·refine s_vn [] 1 ⟨[(2,vi 9)],[]⟩ ?_;obtain rfl:=oi hm;refine q_rt (zJ 9 ?_);exact q_rm
    ·refine q_sk (q_vv [] 1 [4,41] [(4,vi (w64 (x6+1)))] ?_);exact q_hl (OC a1 (w64 (x6+1))) (ih (w64 (x6+1)) _ hm)
   ·obtain⟨g8,hm⟩:=qI hm;obtain⟨v9,h10,hm⟩:=qC hm;rcases bif_c hm with⟨b11,hm⟩|⟨b11,hm⟩
    ·exact q_vv [qi 3 g8,qc 6 [31] 1 (qAf ((a1.Rows.getD x6.toNat dd).A) v9 h10),qf 7 b11] 1 [23] [(41,vb true)] (q_J (true) hm)
    ·obtain⟨v12,h13,hm⟩:=qC hm;exact q_vv [qi 3 g8,qc 6 [31] 1 (qAf ((a1.Rows.getD x6.toNat dd).A) v9 h10),qf 7 b11,qi 11 g8,qk 14 [33,39] 1 ⟨[(33,vb false),(39,vi ((a1.Rows.getD x6.toNat dd).B))],[]⟩ (qAf ((a1.Rows.getD x6.toNat dd).B) v12 h13)] 1 [23] [(41,vb v12)] (q_J (v12) hm)
  ·refine q_ex 0 ?_;obtain rfl:=oi hm;exact q_l1 ()
theorem qNn (E:Env 0) (a1:qG):∀(n:Nat) (x31:Int) (res:Int⊕Unit),QE a1 n x31=some res->HL (kx E 81 0) (nd f163 4084) (wC 2 (λo=>qGh) (λv st=>RetQ Tryz.prog f163 (GU v) (DC v) .ret st) res) n (OP a1 x31):=by
 intro n
 induction n with
 |zero=>
  intro x31 res hm;cases hm
 |succ n ih=>
  intro x31 res hm;refine qR (q_sq ?_);refine s_va 1 [(63,vb (decide (x31<(a1.Rows.length:Int))))] (q_cq hm (λhm=>?_) (λhm=>?_))
  ·refine q_sk (q_sq ?_);refine q_bk 3 (q_jn (qPp a1 x31) (λp=>HP x31 (QE a1 n) p=some res) ?_ ?_)
   ·rintro x37 hm;refine q_cq hm (λhm=>?_) (λhm=>?_)
    ·refine s_vn [] 1 ⟨[(2,vi 19)],[]⟩ ?_;obtain rfl:=oi hm;refine q_rt (zJ 19 ?_);exact q_rm
    ·refine q_sk (q_vv [] 1 [5,80] [(5,vi (w64 (x31+1)))] ?_);exact q_hl (OP a1 (w64 (x31+1))) (ih (w64 (x31+1)) _ hm)
   ·obtain⟨g33,hm⟩:=qI hm;obtain⟨v34,h35,hm⟩:=qC hm;rcases bif_c hm with⟨b36,hm⟩|⟨b36,hm⟩
    ·exact q_vv [qi 3 g33,qc 5 [70] 1 (ZN (a1.Rows.getD x31.toNat dd) v34 h35),qf 6 b36,qi 10 g33] 1 [63] [(80,vb (!((((a1.Rows.getD x31.toNat dd).A)==0)&&((((a1.Rows.getD x31.toNat dd).B)==0)&&true))))] (q_J (!((((a1.Rows.getD x31.toNat dd).A)==0)&&((((a1.Rows.getD x31.toNat dd).B)==0)&&true))) hm)
    ·exact q_vv [qi 3 g33,qc 5 [70] 1 (ZN (a1.Rows.getD x31.toNat dd) v34 h35),qf 6 b36] 1 [63] [(80,vb false)] (q_J (false) hm)
  ·refine q_ex 2 ?_;obtain rfl:=oi hm;exact q_l1 ()
theorem qTg (a1:qG) (r:Int) (hm:EV a1=some r):CtX Tryz.prog globs 163 0 0 [.agg (qV a1)] [] (GU r) (DC r):=by
 unfold EV at hm;refine q_E f163 81 λE=>?_;refine s_vn [] 0 ⟨[(1,vp 0 0)],[(0,bx 78 (qV a1))]⟩ (s_va 1 [(3,vi (a1.Rows.length:Int))] ?_);refine q_sq (s_va 1 [(10,vb (decide ((a1.Rows.length:Int)>120)))] ?_);refine q_cq hm (λhm=>?_) (λhm=>?_)
 ·refine s_vn [] 1 ⟨[(2,vi 4)],[]⟩ ?_;obtain rfl:=oi hm;exact q_rt q_rm
 ·refine q_sk (q_sq ?_);refine q_jn (qOI a1) (λp=>HI a1 p=some r) ?_ ?_
  ·rintro x4 hm;refine q_cq hm (λhm=>?_) (λhm=>?_)
   ·refine s_vn [] 1 ⟨[(2,vi 9)],[]⟩ ?_;obtain rfl:=oi hm;exact q_rt q_rm
   ·refine q_sk (q_sq ?_);refine s_vv [] 1 [20] [(4,vi 0)] ?_;obtain⟨u18,h17,hm⟩:=qC hm;refine zQ (nd f163 500) 0 (by kernel_rfl) FUEL (λo=>qFE a1) (λv st=>RetQ Tryz.prog f163 (GU v) (DC v) .ret st) u18 (q_hl (OC a1 0) (qMV E a1 FUEL 0 u18 h17)) ?_ ?_
    ·rintro v19 rfl st hr;obtain rfl:=oi hm;exact hr
    ·rintro o16 rfl;replace hm:_=some r:=hm;refine q_sq (s_va 1 [(43,vb ((a1.Rows.length:Int)==0))] ?_);refine q_cq hm (λhm=>?_) (λhm=>?_)
     ·refine q_sq (s_vn [] 1 ⟨[(46,vb (a1.Low !=0))],[]⟩ ?_);refine q_cq hm (λhm=>?_) (λhm=>?_)
      ·refine s_vn [] 1 ⟨[(2,vi 19)],[]⟩ ?_;obtain rfl:=oi hm;exact q_rt q_rm
      ·refine q_sk (s_vn [] 1 ⟨[(2,vi 0)],[]⟩ ?_);obtain rfl:=oi hm;exact q_rt q_rm
     ·refine q_sk (q_sq ?_);refine q_jn (qOD a1) (λp=>HR a1 p=some r) ?_ ?_
      ·rintro x29 hm;refine q_cq hm (λhm=>?_) (λhm=>?_)
       ·refine s_vn [] 1 ⟨[(2,vi 19)],[]⟩ ?_;obtain rfl:=oi hm;exact q_rt q_rm
       ·refine q_sk (q_sq ?_);refine s_vv [] 1 [60] [(5,vi 0)] ?_;obtain⟨u41,h40,hm⟩:=qC hm;refine zQ (nd f163 4084) 2 (by kernel_rfl) FUEL (λo=>qGh) (λv st=>RetQ Tryz.prog f163 (GU v) (DC v) .ret st) u41 (q_hl (OP a1 0) (qNn E a1 FUEL 0 u41 h40)) ?_ ?_
        ·rintro v42 rfl st hr;obtain rfl:=oi hm;exact hr
        ·rintro o39 rfl;replace hm:_=some r:=hm;refine s_vn [] 1 ⟨[(2,vi 0)],[]⟩ ?_;obtain rfl:=oi hm;exact q_rt q_rm
      ·obtain⟨g22,hm⟩:=qI hm;obtain⟨v23,h24,hm⟩:=qC hm;rcases bif_c hm with⟨b25,hm⟩|⟨b25,hm⟩
       ·exact q_vv [qi 2 g22,qc 4 [50] 1 (ZN (a1.Rows.getD (0:Int).toNat dd) v23 h24),qf 5 b25] 1 [43] [(60,vb true)] (q_J (true) hm)
       ·obtain⟨g26,hm⟩:=qI hm;obtain⟨v27,h28,hm⟩:=qC hm;exact q_vv [qi 2 g22,qc 4 [50] 1 (ZN (a1.Rows.getD (0:Int).toNat dd) v23 h24),qf 5 b25,qi 10 g26,qk 12 [52,58] 1 ⟨[(52,vb false),(58,va [ci ((a1.Rows.getD (w64 ((a1.Rows.length:Int)-1)).toNat dd).A),ci ((a1.Rows.getD (w64 ((a1.Rows.length:Int)-1)).toNat dd).B)])],[]⟩ (ZN (a1.Rows.getD (w64 ((a1.Rows.length:Int)-1)).toNat dd) v27 h28)] 1 [43] [(60,vb v27)] (q_J (v27) hm)
  ·rcases bif_c hm with⟨b3,hm⟩|⟨b3,hm⟩
   ·exact q_vv [qf 3 b3] 1 [10] [(20,vb true)] (q_J (true) hm)
   ·exact q_vv [qf 3 b3] 1 [10] [(20,vb (decide (a1.Low>(w64 (60-(a1.Rows.length:Int))))))] (q_J (decide (a1.Low>(w64 (60-(a1.Rows.length:Int))))) hm)
def qUA (r:qG):V:=va (qV r)
def qUK (r:qG):List (Nat×(Nat×O)):=[]
theorem qIe (a1:qG) (r:qG) (hm:DS a1=some r):CtX Tryz.prog globs 103 0 0 [.agg (qV a1)] [] (qUA r) (qUK r):=by
 unfold DS at hm;refine q_E f103 8 λE=>?_;refine s_vn [] 0 ⟨[(1,vp 0 0),(2,vp 1 0)],[(0,bx 78 (qV a1)),(1,bx 78 [ci 0,.emp])]⟩ (q_sq ?_);obtain⟨v2,h3,hm⟩:=qC hm;refine s_vv [qc 1 [3] 2 (qTg a1 v2 h3)] 2 [] [(5,vb (v2 !=0))] (q_cq hm (λhm=>?_) (λhm=>?_))
 ·refine s_vu [] 2 [1,5] [] [0] [] (q_fu [.ownB 1 1 2 53 2 (rf qE [])] [] [] [1] [(1,bx 78 [ci 0,.own 2 0 2 0]),(2,ro 0 53 2 0 (rf qE []))] o0 ?_);refine q_fu [.len 2 (([]:List Span).length),.frz 2] [] [] [1,2] [(1,bx 78 [ci 0,tl qE dd ([]:List Span)])] (o1 (And.intro (And.intro (show 0=([]:List Span).length from rfl) (show 0=([]:List Span).length from rfl)) (kd (([]:List Span).length)))) ?_;obtain rfl:=oi hm;exact q_rt q_rm
 ·refine q_sk (s_vn [] 2 ⟨[(2,vp 1 0)],[(1,bx 78 (qV a1))]⟩ ?_);obtain rfl:=oi hm;exact q_rt q_rm
def qK8 (r:qG):V:=va [ci r.Low,.own 0 0 2 r.Rows.length]
def qBh (r:qG):List (Nat×(Nat×O)):=[(0,ro 0 53 2 r.Rows.length (rf qE r.Rows))]
theorem qXW (r:qG):wQ (qBh r):=by
 intro i k o h;unfold qBh at h;rw[look_cons] at h;split at h
 ·cases h;exact λ_ _=>rfl
 ·cases h
def qBb (v3:qG) (v5:qG) (l7:List Span) (l7n:Nat) (x8:Int):St:=
 ⟨[(2,vp 0 0),(3,vp 1 0),(4,vp 2 0),(5,vo 3 0 2 l7n),(6,vi x8)],[(0,bx 78 (qV v3)),(1,bx 78 (qV v5)),(2,bx 78 [ci 0,.emp]),(3,ro 0 53 2 l7n (rf qE l7))]⟩
def qGr (l15:List Span):St:=
 ⟨[(4,vp 2 0),(5,vo 3 0 2 l15.length)],[(2,bx 78 [ci 0,.emp]),(3,ro 0 53 2 l15.length (rf qE l15))]⟩
theorem qPG (E:Env 0) (v3:qG) (v5:qG):∀(n:Nat) (l7:List Span) (l7n:Nat) (x8:Int) (res:(List Span)),l7.length=l7n->YU v3 v5 n l7 x8=some res->HL (kx E 39 0) (nd f50 500) (zF 0 qGr res) n (qBb v3 v5 l7 l7n x8):=by
 intro n
 induction n with
 |zero=>
  intro l7 l7n x8 res hl0 hm;cases hm
 |succ n ih=>
  intro l7 l7n x8 res hl0 hm;subst hl0;refine qR (q_sq ?_);refine s_va 4 [(14,vb (decide (x8<60)))] (q_cq hm (λhm=>?_) (λhm=>?_))
  ·refine q_sk (q_sq ?_);refine q_bk 1 ?_;obtain⟨v10,h11,hm⟩:=qC hm;obtain⟨v12,h13,hm⟩:=qC hm;refine s_du [qc 2 [17,18] 4 (qLf v3 x8 v10 h11),qc 5 [20,21] 4 (qLf v5 x8 v12 h13)] [0,0,3,0,0,31,0,0,255,511] 4 [14] [(7,vp 4 0),(8,vp 5 0)] [] [(4,bx 53 (qE v10)),(5,bx 53 (qE v12))] ?_;obtain⟨g14,hm⟩:=qI hm
   refine q_vu [qd 12 (drw 6 0 (rf qE [(Span.mk (imax v10.A v12.A) (imin v10.B v12.B))])) (litP qE dd 2 (λ_=>rfl) ([(Span.mk (imax v10.A v12.A) (imin v10.B v12.B))]:List Span) 1 rfl),qd 13 (drw 3 1 (rf qE (l7++[(Span.mk (imax v10.A v12.A) (imin v10.B v12.B))]))) (apP qE dd l7 ([(Span.mk (imax v10.A v12.A) (imin v10.B v12.B))]:List Span) l7.length 1 2 16 (1<=1) (kd _) rfl rfl (λ_=>rfl) (zN g14))] 6 [5,7,8] [(5,vo 3 1 2 (l7.length+1))] [3,4,5] [(3,ro 1 53 2 (l7.length+1) (rf qE (l7++[(Span.mk (imax v10.A v12.A) (imin v10.B v12.B))])))] (q_vv [] 7 [6] [(6,vi (w64 (x8+1)))] ?_)
   exact q_hl (qBb v3 v5 (l7++[(Span.mk (imax v10.A v12.A) (imin v10.B v12.B))]) (l7.length+1) (w64 (x8+1))) (ih (l7++[(Span.mk (imax v10.A v12.A) (imin v10.B v12.B))]) (l7.length+1) (w64 (x8+1)) _ (zH rfl rfl) hm)
  ·refine q_ex 0 ?_;obtain rfl:=oi hm;exact q_l0
theorem qU1 (a1:qG) (a2:qG) (r:qG) (hm:RV a1 a2=some r):CtX Tryz.prog globs 50 0 0 [.agg (qV a1),.agg (qV a2)] [] (qK8 r) (qBh r):=by
 unfold RV at hm;refine q_E f50 39 λE=>?_;refine s_vn [] 0 ⟨[(2,vp 0 0),(3,vp 1 0),(4,vp 2 0)],[(0,bx 78 (qV a1)),(1,bx 78 (qV a2)),(2,bx 78 [ci 0,.emp])]⟩ ?_;obtain⟨v3,h4,hm⟩:=qC hm;refine s_vu [qc 1 [9] 3 (qIe a1 v3 h4)] 3 [] [] [0] [(0,bx 78 (qV v3))] ?_;obtain⟨v5,h6,hm⟩:=qC hm;refine s_vu [qc 1 [11] 3 (qIe a2 v5 h6)] 3 [] [] [1] [(1,bx 78 (qV v5))] (s_va 3 [(5,vc (.emp))] ?_);refine q_sq (s_va 3 [(6,vi (-60))] ?_);refine q_fo 5 3 53 2 qE ?_;obtain⟨o16,h17,hm⟩:=qC hm
 refine zB (nd f50 500) 0 (by kernel_rfl) FUEL qGr o16 (q_hl (qBb v3 v5 ([]:List Span) 0 (-60)) (qPG E v3 v5 FUEL ([]:List Span) 0 (-60) o16 rfl h17)) ?_;obtain⟨v18,h19,hm⟩:=qC hm;refine s_vu [qd 1 (dex (cen [] [] 4 0 (qAa v18) (RS v18) [37] [3])) (zW (K:=(kx E 39 0)) (b:=false) ⟨[(37,vo 3 0 2 o16.length)],[(3,ro 0 53 2 o16.length (rf qE o16))]⟩ (opAt (rg f50 126) 1) [] [] 4 (o1 (kd o16.length)) rfl (qFB (-60) o16 v18 h19) (.inr ⟨(by kernel_rfl),qG4 v18⟩) (by kernel_rfl))] 4 [5] [] [2,3] [(2,bx 78 [ci v18.Low,.own 4 0 2 v18.Rows.length]),(4,ro 0 53 2 v18.Rows.length (rf qE v18.Rows))] ?_
 obtain rfl:=oi hm;exact q_sw 4 0 (q_rt q_rm)
open Go.Proofs Go.Proofs.Tryz
def qDX (r:(List qM)×Int):V:= .tup [.one (.own 0 0 3 r.1.length),.one (ci r.2)]
def qDQ (r:(List qM)×Int):List (Nat×(Nat×O)):=[(0,ro 0 80 3 r.1.length (rf qO r.1))]
def qFr (a1:Scan) (a2:Int) (a3:Int) (x8:Int) (x9:Int) (l10:List Span) (v13:qG×Bool) (l23:List qM) (l23n:Nat):St:=
 ⟨[(1,vi a2),(2,vi a3),(3,vp 0 0),(9,vo 2 0 3 l23n),(10,vp 1 0),(11,vi x8),(12,vp 5 0)],[(0,bx 25 (zS a1)),(1,bx 78 [ci x9,.own 3 0 2 l10.length]),(2,ro 0 80 3 l23n (rf qO l23)),(3,ro 0 53 2 l10.length (rf qE l10)),(4,ro 0 53 2 v13.1.Rows.length (rf qE v13.1.Rows)),(5,bx 78 [ci v13.1.Low,.own 4 0 2 v13.1.Rows.length])]⟩
def IL (a1:Scan) (a2:Int) (a3:Int) (l7:List qM) (l7n:Nat) (x8:Int) (x9:Int) (l10:List Span) (l10n:Nat):St:=
 ⟨[(1,vi a2),(2,vi a3),(3,vp 0 0),(9,vo 2 0 3 l7n),(10,vp 1 0),(11,vi x8)],[(0,bx 25 (zS a1)),(1,bx 78 [ci x9,.own 3 0 2 l10n]),(2,ro 0 80 3 l7n (rf qO l7)),(3,ro 0 53 2 l10n (rf qE l10))]⟩
def qFs (l24:List qM):St:=
 ⟨[(9,vo 2 0 3 l24.length)],[(2,ro 0 80 3 l24.length (rf qO l24))]⟩
theorem qNu (E:Env 0) (a1:Scan) (a2:Int) (a3:Int):∀(n:Nat) (l7:List qM) (l7n:Nat) (x8:Int) (x9:Int) (l10:List Span) (l10n:Nat) (res:((List qM)×Int)⊕(List qM)),l7.length=l7n->l10.length=l10n->wR a1 a2 a3 n l7 x8 x9 l10=some res->HL (kx E 70 0) (nd f27 500) (wC 0 qFs (λv st=>RetQ Tryz.prog f27 (qDX v) (qDQ v) .ret st) res) n (IL a1 a2 a3 l7 l7n x8 x9 l10 l10n):=by
 intro n
 induction n with
 |zero=>
  intro l7 l7n x8 x9 l10 l10n res hl0 hl1 hm;cases hm
 |succ n ih=>
  intro l7 l7n x8 x9 l10 l10n res hl0 hl1 hm;subst hl0;subst hl1;refine qR (q_sq ?_);refine s_va 4 [(24,vb (decide (x8<(a1.Rings.length:Int))))] (q_cq hm (λhm=>?_) (λhm=>?_))
  ·refine q_sk (q_sq ?_);refine q_bk 1 ?_;obtain⟨g12,hm⟩:=qI hm;obtain⟨v13,h14,hm⟩:=qC hm;refine s_vu [qi 3 g12,qc 7 [32,33,34] 4 (qOY (a1.Rings.getD x8.toNat dd) a2 a3 v13 h14)] 4 [24] [(12,vp 5 0),(13,vb v13.2)] [] [(4,ro 0 53 2 v13.1.Rows.length (rf qE v13.1.Rows)),(5,bx 78 [ci v13.1.Low,.own 4 0 2 v13.1.Rows.length])] (q_sq ?_);refine s_vv [] 6 [13] [(39,vb (!v13.2))] (q_cq hm (λhm=>?_) (λhm=>?_))
   ·refine s_vn [] 6 ⟨[(6,vc (.emp)),(7,vi 30)],[]⟩ (q_fo 6 6 80 3 qO ?_);refine q_fl 6 6 80 3 qO ?_;obtain rfl:=oi hm;refine q_sw 6 0 (q_rt ?_);exact zJ (([]:List qM),30) q_rm
   ·refine q_sk (q_jn (ι:=(List qM)×Nat) (λp=>qFr a1 a2 a3 x8 x9 l10 v13 p.1 p.2) (λp=>p.1.length=p.2/\MT x8 (wR a1 a2 a3 n) v13 p.1=some res) ?_ ?_)
    ·rintro⟨l23,l23n⟩ ⟨el23,hm⟩;replace el23:l23.length=l23n:=el23;subst el23;show H _ (qFr a1 a2 a3 x8 x9 l10 v13 l23 l23.length) _ _;refine q_vu [] 9 [12] [] [1,3,5] [(1,bx 78 [ci v13.1.Low,.own 4 0 2 v13.1.Rows.length])] (q_wu [] [.swp 4 3] o0 9 [11] [(11,vi (w64 (x8+1)))] [1,4] [(1,bx 78 [ci v13.1.Low,.own 3 0 2 v13.1.Rows.length]),(3,ro 0 53 2 v13.1.Rows.length (rf qE v13.1.Rows))] ?_);exact q_hl (IL a1 a2 a3 l23 l23.length (w64 (x8+1)) v13.1.Low v13.1.Rows v13.1.Rows.length) (ih l23 l23.length (w64 (x8+1)) v13.1.Low v13.1.Rows v13.1.Rows.length _ rfl rfl hm)
    ·refine s_vv [] 6 [39] [(41,vb (decide (x8>0)))] (q_cq hm (λhm=>?_) (λhm=>?_))
     ·obtain⟨v17,h18,hm⟩:=qC hm
      refine s_vu [qd 2 (dex (cen [] [] 6 0 (qK8 v17) (qBh v17) [42,43] [3,4])) (zW (K:=(kx E 70 0)) (b:=false) ⟨[(42,va [ci x9,.own 3 0 2 l10.length]),(43,va [ci v13.1.Low,.own 4 0 2 v13.1.Rows.length])],[(3,ro 0 53 2 l10.length (rf qE l10)),(4,ro 0 53 2 v13.1.Rows.length (rf qE v13.1.Rows))]⟩ (opAt (rg f27 256308) 2) [] [] 6 (o1 (And.intro (kd l10.length) (kd v13.1.Rows.length))) rfl (qU1 (qG.mk x9 l10) (qG.mk v13.1.Low v13.1.Rows) v17 h18) (.inr ⟨(by kernel_rfl),qXW v17⟩) (by kernel_rfl))] 6 [41] [(14,vp 7 0)] [] [(6,ro 0 53 2 v17.Rows.length (rf qE v17.Rows)),(7,bx 78 [ci v17.Low,.own 6 0 2 v17.Rows.length])] (q_sq ?_)
      refine s_va 8 [(48,vb ((v17.Rows.length:Int)==0))] (q_cq hm (λhm=>?_) (λhm=>?_))
      ·refine s_vn [] 8 ⟨[(6,vc (.emp)),(7,vi 30)],[]⟩ (q_fo 6 8 80 3 qO ?_);refine q_fl 6 8 80 3 qO ?_;obtain rfl:=oi hm;refine q_sw 8 0 (q_rt ?_);exact zJ (([]:List qM),30) q_rm
      ·refine q_sk ?_;obtain⟨g21,hm⟩:=qI hm;obtain⟨g22,hm⟩:=qI hm
       refine q_xu [.frz 6] (o1 (kd v17.Rows.length)) [qi 4 g12,qi 11 g21,qd 17 (drw 8 0 (rf qO [(qM.mk (w64 (((a1.Rings.getD x8.toNat dd).Z)-((a1.Rings.getD (w64 (x8-1)).toNat dd).Z))) v17)])) (litP qO dd 3 (λ_=>rfl) ([(qM.mk (w64 (((a1.Rings.getD x8.toNat dd).Z)-((a1.Rings.getD (w64 (x8-1)).toNat dd).Z))) v17)]:List qM) 1 rfl),qd 18 (drw 2 1 (rf qO (l7++[(qM.mk (w64 (((a1.Rings.getD x8.toNat dd).Z)-((a1.Rings.getD (w64 (x8-1)).toNat dd).Z))) v17)]))) (apP qO dd l7 ([(qM.mk (w64 (((a1.Rings.getD x8.toNat dd).Z)-((a1.Rings.getD (w64 (x8-1)).toNat dd).Z))) v17)]:List qM) l7.length 1 3 40 (1<=1) (kd _) rfl rfl (λ_=>rfl) (zN g22))] [] o0 [0,0,2,0,14,30,62,0,128,0,512,1920,3968,8064,16382,0,65534,131070,262143,524287] 8 [9,14,48] [(9,vo 2 1 3 (l7.length+1))] [2,6,7] [(2,ro 1 80 3 (l7.length+1) (rf qO (l7++[(qM.mk (w64 (((a1.Rings.getD x8.toNat dd).Z)-((a1.Rings.getD (w64 (x8-1)).toNat dd).Z))) v17)])))] ?_
       exact q_J ((l7++[(qM.mk (w64 (((a1.Rings.getD x8.toNat dd).Z)-((a1.Rings.getD (w64 (x8-1)).toNat dd).Z))) v17)]),(l7.length+1)) ⟨(zH rfl rfl),hm⟩
     ·exact q_sk (q_J (l7,l7.length) ⟨rfl,hm⟩)
  ·refine q_ex 0 ?_;obtain rfl:=oi hm;exact q_l1 l7
theorem qTx (a1:Scan) (a2:Int) (a3:Int) (r:(List qM)×Int) (hm:EN a1 a2 a3=some r):CtX Tryz.prog globs 27 0 0 [.agg (zS a1),.one (ci a2),.one (ci a3)] [] (qDX r) (qDQ r):=by
 unfold EN at hm;refine q_E f27 70 λE=>?_;refine s_vn [] 0 ⟨[(1,vi a2),(2,vi a3),(3,vp 0 0)],[(0,bx 25 (zS a1))]⟩ (q_sq ?_);obtain⟨v4,h5,hm⟩:=qC hm;refine s_vv [qc 1 [15] 1 (qIB a1 v4 h5)] 1 [] [(8,vi v4)] (s_va 1 [(18,vb (v4 !=0))] ?_);refine q_cq hm (λhm=>?_) (λhm=>?_)
 ·refine s_vn [] 1 ⟨[(6,vc (.emp)),(7,vi v4)],[]⟩ (q_fo 6 1 80 3 qO ?_);refine q_fl 6 1 80 3 qO ?_;obtain rfl:=oi hm;exact q_sw 1 0 (q_rt q_rm)
 ·refine q_sk (s_vv [] 1 [8,18] [(9,vc (.emp))] ?_);refine s_vu [] 1 [] [(10,vp 1 0)] [] [(1,bx 78 [ci 0,.emp])] (q_sq ?_);refine s_va 2 [(11,vi 0)] (q_fo 9 2 80 3 qO ?_);refine q_fu [.ownB 1 1 3 53 2 (rf qE [])] [] [] [1] [(1,bx 78 [ci 0,.own 3 0 2 0]),(3,ro 0 53 2 0 (rf qE []))] o0 ?_;obtain⟨u27,h26,hm⟩:=qC hm;refine zQ (nd f27 500) 0 (by kernel_rfl) FUEL qFs (λv st=>RetQ Tryz.prog f27 (qDX v) (qDQ v) .ret st) u27 (q_hl (IL a1 a2 a3 ([]:List qM) 0 0 0 ([]:List Span) 0) (qNu E a1 a2 a3 FUEL ([]:List qM) 0 0 0 ([]:List Span) 0 u27 rfl rfl h26)) ?_ ?_
  ·rintro v28 rfl st hr;obtain rfl:=oi hm;exact hr
  ·rintro o25 rfl;replace hm:_=some r:=hm;refine s_vv [] 4 [9] [(6,vo 2 0 3 o25.length),(7,vi 0)] ?_;obtain rfl:=oi hm;exact q_sw 2 0 (q_rt q_rm)
def qVc (r:(List qM)×(List qH)×Int):V:= .tup [.one (.own 0 0 3 r.1.length),.one (tl qJ dd r.2.1),.one (ci r.2.2)]
def qVK (r:(List qM)×(List qH)×Int):List (Nat×(Nat×O)):=[(0,ro 0 80 3 r.1.length (rf qO r.1))]
theorem qSj (a1:Scan) (a2:Int) (a3:Int) (a4:Int) (r:(List qM)×(List qH)×Int) (hm:EU a1 a2 a3 a4=some r):CtX Tryz.prog globs 11 0 0 [.agg (zS a1),.one (ci a2),.one (ci a3),.one (ci a4)] [] (qVc r) (qVK r):=by
 unfold EU at hm;refine q_E f11 30 λE=>?_;refine s_vn [] 0 ⟨[(1,vi a2),(2,vi a3),(3,vi a4),(4,vp 0 0)],[(0,bx 25 (zS a1))]⟩ ?_;obtain⟨v5,h6,hm⟩:=qC hm;refine s_vu [qc 2 [14,15] 1 (qVf a1 a2 v5 h6)] 1 [1,4] [(11,vp 1 0)] [0] [(1,bx 25 (zS v5))] ?_;obtain⟨v7,h8,hm⟩:=qC hm;refine s_vu [qc 3 [18,19,20] 2 (qTx v5 a3 a4 v7 h8)] 2 [2,3] [(12,vo 2 0 3 v7.1.length),(13,vi v7.2)] [] [(2,ro 0 80 3 v7.1.length (rf qO v7.1))] (q_sq ?_);refine s_va 3 [(25,vb (v7.2 !=0))] (q_cq hm (λhm=>?_) (λhm=>?_))
 ·refine s_vn [] 3 ⟨[(8,vc (.emp)),(9,vc (.emp)),(10,vi v7.2)],[]⟩ (q_fo 8 3 80 3 qO ?_);refine q_fo 9 4 87 7 qJ (q_fu [.len 4 (([]:List qH).length),.frz 4] [9] [(9,vc (tl qJ dd ([]:List qH)))] [4] [] (o1 (And.intro (And.intro (show 0=([]:List qH).length from rfl) (show 0=([]:List qH).length from rfl)) (kd (([]:List qH).length)))) ?_);refine q_fl 8 3 80 3 qO ?_;obtain rfl:=oi hm;exact q_sw 3 0 (q_rt q_rm)
 ·refine q_sk (s_du [] [0,0,2,1,15,31] 3 [11,12,13,25] [(8,vo 2 0 3 v7.1.length),(9,vc (tl qJ dd v5.Defects)),(10,vi 0)] [1] [] ?_);obtain rfl:=oi hm;exact q_sw 2 0 (q_rt q_rm)
def qFA (r:Bool):V:=vb r
def qF0 (r:Bool):List (Nat×(Nat×O)):=[]
def qAt (a1:List Span) (a2:List Span) (x4:Int):St:=
 ⟨[(0,vc (tl qE dd a1)),(1,vc (tl qE dd a2)),(5,vi x4)],[]⟩
def qGC :St:=
 ⟨[],[]⟩
theorem qOQ (E:Env 0) (a1:List Span) (a2:List Span):∀(n:Nat) (x4:Int) (res:Bool⊕Unit),YN a1 a2 n x4=some res->HL (kx E 26 0) (nd f51 116) (wC 0 (λo=>qGC) (λv st=>RetQ Tryz.prog f51 (qFA v) (qF0 v) .ret st) res) n (qAt a1 a2 x4):=by
 intro n
 induction n with
 |zero=>
  intro x4 res hm;cases hm
 |succ n ih=>
  intro x4 res hm;refine qR (q_sq ?_);refine s_va 0 [(14,vb (decide (x4<(a1.length:Int))))] (q_cq hm (λhm=>?_) (λhm=>?_))
  ·refine q_sk (q_sq ?_);refine q_bk 1 ?_;obtain⟨g6,hm⟩:=qI hm;obtain⟨g7,hm⟩:=qI hm;refine s_du [qi 2 g6,qi 6 g7] [0,0,3,7,0,0,48,112,255] 0 [14] [(25,vb (!((((a1.getD x4.toNat dd).A)==((a2.getD x4.toNat dd).A))&&((((a1.getD x4.toNat dd).B)==((a2.getD x4.toNat dd).B))&&true))))] [] [] (q_cq hm (λhm=>?_) (λhm=>?_))
   ·refine s_vn [] 0 ⟨[(4,vb false)],[]⟩ ?_;obtain rfl:=oi hm;refine q_rt (zJ false ?_);exact q_rm
   ·refine q_sk (q_vv [] 0 [5,25] [(5,vi (w64 (x4+1)))] ?_);exact q_hl (qAt a1 a2 (w64 (x4+1))) (ih (w64 (x4+1)) _ hm)
  ·refine q_ex 0 ?_;obtain rfl:=oi hm;exact q_l1 ()
theorem qUT (a1:List Span) (a2:List Span) (r:Bool) (hm:MZ a1 a2=some r):CtX Tryz.prog globs 51 0 0 [.one (tl qE dd a1),.one (tl qE dd a2)] [] (qFA r) (qF0 r):=by
 unfold MZ at hm;refine q_E f51 26 λE=>?_;refine s_vn [] 0 ⟨[(0,vc (tl qE dd a1)),(1,vc (tl qE dd a2))],[]⟩ (q_sq ?_);refine s_va 0 [(10,vb ((a1.length:Int) !=(a2.length:Int)))] (q_cq hm (λhm=>?_) (λhm=>?_))
 ·refine s_vn [] 0 ⟨[(4,vb false)],[]⟩ ?_;obtain rfl:=oi hm;exact q_rt q_rm
 ·refine q_sk (q_sq ?_);refine s_vv [] 0 [10] [(5,vi 0)] ?_;obtain⟨u11,h10,hm⟩:=qC hm;refine zQ (nd f51 116) 0 (by kernel_rfl) FUEL (λo=>qGC) (λv st=>RetQ Tryz.prog f51 (qFA v) (qF0 v) .ret st) u11 (q_hl (qAt a1 a2 0) (qOQ E a1 a2 FUEL 0 u11 h10)) ?_ ?_
  ·rintro v12 rfl st hr;obtain rfl:=oi hm;exact hr
  ·rintro o9 rfl;replace hm:_=some r:=hm;refine s_vn [] 0 ⟨[(4,vb true)],[]⟩ ?_;obtain rfl:=oi hm;exact q_rt q_rm
open Go.Proofs Go.Proofs.Tryz
def qF6 (r:Bool):V:=vb r
def qFG (r:Bool):List (Nat×(Nat×O)):=[]
def qBw (a1:List qH) (a2:List qH) (x4:Int):St:=
 ⟨[(0,vc (tl qJ dd a1)),(1,vc (tl qJ dd a2)),(5,vi x4)],[]⟩
def qHh :St:=
 ⟨[],[]⟩
theorem qPe (E:Env 0) (a1:List qH) (a2:List qH):∀(n:Nat) (x4:Int) (res:Bool⊕Unit),YT a1 a2 n x4=some res->HL (kx E 26 0) (nd f13 116) (wC 0 (λo=>qHh) (λv st=>RetQ Tryz.prog f13 (qF6 v) (qFG v) .ret st) res) n (qBw a1 a2 x4):=by
 intro n
 induction n with
 |zero=>
  intro x4 res hm;cases hm
 |succ n ih=>
  intro x4 res hm;refine qR (q_sq ?_);refine s_va 0 [(14,vb (decide (x4<(a1.length:Int))))] (q_cq hm (λhm=>?_) (λhm=>?_))
  ·refine q_sk (q_sq ?_);refine q_bk 1 ?_;obtain⟨g6,hm⟩:=qI hm;obtain⟨g7,hm⟩:=qI hm
   refine s_du [qi 2 g6,qi 6 g7] [0,0,3,7,0,0,48,112,255] 0 [14] [(25,vb (!((((a1.getD x4.toNat dd).Kind)==((a2.getD x4.toNat dd).Kind))&&((((((((a1.getD x4.toNat dd).Box).X).A)==((((a2.getD x4.toNat dd).Box).X).A))&&((((((a1.getD x4.toNat dd).Box).X).B)==((((a2.getD x4.toNat dd).Box).X).B))&&true))&&(((((((a1.getD x4.toNat dd).Box).Y).A)==((((a2.getD x4.toNat dd).Box).Y).A))&&((((((a1.getD x4.toNat dd).Box).Y).B)==((((a2.getD x4.toNat dd).Box).Y).B))&&true))&&(((((((a1.getD x4.toNat dd).Box).Z).A)==((((a2.getD x4.toNat dd).Box).Z).A))&&((((((a1.getD x4.toNat dd).Box).Z).B)==((((a2.getD x4.toNat dd).Box).Z).B))&&true))&&true)))&&true))))] [] [] (q_cq hm (λhm=>?_) (λhm=>?_))
   ·refine s_vn [] 0 ⟨[(4,vb false)],[]⟩ ?_;obtain rfl:=oi hm;refine q_rt (zJ false ?_);exact q_rm
   ·refine q_sk (q_vv [] 0 [5,25] [(5,vi (w64 (x4+1)))] ?_);exact q_hl (qBw a1 a2 (w64 (x4+1))) (ih (w64 (x4+1)) _ hm)
  ·refine q_ex 0 ?_;obtain rfl:=oi hm;exact q_l1 ()
theorem DA (a1:List qH) (a2:List qH) (r:Bool) (hm:VP a1 a2=some r):CtX Tryz.prog globs 13 0 0 [.one (tl qJ dd a1),.one (tl qJ dd a2)] [] (qF6 r) (qFG r):=by
 unfold VP at hm;refine q_E f13 26 λE=>?_;refine s_vn [] 0 ⟨[(0,vc (tl qJ dd a1)),(1,vc (tl qJ dd a2))],[]⟩ (q_sq ?_);refine s_va 0 [(10,vb ((a1.length:Int) !=(a2.length:Int)))] (q_cq hm (λhm=>?_) (λhm=>?_))
 ·refine s_vn [] 0 ⟨[(4,vb false)],[]⟩ ?_;obtain rfl:=oi hm;exact q_rt q_rm
 ·refine q_sk (q_sq ?_);refine s_vv [] 0 [10] [(5,vi 0)] ?_;obtain⟨u11,h10,hm⟩:=qC hm;refine zQ (nd f13 116) 0 (by kernel_rfl) FUEL (λo=>qHh) (λv st=>RetQ Tryz.prog f13 (qF6 v) (qFG v) .ret st) u11 (q_hl (qBw a1 a2 0) (qPe E a1 a2 FUEL 0 u11 h10)) ?_ ?_
  ·rintro v12 rfl st hr;obtain rfl:=oi hm;exact hr
  ·rintro o9 rfl;replace hm:_=some r:=hm;refine s_vn [] 0 ⟨[(4,vb true)],[]⟩ ?_;obtain rfl:=oi hm;exact q_rt q_rm
def WG (r:Bool):V:=vb r
def jX (r:Bool):List (Nat×(Nat×O)):=[]
theorem qNC (r:Bool):wQ (jX r):=by
 intro i k o h;unfold jX at h;cases h
def QV (a1:List zA) (a2:List zA) (x4:Int):St:=
 ⟨[(0,vc (tl ZZ dd a1)),(1,vc (tl ZZ dd a2)),(5,vi x4)],[]⟩
def qJ5 (a1:List zA) (a2:List zA) (x4:Int) (x13:Int) (x23:Bool):St:=
 (QV a1 a2 x4).up [] [(6,vi x13),(96,vb x23)] [] []
def GN (a1:List zA) (a2:List zA) (x4:Int) (x13:Int):St:=
 (QV a1 a2 x4).up [] [(6,vi x13)] [] []
def qAD (a1:List zA) (a2:List zA) (x4:Int):St:=
 (QV a1 a2 x4).up [] [] [] []
def qJS (a1:List zA) (a2:List zA) (x4:Int) (x11:Bool):St:=
 (QV a1 a2 x4).up [] [(46,vb x11)] [] []
def GM (a1:List zA) (a2:List zA) (x4:Int):St:=
 (QV a1 a2 x4).up [] [] [] []
def qAZ :St:=
 ⟨[],[]⟩
theorem qIx (E:Env 0) (a1:List zA) (a2:List zA) (x4:Int):∀(n:Nat) (x13:Int) (res:Bool⊕Unit),wL a1 a2 x4 n x13=some res->HL (kx E 97 0) (nd f28 14924) (wC 2 (λo=>qAD a1 a2 x4) (λv st=>RetQ Tryz.prog f28 (WG v) (jX v) .ret st) res) n (GN a1 a2 x4 x13):=by
 intro n
 induction n with
 |zero=>
  intro x13 res hm;cases hm
 |succ n ih=>
  intro x13 res hm;refine qR (q_sq ?_);obtain⟨g14,hm⟩:=qI hm;refine s_vv [qi 3 g14] 0 [] [(54,vb (decide (x13<((((a1.getD x4.toNat dd).Solid).length:Nat):Int))))] (q_cq hm (λhm=>?_) (λhm=>?_))
  ·refine q_sk (q_sq ?_);refine q_bk 3 ?_;obtain⟨g16,hm⟩:=qI hm;obtain⟨g17,hm⟩:=qI hm;obtain⟨g18,hm⟩:=qI hm;refine s_du [qi 2 g14,qi 6 g16,qi 10 g17,qi 14 g18] [0,0,3,7,15,0,63,127,0,0,768,1792,3840,0,16128,32512,0,0,196863,524287] 0 [54] [(7,vp 0 0),(8,vp 1 0)] [] [(0,bx 80 (qO (((a1.getD x4.toNat dd).Solid).getD x13.toNat dd))),(1,bx 80 (qO (((a2.getD x4.toNat dd).Solid).getD x13.toNat dd)))] (q_jn (qJ5 a1 a2 x4 x13) (λp=>JO x13 (wL a1 a2 x4 n) p=some res) ?_ ?_)
   ·rintro x23 hm;refine q_cq hm (λhm=>?_) (λhm=>?_)
    ·refine s_vn [] 2 ⟨[(4,vb false)],[]⟩ ?_;obtain rfl:=oi hm;refine q_rt (zJ false ?_);exact q_rm
    ·refine q_sk (q_vv [] 2 [6,96] [(6,vi (w64 (x13+1)))] ?_);exact q_hl (GN a1 a2 x4 (w64 (x13+1))) (ih (w64 (x13+1)) _ hm)
   ·rcases bif_c hm with⟨b19,hm⟩|⟨b19,hm⟩
    ·exact q_vu [qf 5 b19] 2 [7,8] [(96,vb true)] [0,1] [] (q_J (true) hm)
    ·rcases bif_c hm with⟨b20,hm⟩|⟨b20,hm⟩
     ·exact q_vu [qf 5 b19,qf 14 b20] 2 [7,8] [(96,vb true)] [0,1] [] (q_J (true) hm)
     ·obtain⟨v21,h22,hm⟩:=qC hm;exact q_vu [qf 5 b19,qf 14 b20,qk 21 [87,90,93] 2 ⟨[(87,vb false),(90,vc (tl qE dd (((((a1.getD x4.toNat dd).Solid).getD x13.toNat dd).Sec).Rows))),(93,vc (tl qE dd (((((a2.getD x4.toNat dd).Solid).getD x13.toNat dd).Sec).Rows)))],[]⟩ (qUT (((((a1.getD x4.toNat dd).Solid).getD x13.toNat dd).Sec).Rows) (((((a2.getD x4.toNat dd).Solid).getD x13.toNat dd).Sec).Rows) v21 h22)] 2 [7,8] [(96,vb (!v21))] [0,1] [] (q_J (!v21) hm)
  ·refine q_ex 2 ?_;obtain rfl:=oi hm;exact q_l1 ()
theorem qIh (E:Env 0) (a1:List zA) (a2:List zA):∀(n:Nat) (x4:Int) (res:Bool⊕Unit),jH a1 a2 n x4=some res->HL (kx E 97 0) (nd f28 116) (wC 0 (λo=>qAZ) (λv st=>RetQ Tryz.prog f28 (WG v) (jX v) .ret st) res) n (GM a1 a2 x4):=by
 intro n
 induction n with
 |zero=>
  intro x4 res hm;cases hm
 |succ n ih=>
  intro x4 res hm;refine qR (q_sq ?_);refine s_va 0 [(17,vb (decide (x4<(a1.length:Int))))] (q_cq hm (λhm=>?_) (λhm=>?_))
  ·refine q_sk (q_sq ?_);refine q_bk 1 (q_sq ?_);refine q_jn (qJS a1 a2 x4) (λp=>ZI a1 a2 x4 (jH a1 a2 n) p=some res) ?_ ?_
   ·rintro x11 hm;refine q_cq hm (λhm=>?_) (λhm=>?_)
    ·refine s_vn [] 0 ⟨[(4,vb false)],[]⟩ ?_;obtain rfl:=oi hm;refine q_rt (zJ false ?_);exact q_rm
    ·refine q_sk (s_vv [] 0 [46] [(6,vi 0)] ?_);obtain⟨u27,h26,hm⟩:=qC hm;refine zQ (nd f28 14924) 2 (by kernel_rfl) FUEL (λo=>qAD a1 a2 x4) (λv st=>RetQ Tryz.prog f28 (WG v) (jX v) .ret st) u27 (q_hl (GN a1 a2 x4 0) (qIx E a1 a2 x4 FUEL 0 u27 h26)) ?_ ?_
     ·rintro v28 rfl st hr;obtain rfl:=oi hm;exact zJ v28 hr
     ·rintro o25 rfl;replace hm:_=some res:=hm;exact q_vv [] 0 [5] [(5,vi (w64 (x4+1)))] (q_hl (GM a1 a2 (w64 (x4+1))) (ih (w64 (x4+1)) _ hm))
   ·obtain⟨g6,hm⟩:=qI hm;obtain⟨g7,hm⟩:=qI hm;obtain⟨v8,h9,hm⟩:=qC hm;rcases bif_c hm with⟨b10,hm⟩|⟨b10,hm⟩
    ·exact q_du [qi 2 g6,qi 7 g7,qc 10 [24,29] 0 (DA ((a1.getD x4.toNat dd).Defects) ((a2.getD x4.toNat dd).Defects) v8 h9),qf 12 b10] [0,0,3,7,15,0,0,96,224,480,1023,2047,4095,8191,8191,32767,65535,131071,262143,8191,8191,1581055,3678207,7872511,16261119,33554431,67108863] 0 [17] [(46,vb true)] [] [] (q_J (true) hm)
    ·exact q_du [qi 2 g6,qi 7 g7,qc 10 [24,29] 0 (DA ((a1.getD x4.toNat dd).Defects) ((a2.getD x4.toNat dd).Defects) v8 h9),qf 12 b10,qi 15 g6,qi 21 g7] [0,0,3,7,15,0,0,96,224,480,1023,2047,4095,8191,8191,32767,65535,131071,262143,8191,8191,1581055,3678207,7872511,16261119,33554431,67108863] 0 [17] [(46,vb (((((a1.getD x4.toNat dd).Solid).length:Nat):Int) !=((((a2.getD x4.toNat dd).Solid).length:Nat):Int)))] [] [] (q_J (((((a1.getD x4.toNat dd).Solid).length:Nat):Int) !=((((a2.getD x4.toNat dd).Solid).length:Nat):Int)) hm)
  ·refine q_ex 0 ?_;obtain rfl:=oi hm;exact q_l1 ()
theorem qLV (a1:List zA) (a2:List zA) (r:Bool) (hm:NA a1 a2=some r):CtX Tryz.prog globs 28 0 0 [.one (tl ZZ dd a1),.one (tl ZZ dd a2)] [] (WG r) (jX r):=by
 unfold NA at hm;refine q_E f28 97 λE=>?_;refine s_vn [] 0 ⟨[(0,vc (tl ZZ dd a1)),(1,vc (tl ZZ dd a2))],[]⟩ (q_sq ?_);refine s_va 0 [(13,vb ((a1.length:Int) !=(a2.length:Int)))] (q_cq hm (λhm=>?_) (λhm=>?_))
 ·refine s_vn [] 0 ⟨[(4,vb false)],[]⟩ ?_;obtain rfl:=oi hm;exact q_rt q_rm
 ·refine q_sk (q_sq ?_);refine s_vv [] 0 [13] [(5,vi 0)] ?_;obtain⟨u31,h30,hm⟩:=qC hm;refine zQ (nd f28 116) 0 (by kernel_rfl) FUEL (λo=>qAZ) (λv st=>RetQ Tryz.prog f28 (WG v) (jX v) .ret st) u31 (q_hl (GM a1 a2 0) (qIh E a1 a2 FUEL 0 u31 h30)) ?_ ?_
  ·rintro v32 rfl st hr;obtain rfl:=oi hm;exact hr
  ·rintro o29 rfl;replace hm:_=some r:=hm;refine s_vn [] 0 ⟨[(4,vb true)],[]⟩ ?_;obtain rfl:=oi hm;exact q_rt q_rm
end Saw
end Go.SL

import Derived.Test.YtigmogcdifllhaaGreatDoorEBase
import Derived.Test.YtigmogcdifllhaaGreatDoorEFa1
set_option linter.unusedVariables false
set_option linter.unusedSimpArgs false
namespace Go.SL
namespace Saw
open Go.Proofs Go.Proofs.Tryz
set_option maxHeartbeats 4000000
set_option maxRecDepth 100000
def qIv (r:List Ring):V:=vo 0 0 2 r.length
def qIY (r:List Ring):List (Nat×(Nat×O)):=[(0,ro 0 71 2 r.length (rf qX r))]
theorem qH5 (a1:List Ring) (r:List Ring) (hm:HH a1=some r):CtX Tryz.prog globs 77 0 0 [.one (tl qX dd a1)] [] (qIv r) (qIY r):=by
 unfold HH at hm;obtain⟨g1,hm⟩:=qJ hm;obtain rfl:=kC hm;refine qBC (fn:=f77) (c:=nd f77 1) (nt:=8) (by kernel_rfl) (by kernel_rfl) (by kernel_rfl) (by kernel_rfl) λE=>?_;refine R_sq f77 2 3 (by kernel_rfl) (R_rn f77 2 0 [] [] 0 ⟨[(0,vc (tl qX dd a1))],[]⟩ o0 (by kernel_rfl) (by kernel_rfl) ?_);refine R_sq f77 6 7 (by kernel_rfl) (R_sq f77 12 13 (by kernel_rfl) ?_);refine qPy f77 12 1 1 ⟨[(0,vc (tl qX dd a1)),(3,vc (tl qX dd a1))],[]⟩ 22 22 71 4 (.tmp 3) a1.length (rf qX a1) (by kernel_rfl) (by kernel_rfl) (by kernel_rfl) (λb hb=>?_)
 refine R_cn f77 (.tmp 4) 26 27 (by kernel_rfl) b (by kernel_rfl) (λb6=>?_) (λb6=>?_)
 ·obtain rfl:a1=[]:=ue (hb b6);refine R_sq f77 52 53 (by kernel_rfl) (R_rn f77 52 2 [] [.own 2 0 71 2 (rf qX [])] 0 ⟨[(2,vo 0 0 2 0)],[(0,ro 0 71 2 0 (rf qX []))]⟩ o0 (by kernel_rfl) (by kernel_rfl) ?_);exact qAp (by kernel_rfl) (HI (by kernel_rfl) (by kernel_rfl))
 ·refine qHJ (by kernel_rfl) (R_sq f77 14 15 (by kernel_rfl) ?_);refine R_rn f77 14 3 [(0,drw 0 0 (rf qX [])),(2,drw 0 1 (rf qX ([]++a1)))] [.len 0 a1.length] 0 ⟨[(2,vo 0 1 2 a1.length)],[(0,ro 1 71 2 a1.length (rf qX ([]++a1)))]⟩ (o1 (And.intro (And.intro (litP qX dd 2 (λ_=>rfl) ([]:List Ring) 0 rfl) (apP qX dd ([]:List Ring) a1 0 a1.length 2 32 True trivial rfl rfl (λ_=>rfl) (by have:=wA g1;rw[kz];exact this))) (And.intro (And.intro (kz a1.length) (kz a1.length)) (kz a1.length)))) (by kernel_rfl) (by kernel_rfl) (qAp (by kernel_rfl) ?_);exact HI (by kernel_rfl) (by kernel_rfl)
def qG4 (r:List qG):V:=vo 0 0 7 r.length
def qHd (r:List qG):List (Nat×(Nat×O)):=[(0,ro 0 87 7 r.length (rf qM r))]
theorem SZ (a1:List qG) (r:List qG) (hm:QX a1=some r):CtX Tryz.prog globs 25 0 0 [.one (tl qM dd a1)] [] (qG4 r) (qHd r):=by
 unfold QX at hm;obtain⟨g1,hm⟩:=qJ hm;obtain rfl:=kC hm;refine qBC (fn:=f25) (c:=nd f25 1) (nt:=8) (by kernel_rfl) (by kernel_rfl) (by kernel_rfl) (by kernel_rfl) λE=>?_;refine R_sq f25 2 3 (by kernel_rfl) (R_rn f25 2 0 [] [] 0 ⟨[(0,vc (tl qM dd a1))],[]⟩ o0 (by kernel_rfl) (by kernel_rfl) ?_);refine R_sq f25 6 7 (by kernel_rfl) (R_sq f25 12 13 (by kernel_rfl) ?_);refine qPy f25 12 1 1 ⟨[(0,vc (tl qM dd a1)),(3,vc (tl qM dd a1))],[]⟩ 23 23 87 4 (.tmp 3) a1.length (rf qM a1) (by kernel_rfl) (by kernel_rfl) (by kernel_rfl) (λb hb=>?_)
 refine R_cn f25 (.tmp 4) 26 27 (by kernel_rfl) b (by kernel_rfl) (λb6=>?_) (λb6=>?_)
 ·obtain rfl:a1=[]:=ue (hb b6);refine R_sq f25 52 53 (by kernel_rfl) (R_rn f25 52 2 [] [.own 2 0 87 7 (rf qM [])] 0 ⟨[(2,vo 0 0 7 0)],[(0,ro 0 87 7 0 (rf qM []))]⟩ o0 (by kernel_rfl) (by kernel_rfl) ?_);exact qAp (by kernel_rfl) (HI (by kernel_rfl) (by kernel_rfl))
 ·refine qHJ (by kernel_rfl) (R_sq f25 14 15 (by kernel_rfl) ?_);refine R_rn f25 14 3 [(0,drw 0 0 (rf qM [])),(2,drw 0 1 (rf qM ([]++a1)))] [.len 0 a1.length] 0 ⟨[(2,vo 0 1 7 a1.length)],[(0,ro 1 87 7 a1.length (rf qM ([]++a1)))]⟩ (o1 (And.intro (And.intro (litP qM dd 7 (λ_=>rfl) ([]:List qG) 0 rfl) (apP qM dd ([]:List qG) a1 0 a1.length 7 56 True trivial rfl rfl (λ_=>rfl) (by have:=wA g1;rw[kz];exact this))) (And.intro (And.intro (kz a1.length) (kz a1.length)) (kz a1.length)))) (by kernel_rfl) (by kernel_rfl) (qAp (by kernel_rfl) ?_);exact HI (by kernel_rfl) (by kernel_rfl)
def qTT (r:Scan):V:=va [.own 0 0 2 r.Rings.length,.own 1 0 7 r.Defects.length]
def qU0 (r:Scan):List (Nat×(Nat×O)):=[(0,ro 0 71 2 r.Rings.length (rf qX r.Rings)),(1,ro 0 87 7 r.Defects.length (rf qM r.Defects))]
def qAW (v2:List Ring) (v4:List qG) (x6:Int) (l7:List Ring) (l7n:Nat):St:=
 ⟨[(2,vp 1 0),(3,vp 4 0),(14,vi (v2.length:Int)),(15,vi x6)],[(1,bx 25 [.emp,.emp]),(2,ro 0 71 2 l7n (rf qX l7)),(3,ro 0 87 7 v4.length (rf qM v4)),(4,bx 25 [.own 2 0 2 l7n,.own 3 0 7 v4.length])]⟩
def qGE (v4:List qG) (l15:List Ring):St:=
 ⟨[(2,vp 1 0),(3,vp 4 0)],[(1,bx 25 [.emp,.emp]),(2,ro 0 71 2 l15.length (rf qX l15)),(3,ro 0 87 7 v4.length (rf qM v4)),(4,bx 25 [.own 2 0 2 l15.length,.own 3 0 7 v4.length])]⟩
theorem qNc (E:Env 0) (v2:List Ring) (v4:List qG):∀(n:Nat) (x6:Int) (l7:List Ring) (l7n:Nat) (res:(List Ring)),l7.length=l7n->qDC v2 n x6 l7=some res->HL (kx E 32 0) (nd f38 116) (zL 0 (λo=>qGE v4 o) res) n (qAW v2 v4 x6 l7 l7n):=by
 intro n
 induction n with
 |zero=>
  intro x6 l7 l7n res hl0 hm;cases hm
 |succ n ih=>
  intro x6 l7 l7n res hl0 hm;subst hl0;refine qS (s_va 5 [(16,vb (decide (x6<(v2.length:Int))))] ?_);refine q_sq (q_cq hm (λhm=>?_) (λhm=>?_))
  ·refine q_sk (q_sq ?_);refine q_bk 1 (s_vv [] 5 [16] [(4,vi x6)] ?_);obtain⟨g12,hm⟩:=qJ hm;obtain⟨v13,h14,hm⟩:=qC hm
   refine q_du [qi 6 g12,qd 8 dN (qW (zC g12)),qc 9 [26] 5 (CtX.frz (x':=vc (tl qV dd v13)) (ob':=[]) (LJ ((l7.getD x6.toNat dd).Read) v13 h14) 0 (o1 (ke v13.length)) (by kernel_rfl)),qi 10 g12,qd 12 (drw 0 0 (rf qX (l7.set x6.toNat (Ring.mk ((l7.getD x6.toNat dd).Z) v13)))) (stP qX dd (Ring.mk ((l7.getD x6.toNat dd).Z) v13) l7 l7.length x6.toNat 1 [tl qV dd v13] rfl (qW (zC g12)) rfl)] [0,1,0,0,8,0,56,120,248,504,1023,2047,4095] 5 [4] [] [2] [(2,ro 0 71 2 l7.length (rf qX (l7.set x6.toNat (Ring.mk ((l7.getD x6.toNat dd).Z) v13))))] (q_vv [] 5 [15] [(15,vi (w64 (x6+1)))] ?_)
   exact q_hl (qAW v2 v4 (w64 (x6+1)) (l7.set x6.toNat (Ring.mk ((l7.getD x6.toNat dd).Z) v13)) l7.length) (ih (w64 (x6+1)) (l7.set x6.toNat (Ring.mk ((l7.getD x6.toNat dd).Z) v13)) l7.length _ (QC rfl) hm)
  ·refine q_ex 0 ?_;obtain rfl:=oi hm;exact q_l0
theorem qTa (a1:Scan) (r:Scan) (hm:qI5 a1=some r):CtX Tryz.prog globs 38 0 0 [.agg (wE a1)] [] (qTT r) (qU0 r):=by
 unfold qI5 at hm;refine q_E f38 32 λE=>?_;refine s_vn [] 0 ⟨[(1,vp 0 0),(2,vp 1 0)],[(0,bx 25 (wE a1)),(1,bx 25 [.emp,.emp])]⟩ ?_;obtain⟨v2,h3,hm⟩:=qC hm;obtain⟨v4,h5,hm⟩:=qC hm;refine s_du [qc 2 [6] 2 (qH5 a1.Rings v2 h3),qc 5 [9] 3 (SZ a1.Defects v4 h5)] [0,1,3,0,8,31,63,0,255] 2 [1] [(3,vp 4 0)] [0] [(2,ro 0 71 2 v2.length (rf qX v2)),(3,ro 0 87 7 v4.length (rf qM v4)),(4,bx 25 [.own 2 0 2 v2.length,.own 3 0 7 v4.length])] (q_sq ?_);refine s_va 5 [(14,vi (v2.length:Int)),(15,vi 0)] ?_;obtain⟨o16,h17,hm⟩:=qC hm
 refine zG (nd f38 116) 0 (by kernel_rfl) FUEL (λo=>qGE v4 o) o16 (q_hl (qAW v2 v4 0 v2 v2.length) (qNc E v2 v4 FUEL 0 v2 v2.length o16 rfl h17)) (s_vu [] 5 [3] [] [1,4] [(1,bx 25 [.own 2 0 2 o16.length,.own 3 0 7 v4.length])] ?_);obtain rfl:=oi hm;refine q_sw 2 0 (q_sw 3 1 ?_);exact q_rt q_rm
open Go.Proofs Go.Proofs.Tryz
def qSv (r:(List qG)):V:=vo 0 0 7 r.length
def qSw (r:(List qG)):List (Nat×(Nat×O)):=[(0,ro 0 87 7 r.length (rf qM r))]
def MR (a1:List qG) (a2:Int) (l7:List qG) (x8:Int):St:=
 ⟨[(1,vi (Int.tmod (w64 ((Int.tmod a2 4)+4)) 4)),(5,vo 0 0 7 l7.length),(6,vi x8),(7,vp 1 0),(18,vc (tl qM dd a1)),(19,vi (a1.length:Int)),(20,vi x8)],[(0,ro 0 87 7 l7.length (rf qM l7))]⟩
def OG (a1:List qG) (a2:Int) (l7:List qG) (x8:Int) (x11:Int) (x12:Int) (x13:Int) (x14:Int) (x15:Int):St:=
 (MR a1 a2 l7 x8).up [] [(25,vi (Int.tmod (w64 ((Int.tmod a2 4)+4)) 4)),(26,vi x11)] [] [(1,bx 87 [ci ((a1.getD x8.toNat dd).Kind),ci x12,ci x13,ci x14,ci x15,ci ((((a1.getD x8.toNat dd).Box).Z).A),ci ((((a1.getD x8.toNat dd).Box).Z).B)])]
def qFy (a1:List qG) (a2:Int) (l7:List qG) (x8:Int) (x17:qG):St:=
 (MR a1 a2 l7 x8).up [] [] [] [(1,bx 87 (qM x17))]
def CE (a1:List qG) (a2:Int) (l7:List qG) (l7n:Nat) (x8:Int):St:=
 (MR a1 a2 l7 x8).up [5,6,7] [(5,vo 0 0 7 l7n)] [0] [(0,ro 0 87 7 l7n (rf qM l7))]
def qE8 (l21:List qG):St:=
 ⟨[(5,vo 0 0 7 l21.length)],[(0,ro 0 87 7 l21.length (rf qM l21))]⟩
theorem qLv (E:Env 0) (a1:List qG) (a2:Int) (l7:List qG) (x8:Int):∀(n:Nat) (x11:Int) (x12:Int) (x13:Int) (x14:Int) (x15:Int) (res:qG),QY a1 a2 x8 n x11 x12 x13 x14 x15=some res->HL (kx E 53 0) (nd f39 256404) (zL 2 (λo=>qFy a1 a2 l7 x8 o) res) n (OG a1 a2 l7 x8 x11 x12 x13 x14 x15):=by
 intro n
 induction n with
 |zero=>
  intro x11 x12 x13 x14 x15 res hm;cases hm
 |succ n ih=>
  intro x11 x12 x13 x14 x15 res hm;refine qS (s_va 2 [(27,vb (decide (x11<(Int.tmod (w64 ((Int.tmod a2 4)+4)) 4))))] ?_);refine q_sq (q_cq hm (λhm=>?_) (λhm=>?_))
  ·refine q_sk (q_sq ?_);refine q_bk 3 (q_vu [] 2 [27] [] [1] [(1,bx 87 [ci ((a1.getD x8.toNat dd).Kind),ci (w64 (0-x15)),ci (w64 (0-x14)),ci x12,ci x13,ci ((((a1.getD x8.toNat dd).Box).Z).A),ci ((((a1.getD x8.toNat dd).Box).Z).B)])] ?_);exact q_vv [] 2 [26] [(26,vi (w64 (x11+1)))] (q_hl (OG a1 a2 l7 x8 (w64 (x11+1)) (w64 (0-x15)) (w64 (0-x14)) x12 x13) (ih (w64 (x11+1)) (w64 (0-x15)) (w64 (0-x14)) x12 x13 _ hm))
  ·refine q_ex 2 ?_;obtain rfl:=oi hm;exact q_l0
theorem qL2 (E:Env 0) (a1:List qG) (a2:Int):∀(n:Nat) (l7:List qG) (l7n:Nat) (x8:Int) (res:(List qG)),l7.length=l7n->WB a1 a2 n l7 x8=some res->HL (kx E 53 0) (nd f39 500) (zL 0 qE8 res) n (CE a1 a2 l7 l7n x8):=by
 intro n
 induction n with
 |zero=>
  intro l7 l7n x8 res hl0 hm;cases hm
 |succ n ih=>
  intro l7 l7n x8 res hl0 hm;subst hl0;refine qS (s_va 1 [(21,vb (decide (x8<(a1.length:Int))))] ?_);refine q_sq (q_cq hm (λhm=>?_) (λhm=>?_))
  ·refine q_sk (q_sq ?_);refine q_bk 1 ?_;obtain⟨g10,hm⟩:=qJ hm;refine s_vu [qi 1 g10] 1 [21] [(6,vi x8),(7,vp 1 0)] [] [(1,bx 87 (qM (a1.getD x8.toNat dd)))] (q_sq ?_);refine s_va 2 [(25,vi (Int.tmod (w64 ((Int.tmod a2 4)+4)) 4)),(26,vi 0)] ?_;obtain⟨o18,h19,hm⟩:=qC hm
   refine zG (nd f39 256404) 2 (by kernel_rfl) FUEL (λo=>qFy a1 a2 l7 x8 o) o18 (q_hl (OG a1 a2 l7 x8 0 ((((a1.getD x8.toNat dd).Box).X).A) ((((a1.getD x8.toNat dd).Box).X).B) ((((a1.getD x8.toNat dd).Box).Y).A) ((((a1.getD x8.toNat dd).Box).Y).B)) (qLv E a1 a2 l7 x8 FUEL 0 ((((a1.getD x8.toNat dd).Box).X).A) ((((a1.getD x8.toNat dd).Box).X).B) ((((a1.getD x8.toNat dd).Box).Y).A) ((((a1.getD x8.toNat dd).Box).Y).B) o18 h19)) ?_;obtain⟨g20,hm⟩:=qJ hm
   refine q_vu [qi 3 g20,qd 4 (drw 0 0 (rf qM (l7.set x8.toNat o18))) (stP qM dd o18 l7 l7.length x8.toNat 0 (qM o18) rfl (qW (zC g20)) rfl)] 2 [6,7] [] [0,1] [(0,ro 0 87 7 l7.length (rf qM (l7.set x8.toNat o18)))] (q_vv [] 2 [20] [(20,vi (w64 (x8+1)))] ?_);exact q_hl (CE a1 a2 (l7.set x8.toNat o18) l7.length (w64 (x8+1))) (ih (l7.set x8.toNat o18) l7.length (w64 (x8+1)) _ (QC rfl) hm)
  ·refine q_ex 0 ?_;obtain rfl:=oi hm;exact q_l0
theorem qRy (a1:List qG) (a2:Int) (r:(List qG)) (hm:AB a1 a2=some r):CtX Tryz.prog globs 39 0 0 [.one (tl qM dd a1),.one (ci a2)] [] (qSv r) (qSw r):=by
 unfold AB at hm;refine q_E f39 53 λE=>?_;refine s_vn [] 0 ⟨[(0,vc (tl qM dd a1)),(1,vi a2)],[]⟩ (q_sq ?_);obtain⟨v3,h4,hm⟩:=qC hm;refine s_vv [qc 1 [8] 0 (WY a1 v3 h4)] 0 [] [(10,vb (v3 !=0))] (q_cq hm (λhm=>?_) (λhm=>?_))
 ·refine s_vn [] 0 ⟨[(4,vc (.emp))],[]⟩ (q_fn [.own 4 0 87 7 (rf qM [])] ⟨[(4,vo 0 0 7 0)],[(0,ro 0 87 7 0 (rf qM []))]⟩ o0 ?_);refine q_fn [.len 0 (([]:List qG).length)] ⟨[(4,vo 0 0 7 (([]:List qG).length))],[(0,ro 0 87 7 (([]:List qG).length) (rf qM []))]⟩ (o1 (And.intro (show 0=([]:List qG).length from rfl) (show 0=([]:List qG).length from rfl))) ?_;obtain rfl:=oi hm;exact q_rt q_rm
 ·refine q_sk (s_vv [qd 1 dN (show(4:Int)≠0 by decide),qd 3 dN (show(4:Int)≠0 by decide)] 0 [1,10] [(1,vi (Int.tmod (w64 ((Int.tmod a2 4)+4)) 4))] ?_);obtain⟨g6,hm⟩:=qJ hm
  refine s_vu [qd 2 (drw 0 0 (rf qM (List.replicate ((a1.length:Int).toNat) (qG.mk 0 (Box.mk (Span.mk 0 0) (Span.mk 0 0) (Span.mk 0 0)))))) (mkP qM dd (qG.mk 0 (Box.mk (Span.mk 0 0) (Span.mk 0 0) (Span.mk 0 0))) (a1.length:Int) 56 [ci 0,ci 0,ci 0,ci 0,ci 0,ci 0,ci 0] (VQ g6) rfl)] 0 [] [(5,vo 0 0 7 ((a1.length:Int).toNat))] [] [(0,ro 0 87 7 ((a1.length:Int).toNat) (rf qM (List.replicate ((a1.length:Int).toNat) (qG.mk 0 (Box.mk (Span.mk 0 0) (Span.mk 0 0) (Span.mk 0 0))))))] (q_sq ?_);refine s_vv [] 1 [0] [(18,vc (tl qM dd a1)),(19,vi (a1.length:Int)),(20,vi 0)] ?_;obtain⟨o22,h23,hm⟩:=qC hm
  refine zG (nd f39 500) 0 (by kernel_rfl) FUEL qE8 o22 (q_hl (CE a1 a2 (List.replicate ((a1.length:Int).toNat) (qG.mk 0 (Box.mk (Span.mk 0 0) (Span.mk 0 0) (Span.mk 0 0)))) ((a1.length:Int).toNat) 0) (qL2 E a1 a2 FUEL (List.replicate ((a1.length:Int).toNat) (qG.mk 0 (Box.mk (Span.mk 0 0) (Span.mk 0 0) (Span.mk 0 0)))) ((a1.length:Int).toNat) 0 o22 GU h23)) (s_vv [] 1 [5] [(4,vo 0 0 7 o22.length)] ?_);obtain rfl:=oi hm;exact q_rt q_rm
def qVZ (r:Scan):V:=va [.own 0 0 2 r.Rings.length,.own 1 0 7 r.Defects.length]
def qWb (r:Scan):List (Nat×(Nat×O)):=[(0,ro 0 71 2 r.Rings.length (rf qX r.Rings)),(1,ro 0 87 7 r.Defects.length (rf qM r.Defects))]
def qBT (a1:Scan) (a2:Int) (v9:(List qG)) (x11:Int) (l12:List Ring) (l12n:Nat):St:=
 ⟨[(1,vi a2),(2,vp 0 0),(4,vp 1 0),(5,vp 4 0),(23,vi (a1.Rings.length:Int)),(24,vi x11)],[(0,bx 25 (wE a1)),(1,bx 25 [.emp,.emp]),(2,ro 0 71 2 l12n (rf qX l12)),(3,ro 0 87 7 v9.length (rf qM v9)),(4,bx 25 [.own 2 0 2 l12n,.own 3 0 7 v9.length])]⟩
def qH2 (v9:(List qG)) (l22:List Ring):St:=
 ⟨[(4,vp 1 0),(5,vp 4 0)],[(1,bx 25 [.emp,.emp]),(2,ro 0 71 2 l22.length (rf qX l22)),(3,ro 0 87 7 v9.length (rf qM v9)),(4,bx 25 [.own 2 0 2 l22.length,.own 3 0 7 v9.length])]⟩
theorem qPd (E:Env 0) (a1:Scan) (a2:Int) (v9:(List qG)):∀(n:Nat) (x11:Int) (l12:List Ring) (l12n:Nat) (res:(List Ring)),l12.length=l12n->XH a1 a2 n x11 l12=some res->HL (kx E 40 0) (nd f19 244) (zL 0 (λo=>qH2 v9 o) res) n (qBT a1 a2 v9 x11 l12 l12n):=by
 intro n
 induction n with
 |zero=>
  intro x11 l12 l12n res hl0 hm;cases hm
 |succ n ih=>
  intro x11 l12 l12n res hl0 hm;subst hl0;refine qS (s_va 5 [(25,vb (decide (x11<(a1.Rings.length:Int))))] ?_);refine q_sq (q_cq hm (λhm=>?_) (λhm=>?_))
  ·refine q_sk (q_sq ?_);refine q_bk 1 (s_vv [] 5 [25] [(6,vi x11)] ?_);obtain⟨g18,hm⟩:=qJ hm;obtain⟨v19,h20,hm⟩:=qC hm;obtain⟨g21,hm⟩:=qJ hm;refine q_du [qi 6 g18,qc 9 [34,35] 5 (CtX.frz (x':=va (qX v19)) (ob':=[]) (qVI (a1.Rings.getD x11.toNat dd) a2 v19 h20) 0 (o1 (ke v19.Read.length)) (by kernel_rfl)),qi 10 g21,qd 11 (drw 0 0 (rf qX (l12.set x11.toNat v19))) (stP qX dd v19 l12 l12.length x11.toNat 0 (qX v19) rfl (qW (zC g21)) rfl)] [0,1,0,0,8,0,56,120,0,504,1023,2047] 5 [6] [] [2] [(2,ro 0 71 2 l12.length (rf qX (l12.set x11.toNat v19)))] (q_vv [] 5 [24] [(24,vi (w64 (x11+1)))] ?_)
   exact q_hl (qBT a1 a2 v9 (w64 (x11+1)) (l12.set x11.toNat v19) l12.length) (ih (w64 (x11+1)) (l12.set x11.toNat v19) l12.length _ (QC rfl) hm)
  ·refine q_ex 0 ?_;obtain rfl:=oi hm;exact q_l0
theorem qKA (a1:Scan) (a2:Int) (r:Scan) (hm:ZI a1 a2=some r):CtX Tryz.prog globs 19 0 0 [.agg (wE a1),.one (ci a2)] [] (qVZ r) (qWb r):=by
 unfold ZI at hm;refine q_E f19 40 λE=>?_;refine s_vn [] 0 ⟨[(1,vi a2),(2,vp 0 0),(4,vp 1 0)],[(0,bx 25 (wE a1)),(1,bx 25 [.emp,.emp])]⟩ (q_sq ?_);obtain⟨v3,h4,hm⟩:=qC hm;refine s_vv [qc 1 [7] 2 (qJu a1 v3 h4)] 2 [] [(9,vb (v3 !=0))] (q_cq hm (λhm=>?_) (λhm=>?_))
 ·obtain⟨v6,h7,hm⟩:=qC hm;refine s_vn [qc 1 [10] 2 (qTa a1 v6 h7)] 2 ⟨[(4,vp 1 0)],[(1,bx 25 [.own 2 0 2 v6.Rings.length,.own 3 0 7 v6.Defects.length]),(2,ro 0 71 2 v6.Rings.length (rf qX v6.Rings)),(3,ro 0 87 7 v6.Defects.length (rf qM v6.Defects))]⟩ ?_;obtain rfl:=oi hm;refine q_sw 2 0 (q_sw 3 1 ?_);exact q_rt q_rm
 ·refine q_sk ?_;obtain⟨g8,hm⟩:=qJ hm;obtain⟨v9,h10,hm⟩:=qC hm
  refine s_du [qd 3 (drw 2 0 (rf qX (List.replicate ((a1.Rings.length:Int).toNat) (Ring.mk 0 ([]:List qO))))) (mkPe qX dd (Ring.mk 0 ([]:List qO)) (a1.Rings.length:Int) 32 [ci 0,.emp] (VQ g8) (.same _ (.emp _ .nil))),qc 7 [17,18] 3 (qRy a1.Defects a2 v9 h10)] [0,1,3,7,0,16,0,112,255,0,1023] 2 [9] [(5,vp 4 0)] [] [(2,ro 0 71 2 ((a1.Rings.length:Int).toNat) (rf qX (List.replicate ((a1.Rings.length:Int).toNat) (Ring.mk 0 ([]:List qO))))),(3,ro 0 87 7 v9.length (rf qM v9)),(4,bx 25 [.own 2 0 2 ((a1.Rings.length:Int).toNat),.own 3 0 7 v9.length])] (q_sq ?_)
  refine s_va 5 [(23,vi (a1.Rings.length:Int)),(24,vi 0)] ?_;obtain⟨o23,h24,hm⟩:=qC hm;refine zG (nd f19 244) 0 (by kernel_rfl) FUEL (λo=>qH2 v9 o) o23 (q_hl (qBT a1 a2 v9 0 (List.replicate ((a1.Rings.length:Int).toNat) (Ring.mk 0 ([]:List qO))) ((a1.Rings.length:Int).toNat)) (qPd E a1 a2 v9 FUEL 0 (List.replicate ((a1.Rings.length:Int).toNat) (Ring.mk 0 ([]:List qO))) ((a1.Rings.length:Int).toNat) o23 GU h24)) (s_vu [] 5 [5] [] [1,4] [(1,bx 25 [.own 2 0 2 o23.length,.own 3 0 7 v9.length])] ?_);obtain rfl:=oi hm;refine q_sw 2 0 (q_sw 3 1 ?_);exact q_rt q_rm
def qXT (r:Bool):V:=vb r
def qXx (r:Bool):List (Nat×(Nat×O)):=[]
def qSD (x5:Bool):St:=
 ⟨[(6,vb x5)],[]⟩
theorem qWk (a1:qA) (a2:qA) (a3:Int) (r:Bool) (hm:qE2 a1 a2 a3=some r):CtX Tryz.prog globs 150 0 0 [.agg (qF a1),.agg (qF a2),.one (ci a3)] [] (qXT r) (qXx r):=by
 unfold qE2 at hm;refine q_E f150 35 λE=>?_;refine s_vn [] 0 ⟨[(2,vi a3),(3,vp 0 0),(4,vp 1 0)],[(0,bx 93 (qF a1)),(1,bx 93 (qF a2))]⟩ (q_jn (qSD) (λp=>qCj p=some r) ?_ ?_)
 ·rintro x5 hm;obtain rfl:=oi hm;exact q_rt q_rm
 ·rcases bif_c hm with⟨b4,hm⟩|⟨b4,hm⟩
  ·exact q_vn [qf 13 b4] 2 ⟨[(6,vb true)],[]⟩ (q_J (true) hm)
  ·exact q_vn [qf 13 b4] 2 ⟨[(6,vb (decide ((imax (w64 (a1.Y-a2.Y)) (w64 (a2.Y-a1.Y)))>a3)))],[]⟩ (q_J (decide ((imax (w64 (a1.Y-a2.Y)) (w64 (a2.Y-a1.Y)))>a3)) hm)
open Go.Proofs Go.Proofs.Tryz
def qOL (r:(List Int)):V:=vo 0 0 1 r.length
def qOv (r:(List Int)):List (Nat×(Nat×O)):=[(0,ro 0 3 1 r.length (rf qD r))]
def qC2 (a1:Ring) (x3:Int) (l8:List Int) (l8n:Nat):St:=
 ⟨[(3,vo 1 0 1 l8n),(7,vc (tl qV dd a1.Read)),(8,vi (a1.Read.length:Int)),(9,vi x3)],[(1,ro 0 3 1 l8n (rf qD l8))]⟩
def MN (a1:Ring) (l2:List Int) (l2n:Nat) (x3:Int):St:=
 ⟨[(3,vo 1 0 1 l2n),(7,vc (tl qV dd a1.Read)),(8,vi (a1.Read.length:Int)),(9,vi x3)],[(1,ro 0 3 1 l2n (rf qD l2))]⟩
def qCT (l9:List Int):St:=
 ⟨[(3,vo 1 0 1 l9.length)],[(1,ro 0 3 1 l9.length (rf qD l9))]⟩
theorem qJK (E:Env 0) (a1:Ring):∀(n:Nat) (l2:List Int) (l2n:Nat) (x3:Int) (res:(List Int)),l2.length=l2n->QG a1 n l2 x3=some res->HL (kx E 22 0) (nd f146 116) (zL 0 qCT res) n (MN a1 l2 l2n x3):=by
 intro n
 induction n with
 |zero=>
  intro l2 l2n x3 res hl0 hm;cases hm
 |succ n ih=>
  intro l2 l2n x3 res hl0 hm;subst hl0;refine qS (s_va 2 [(10,vb (decide (x3<(a1.Read.length:Int))))] ?_);refine q_sq (q_cq hm (λhm=>?_) (λhm=>?_))
  ·refine q_sk (q_jn (ι:=(List Int)×Nat) (λp=>qC2 a1 x3 p.1 p.2) (λp=>p.1.length=p.2/\DQ x3 (QG a1 n) p.1=some res) ?_ ?_)
   ·rintro⟨l8,l8n⟩ ⟨el8,hm⟩;replace el8:l8.length=l8n:=el8;subst el8;show H _ (qC2 a1 x3 l8 l8.length) _ _;exact q_vv [] 4 [9] [(9,vi (w64 (x3+1)))] (q_hl (MN a1 l8 l8.length (w64 (x3+1))) (ih l8 l8.length (w64 (x3+1)) _ rfl hm))
   ·refine q_bk 1 ?_;obtain⟨g5,hm⟩:=qJ hm;refine s_vu [qi 1 g5] 2 [10] [(4,vi x3),(5,vp 2 0)] [] [(2,bx 95 (qV (a1.Read.getD x3.toNat dd)))] (s_vu [] 3 [5] [(15,vb ((a1.Read.getD x3.toNat dd).Ok))] [2] [] ?_);refine q_cq hm (λhm=>?_) (λhm=>?_)
    ·obtain⟨g7,hm⟩:=qJ hm;exact q_vu [qd 2 (drw 3 0 (rf qD [x3])) (litP qD dd 1 (λ_=>rfl) ([x3]:List Int) 1 rfl),qd 3 (drw 1 1 (rf qD (l2++[x3]))) (apP qD dd l2 ([x3]:List Int) l2.length 1 1 8 (1<=1) (ke _) rfl rfl (λ_=>rfl) (wA g7))] 3 [3,4,15] [(3,vo 1 1 1 (l2.length+1))] [1] [(1,ro 1 3 1 (l2.length+1) (rf qD (l2++[x3])))] (q_J ((l2++[x3]),(l2.length+1)) ⟨(wB rfl rfl),hm⟩)
    ·exact q_sk (q_J (l2,l2.length) ⟨rfl,hm⟩)
  ·refine q_ex 0 ?_;obtain rfl:=oi hm;exact q_l0
theorem ON (a1:Ring) (r:(List Int)) (hm:KB a1=some r):CtX Tryz.prog globs 146 0 0 [.agg (qX a1)] [] (qOL r) (qOv r):=by
 unfold KB at hm;refine q_E f146 22 λE=>?_;refine s_vn [] 0 ⟨[(1,vp 0 0)],[(0,bx 71 (qX a1))]⟩ (s_va 1 [(3,vc (.emp))] ?_);refine q_sq (s_vu [] 1 [1] [(7,vc (tl qV dd a1.Read)),(8,vi (a1.Read.length:Int)),(9,vi 0)] [0] [] ?_);refine q_fo 3 1 3 1 qD ?_;obtain⟨o10,h11,hm⟩:=qC hm;refine zG (nd f146 116) 0 (by kernel_rfl) FUEL qCT o10 (q_hl (MN a1 ([]:List Int) 0 0) (qJK E a1 FUEL ([]:List Int) 0 0 o10 rfl h11)) (s_vv [] 2 [3] [(2,vo 1 0 1 o10.length)] ?_);obtain rfl:=oi hm;exact q_sw 1 0 (q_rt q_rm)
def qVr (r:Ring):V:=va [ci r.Z,.own 0 0 3 r.Read.length]
def qUq (r:Ring):List (Nat×(Nat×O)):=[(0,ro 0 95 3 r.Read.length (rf qV r.Read))]
def KP (a1:Ring) (a2:Int) (v5:(List Int)) (x13:Int):St:=
 ⟨[(1,vi a2),(2,vp 0 0),(4,vp 1 0),(5,vp 3 0),(6,vo 4 0 1 v5.length),(30,vo 4 0 1 v5.length),(31,vi (v5.length:Int)),(32,vi x13)],[(0,bx 71 (qX a1)),(1,bx 71 [ci 0,.emp]),(4,ro 0 3 1 v5.length (rf qD v5))]⟩
def qOD (a1:Ring) (a2:Int) (v3:Ring) (v5:(List Int)) (x13:Int) (l14:List qO) (x18:Int) (x28:Bool):St:=
 (KP a1 a2 v5 x13).up [] [(7,vi x13),(8,vi (v5.getD x13.toNat dd)),(9,vb x28),(37,va [ci (-1),ci 1]),(38,vi x18)] [] [(2,ro 0 95 3 l14.length (rf qV l14)),(3,bx 71 [ci v3.Z,.own 2 0 3 l14.length])]
def qAi (a1:Ring) (a2:Int) (v3:Ring) (v5:(List Int)) (x13:Int) (l14:List qO) (x17:Bool) (x18:Int):St:=
 (KP a1 a2 v5 x13).up [] [(7,vi x13),(8,vi (v5.getD x13.toNat dd)),(9,vb x17),(37,va [ci (-1),ci 1]),(38,vi x18)] [] [(2,ro 0 95 3 l14.length (rf qV l14)),(3,bx 71 [ci v3.Z,.own 2 0 3 l14.length])]
def qFK (a1:Ring) (a2:Int) (v3:Ring) (v5:(List Int)) (x13:Int) (l14:List qO) (x29:Bool):St:=
 (KP a1 a2 v5 x13).up [] [(8,vi (v5.getD x13.toNat dd)),(9,vb x29)] [] [(2,ro 0 95 3 l14.length (rf qV l14)),(3,bx 71 [ci v3.Z,.own 2 0 3 l14.length])]
def qF1 (a1:Ring) (a2:Int) (v3:Ring) (v5:(List Int)) (x13:Int) (l34:List qO) (l34n:Nat):St:=
 (KP a1 a2 v5 x13).up [] [] [] [(2,ro 0 95 3 l34n (rf qV l34)),(3,bx 71 [ci v3.Z,.own 2 0 3 l34n])]
def qAg (a1:Ring) (a2:Int) (v3:Ring) (v5:(List Int)) (x13:Int) (l14:List qO) (l14n:Nat):St:=
 (KP a1 a2 v5 x13).up [] [] [] [(2,ro 0 95 3 l14n (rf qV l14)),(3,bx 71 [ci v3.Z,.own 2 0 3 l14n])]
def qGl (v3:Ring) (l35:List qO):St:=
 ⟨[(4,vp 1 0),(5,vp 3 0)],[(1,bx 71 [ci 0,.emp]),(2,ro 0 95 3 l35.length (rf qV l35)),(3,bx 71 [ci v3.Z,.own 2 0 3 l35.length])]⟩
def qQl (a1:Ring) (a2:Int) (v3:Ring) (v5:(List Int)) (x11:Bool):St:=
 ⟨[(1,vi a2),(2,vp 0 0),(4,vp 1 0),(5,vp 3 0),(6,vo 4 0 1 v5.length),(28,vb x11)],[(0,bx 71 (qX a1)),(1,bx 71 [ci 0,.emp]),(2,ro 0 95 3 v3.Read.length (rf qV v3.Read)),(3,bx 71 [ci v3.Z,.own 2 0 3 v3.Read.length]),(4,ro 0 3 1 v5.length (rf qD v5))]⟩
theorem qNn (E:Env 0) (a1:Ring) (a2:Int) (v3:Ring) (v5:(List Int)) (x13:Int) (l14:List qO):∀(n:Nat) (x17:Bool) (x18:Int) (res:Bool),yO a1 a2 v5 x13 n x17 x18=some res->HL (kx E 79 0) (nd f89 512820) (zL 2 (λo=>qFK a1 a2 v3 v5 x13 l14 o) res) n (qAi a1 a2 v3 v5 x13 l14 x17 x18):=by
 intro n
 induction n with
 |zero=>
  intro x17 x18 res hm;cases hm
 |succ n ih=>
  intro x17 x18 res hm;refine qS (s_va 5 [(39,vb (decide (x18<2)))] ?_);refine q_sq (q_cq hm (λhm=>?_) (λhm=>?_))
  ·refine q_sk (q_jn (qOD a1 a2 v3 v5 x13 l14 x18) (λp=>AW x18 (yO a1 a2 v5 x13 n) p=some res) ?_ ?_)
   ·rintro x28 hm;exact q_vv [] 6 [38] [(38,vi (w64 (x18+1)))] (q_hl (qAi a1 a2 v3 v5 x13 l14 x28 (w64 (x18+1))) (ih x28 (w64 (x18+1)) _ hm))
   ·refine q_bk 3 ?_;obtain⟨g20,hm⟩:=qJ hm;refine s_vv [qi 0 g20] 5 [39] [(11,vi (([(-1),1]:List Int).getD x18.toNat 0))] ?_;obtain⟨g21,hm⟩:=qJ hm;obtain⟨g22,hm⟩:=qJ hm;obtain⟨g23,hm⟩:=qJ hm;refine s_du [qd 11 dN (IM g21),qi 12 g22,qd 13 dN (qW (zC g22)),qi 14 g23] [0,1,0,0,0,16,56,0,248,0,512,2040,4092,8188,16383,32767,65535,0,262143] 5 [11] [(12,vp 5 0)] [] [(5,bx 93 (qF ((a1.Read.getD (v5.getD ((Int.tmod (w64 ((w64 (x13+(v5.length:Int)))+(([(-1),1]:List Int).getD x18.toNat 0))) (v5.length:Int)).toNat) dd).toNat dd).P)))] ?_;rcases bif_c hm with⟨b24,hm⟩|⟨b24,hm⟩
    ·obtain⟨g25,hm⟩:=qJ hm;obtain⟨v26,h27,hm⟩:=qC hm
     refine q_du [qf 1 b24,qi 5 g25,qk 10 [59,65,66,67] 6 ⟨[(59,vb true),(65,va [ci (((a1.Read.getD (v5.getD x13.toNat dd).toNat dd).P).X),ci (((a1.Read.getD (v5.getD x13.toNat dd).toNat dd).P).Y)]),(66,va [ci (((a1.Read.getD (v5.getD ((Int.tmod (w64 ((w64 (x13+(v5.length:Int)))+(([(-1),1]:List Int).getD x18.toNat 0))) (v5.length:Int)).toNat) dd).toNat dd).P).X),ci (((a1.Read.getD (v5.getD ((Int.tmod (w64 ((w64 (x13+(v5.length:Int)))+(([(-1),1]:List Int).getD x18.toNat 0))) (v5.length:Int)).toNat) dd).toNat dd).P).Y)]),(67,vi a2)],[]⟩ (qWk ((a1.Read.getD (v5.getD x13.toNat dd).toNat dd).P) ((a1.Read.getD (v5.getD ((Int.tmod (w64 ((w64 (x13+(v5.length:Int)))+(([(-1),1]:List Int).getD x18.toNat 0))) (v5.length:Int)).toNat) dd).toNat dd).P) a2 v26 h27)] [0,1,3,7,3,31,63,127,3,3,1023,2047,4095] 6 [9,12] [(9,vb v26)] [5] [] ?_
     exact q_J (v26) hm
    ·exact q_du [qf 1 b24] [0,1,3,7,3,31,63,127,3,3,1023,2047,4095] 6 [9,12] [(9,vb false)] [5] [] (q_J (false) hm)
  ·refine q_ex 2 ?_;obtain rfl:=oi hm;exact q_l0
theorem qOa (E:Env 0) (a1:Ring) (a2:Int) (v3:Ring) (v5:(List Int)):∀(n:Nat) (x13:Int) (l14:List qO) (l14n:Nat) (res:(List qO)),l14.length=l14n->JG a1 a2 v5 n x13 l14=some res->HL (kx E 79 0) (nd f89 500) (zL 0 (λo=>qGl v3 o) res) n (qAg a1 a2 v3 v5 x13 l14 l14n):=by
 intro n
 induction n with
 |zero=>
  intro x13 l14 l14n res hl0 hm;cases hm
 |succ n ih=>
  intro x13 l14 l14n res hl0 hm;subst hl0;refine qS (s_va 5 [(33,vb (decide (x13<(v5.length:Int))))] ?_);refine q_sq (q_cq hm (λhm=>?_) (λhm=>?_))
  ·refine q_sk (q_jn (ι:=(List qO)×Nat) (λp=>qF1 a1 a2 v3 v5 x13 p.1 p.2) (λp=>p.1.length=p.2/\IK x13 (JG a1 a2 v5 n) p.1=some res) ?_ ?_)
   ·rintro⟨l34,l34n⟩ ⟨el34,hm⟩;replace el34:l34.length=l34n:=el34;subst el34;show H _ (qF1 a1 a2 v3 v5 x13 l34 l34.length) _ _;exact q_vv [] 5 [32] [(32,vi (w64 (x13+1)))] (q_hl (qAg a1 a2 v3 v5 (w64 (x13+1)) l34 l34.length) (ih (w64 (x13+1)) l34 l34.length _ rfl hm))
   ·refine q_bk 1 ?_;obtain⟨g16,hm⟩:=qJ hm;refine s_vv [qi 1 g16,qd 2 dN (qW (zC g16))] 5 [33] [(7,vi x13),(8,vi (v5.getD x13.toNat dd))] (s_va 5 [(9,vb true)] ?_);refine q_sq (s_va 5 [(37,va [ci (-1),ci 1]),(38,vi 0)] ?_);obtain⟨o30,h31,hm⟩:=qC hm;refine zG (nd f89 512820) 2 (by kernel_rfl) FUEL (λo=>qFK a1 a2 v3 v5 x13 l14 o) o30 (q_hl (qAi a1 a2 v3 v5 x13 l14 true 0) (qNn E a1 a2 v3 v5 x13 l14 FUEL true 0 o30 h31)) (s_vv [] 5 [9] [(71,vb o30)] ?_);refine q_cq hm (λhm=>?_) (λhm=>?_)
    ·obtain⟨g33,hm⟩:=qJ hm;exact q_vu [qi 4 g33,qd 5 (drw 0 0 (rf qV (l14.set ((v5.getD x13.toNat dd).toNat) (qO.mk (qA.mk 0 0) false)))) (stP qV dd (qO.mk (qA.mk 0 0) false) l14 l14.length ((v5.getD x13.toNat dd).toNat) 0 [ci 0,ci 0,cb false] rfl (qW (zC g33)) rfl)] 5 [8,71] [] [2] [(2,ro 0 95 3 l14.length (rf qV (l14.set ((v5.getD x13.toNat dd).toNat) (qO.mk (qA.mk 0 0) false))))] (q_J ((l14.set ((v5.getD x13.toNat dd).toNat) (qO.mk (qA.mk 0 0) false)),l14.length) ⟨(QC rfl),hm⟩)
    ·exact q_sk (q_J (l14,l14.length) ⟨rfl,hm⟩)
  ·refine q_ex 0 ?_;obtain rfl:=oi hm;exact q_l0
theorem qSF (a1:Ring) (a2:Int) (r:Ring) (hm:qAf a1 a2=some r):CtX Tryz.prog globs 89 0 0 [.agg (qX a1),.one (ci a2)] [] (qVr r) (qUq r):=by
 unfold qAf at hm;refine q_E f89 79 λE=>?_;refine s_vn [] 0 ⟨[(1,vi a2),(2,vp 0 0),(4,vp 1 0)],[(0,bx 71 (qX a1)),(1,bx 71 [ci 0,.emp])]⟩ ?_;obtain⟨v3,h4,hm⟩:=qC hm;refine s_vu [qc 1 [13] 2 (qJs a1 v3 h4)] 2 [] [(5,vp 3 0)] [] [(2,ro 0 95 3 v3.Read.length (rf qV v3.Read)),(3,bx 71 [ci v3.Z,.own 2 0 3 v3.Read.length])] ?_;obtain⟨v5,h6,hm⟩:=qC hm;refine s_vu [qc 1 [15] 4 (ON a1 v5 h6)] 4 [] [(6,vo 4 0 1 v5.length)] [] [(4,ro 0 3 1 v5.length (rf qD v5))] (q_sq ?_);refine q_jn (qQl a1 a2 v3 v5) (λp=>BY a1 a2 v3 v5 p=some r) ?_ ?_
 ·rintro x11 hm;refine q_cq hm (λhm=>?_) (λhm=>?_)
  ·refine s_vu [] 5 [1,2,5,6,28] [] [0,1,3,4] [(1,bx 71 [ci v3.Z,.own 2 0 3 v3.Read.length])] ?_;obtain rfl:=oi hm;exact q_sw 2 0 (q_rt q_rm)
  ·refine q_sk (q_sq ?_);refine s_vv [] 5 [28] [(30,vo 4 0 1 v5.length),(31,vi (v5.length:Int)),(32,vi 0)] ?_;obtain⟨o36,h37,hm⟩:=qC hm;refine zG (nd f89 500) 0 (by kernel_rfl) FUEL (λo=>qGl v3 o) o36 (q_hl (qAg a1 a2 v3 v5 0 v3.Read v3.Read.length) (qOa E a1 a2 v3 v5 FUEL 0 v3.Read v3.Read.length o36 rfl h37)) (s_vu [] 5 [5] [] [1,3] [(1,bx 71 [ci v3.Z,.own 2 0 3 o36.length])] ?_);obtain rfl:=oi hm;exact q_sw 2 0 (q_rt q_rm)
 ·rcases bif_c hm with⟨b7,hm⟩|⟨b7,hm⟩
  ·exact q_vv [qf 2 b7] 5 [] [(28,vb true)] (q_J (true) hm)
  ·rcases bif_c hm with⟨b8,hm⟩|⟨b8,hm⟩
   ·exact q_vv [qf 2 b7,qf 7 b8] 5 [] [(28,vb true)] (q_J (true) hm)
   ·obtain⟨v9,h10,hm⟩:=qC hm;exact q_vv [qf 2 b7,qf 7 b8,qk 9 [24,25] 5 ⟨[(24,vb false),(25,va (qX a1))],[]⟩ (IF a1 v9 h10)] 5 [] [(28,vb (v9 !=0))] (q_J (v9 !=0) hm)
def qVF (r:Int):V:=vi r
def qUI (r:Int):List (Nat×(Nat×O)):=[]
def qPV (x5:Int):St:=
 ⟨[(5,vi x5)],[]⟩
theorem qJl (a1:Int) (a2:Int) (r:Int) (hm:HN a1 a2=some r):CtX Tryz.prog globs 149 0 0 [.one (ci a1),.one (ci a2)] [] (qVF r) (qUI r):=by
 unfold HN at hm;refine q_E f149 16 λE=>?_;refine s_vn [] 0 ⟨[(0,vi a1),(1,vi a2)],[]⟩ ?_;obtain⟨g3,hm⟩:=qJ hm;refine s_vv [qd 2 dN (IM g3)] 0 [] [(5,vi (w64 (Int.tdiv a1 a2)))] (q_jn (qPV) (λp=>AY p=some r) ?_ ?_)
 ·rintro x5 hm;refine s_vn [] 0 ⟨[(4,vi x5)],[]⟩ ?_;obtain rfl:=oi hm;exact q_rt q_rm
 ·refine s_vv [qd 2 dN (IM g3)] 0 [0,1] [(12,vb (decide ((Int.tmod a1 a2)<0)))] (q_cq hm (λhm=>?_) (λhm=>?_))
  ·exact q_vn [] 0 ⟨[(5,vi (w64 ((w64 (Int.tdiv a1 a2))-1)))],[]⟩ (q_J (w64 ((w64 (Int.tdiv a1 a2))-1)) hm)
  ·exact q_sk (q_J (w64 (Int.tdiv a1 a2)) hm)
open Go.Proofs Go.Proofs.Tryz
def qDm (r:Int):V:=vi r
def BS (r:Int):List (Nat×(Nat×O)):=[]
theorem qJn (r:Int):ZE (BS r):=by
 intro i k o h;unfold BS at h;cases h
theorem qHG (a1:Ring) (a2:List Int) (a3:Int) (r:Int) (hm:NP a1 a2 a3=some r):CtX Tryz.prog globs 148 0 0 [.agg (qX a1),.one (tl qD dd a2),.one (ci a3)] [] (qDm r) (BS r):=by
 unfold NP at hm;refine q_E f148 36 λE=>?_;refine s_vn [] 0 ⟨[(1,vc (tl qD dd a2)),(2,vi a3),(3,vp 0 0)],[(0,bx 71 (qX a1))]⟩ (q_sq ?_);refine s_va 1 [(11,vb (decide ((w64 (a3+1))<(a2.length:Int))))] (q_cq hm (λhm=>?_) (λhm=>?_))
 ·obtain⟨g5,hm⟩:=qJ hm;obtain⟨g6,hm⟩:=qJ hm;refine s_dn [qi 3 g5,qi 7 g6] [0,0,2,7,15,0,0,96,224,511,1023,2047] 1 ⟨[(6,vi (w64 ((w64 ((a2.getD (w64 (a3+1)).toNat dd)-(a2.getD a3.toNat dd)))-1)))],[]⟩ ?_;obtain rfl:=oi hm;exact q_rt q_rm
 ·refine q_sk ?_;obtain⟨g7,hm⟩:=qJ hm;obtain⟨g8,hm⟩:=qJ hm;refine s_dn [qi 1 g7,qi 9 g8] [0,1,3,0,8,24,63,0,0,384,896,2047,4095,8191] 1 ⟨[(6,vi (w64 ((w64 ((w64 ((a2.getD (0:Int).toNat dd)+(a1.Read.length:Int)))-(a2.getD a3.toNat dd)))-1)))],[]⟩ ?_;obtain rfl:=oi hm;exact q_rt q_rm
def qV6 (r:Int×Int):V:= .tup [.one (ci r.1),.one (ci r.2)]
def qWq (r:Int×Int):List (Nat×(Nat×O)):=[]
def qCc (a1:Ring) (v2:(List Int)) (x5:Int) (x6:Int):St:=
 ⟨[(1,vp 0 0),(4,vo 1 0 1 v2.length),(5,vi (w64 ((a1.Read.length:Int)-(v2.length:Int)))),(6,vi x5),(22,vi (v2.length:Int)),(23,vi x6)],[(0,bx 71 (qX a1)),(1,ro 0 3 1 v2.length (rf qD v2))]⟩
def qHP (a1:Ring) (v2:(List Int)) (x10:Int):St:=
 ⟨[(5,vi (w64 ((a1.Read.length:Int)-(v2.length:Int)))),(6,vi x10)],[]⟩
theorem qO7 (E:Env 0) (a1:Ring) (v2:(List Int)):∀(n:Nat) (x5:Int) (x6:Int) (res:Int),DF a1 v2 n x5 x6=some res->HL (kx E 35 0) (nd f147 1012) (zL 0 (λo=>qHP a1 v2 o) res) n (qCc a1 v2 x5 x6):=by
 intro n
 induction n with
 |zero=>
  intro x5 x6 res hm;cases hm
 |succ n ih=>
  intro x5 x6 res hm;refine qS (s_va 2 [(24,vb (decide (x6<(v2.length:Int))))] ?_);refine q_sq (q_cq hm (λhm=>?_) (λhm=>?_))
  ·refine q_sk (q_sq ?_);refine q_bk 1 (s_vv [] 2 [24] [(7,vi x6)] ?_);obtain⟨v8,h9,hm⟩:=qC hm;refine q_vv [qd 4 (dex (cen [] [] 2 0 (qDm v8) (BS v8) [27,28,29] [1])) (wK (K:=(kx E 35 0)) (b:=false) ⟨[(27,va (qX a1)),(28,vo 1 0 1 v2.length),(29,vi x6)],[(1,ro 0 3 1 v2.length (rf qD v2))]⟩ (opAt (rg f147 32409) 4) [] [] 2 (o1 (ke v2.length)) rfl (qHG a1 v2 x6 v8 h9) (.inr ⟨(by kernel_rfl),qJn v8⟩) (by kernel_rfl))] 2 [6,7] [(6,vi (imax x5 v8))] (q_vv [] 2 [23] [(23,vi (w64 (x6+1)))] ?_);exact q_hl (qCc a1 v2 (imax x5 v8) (w64 (x6+1))) (ih (imax x5 v8) (w64 (x6+1)) _ hm)
  ·refine q_ex 0 ?_;obtain rfl:=oi hm;exact q_l0
theorem qUe (a1:Ring) (r:Int×Int) (hm:CK a1=some r):CtX Tryz.prog globs 147 0 0 [.agg (qX a1)] [] (qV6 r) (qWq r):=by
 unfold CK at hm;refine q_E f147 35 λE=>?_;refine s_vn [] 0 ⟨[(1,vp 0 0)],[(0,bx 71 (qX a1))]⟩ ?_;obtain⟨v2,h3,hm⟩:=qC hm;refine s_vu [qc 1 [8] 1 (ON a1 v2 h3)] 1 [] [(4,vo 1 0 1 v2.length)] [] [(1,ro 0 3 1 v2.length (rf qD v2))] (s_va 2 [(5,vi (w64 ((a1.Read.length:Int)-(v2.length:Int))))] ?_);refine q_sq (s_va 2 [(18,vb ((v2.length:Int)==0))] ?_);refine q_cq hm (λhm=>?_) (λhm=>?_)
 ·refine s_vn [] 2 ⟨[(2,vi (w64 ((a1.Read.length:Int)-(v2.length:Int)))),(3,vi (w64 ((a1.Read.length:Int)-(v2.length:Int))))],[]⟩ ?_;obtain rfl:=oi hm;exact q_rt q_rm
 ·refine q_sk (s_vv [] 2 [18] [(6,vi 0)] ?_);refine q_sq (s_va 2 [(22,vi (v2.length:Int)),(23,vi 0)] ?_);obtain⟨o11,h12,hm⟩:=qC hm;refine zG (nd f147 1012) 0 (by kernel_rfl) FUEL (λo=>qHP a1 v2 o) o11 (q_hl (qCc a1 v2 0 0) (qO7 E a1 v2 FUEL 0 0 o11 h12)) (s_vn [] 2 ⟨[(2,vi (w64 ((a1.Read.length:Int)-(v2.length:Int)))),(3,vi o11)],[]⟩ ?_);obtain rfl:=oi hm;exact q_rt q_rm
end Saw
end Go.SL

import Derived.Test.YthbamnkheinbgaaGreatDoorSBase
import Derived.Test.YthbamnkheinbgaaGreatDoorSFa2
import Derived.Test.YthbamnkheinbgaaGreatDoorSFa7
set_option linter.unusedVariables false
set_option linter.unusedSimpArgs false
namespace Go.SL
namespace Saw
open Go.Proofs Go.Proofs.Tryz
set_option maxHeartbeats 4000000
set_option maxRecDepth 100000
def qKF (r:(List qF)):V:=vo 0 0 7 r.length
def qKV (r:(List qF)):List (Nat×(Nat×O)):=[(0,ro 0 68 7 r.length (rf qJ r))]
def VF (a1:List qF) (a2:Int) (l7:List qF) (x8:Int):St:=
 ⟨[(1,vi (Int.tmod (w64 ((Int.tmod a2 4)+4)) 4)),(5,vo 0 0 7 l7.length),(6,vi x8),(7,vp 1 0),(18,vc (tl qJ dd a1)),(19,vi (a1.length:Int)),(20,vi x8)],[(0,ro 0 68 7 l7.length (rf qJ l7))]⟩
def NC (a1:List qF) (a2:Int) (l7:List qF) (x8:Int) (x11:Int) (x12:Int) (x13:Int) (x14:Int) (x15:Int):St:=
 (VF a1 a2 l7 x8).up [] [(25,vi (Int.tmod (w64 ((Int.tmod a2 4)+4)) 4)),(26,vi x11)] [] [(1,bx 68 [ci ((a1.getD x8.toNat dd).Kind),ci x12,ci x13,ci x14,ci x15,ci ((((a1.getD x8.toNat dd).Box).Z).A),ci ((((a1.getD x8.toNat dd).Box).Z).B)])]
def CU (a1:List qF) (a2:Int) (l7:List qF) (x8:Int) (x17:qF):St:=
 (VF a1 a2 l7 x8).up [] [] [] [(1,bx 68 (qJ x17))]
def BZ (a1:List qF) (a2:Int) (l7:List qF) (l7n:Nat) (x8:Int):St:=
 (VF a1 a2 l7 x8).up [5,6,7] [(5,vo 0 0 7 l7n)] [0] [(0,ro 0 68 7 l7n (rf qJ l7))]
def CZ (l21:List qF):St:=
 ⟨[(5,vo 0 0 7 l21.length)],[(0,ro 0 68 7 l21.length (rf qJ l21))]⟩
theorem qFH (E:Env 0) (a1:List qF) (a2:Int) (l7:List qF) (x8:Int):∀(n:Nat) (x11:Int) (x12:Int) (x13:Int) (x14:Int) (x15:Int) (res:qF),jL a1 a2 x8 n x11 x12 x13 x14 x15=some res->HL (kx E 53 0) (nd f74 256404) (zS 2 (λo=>CU a1 a2 l7 x8 o) res) n (NC a1 a2 l7 x8 x11 x12 x13 x14 x15):=by
 intro n
 induction n with
 |zero=>
  intro x11 x12 x13 x14 x15 res hm;cases hm
 |succ n ih=>
  intro x11 x12 x13 x14 x15 res hm;refine qS (s_va 2 [(27,vb (decide (x11<(Int.tmod (w64 ((Int.tmod a2 4)+4)) 4))))] ?_);refine q_sq (q_cq hm (λhm=>?_) (λhm=>?_))
  ·refine q_sk (q_sq ?_);refine q_bk 3 (q_vu [] 2 [27] [] [1] [(1,bx 68 [ci ((a1.getD x8.toNat dd).Kind),ci (w64 (0-x15)),ci (w64 (0-x14)),ci x12,ci x13,ci ((((a1.getD x8.toNat dd).Box).Z).A),ci ((((a1.getD x8.toNat dd).Box).Z).B)])] ?_);exact q_vv [] 2 [26] [(26,vi (w64 (x11+1)))] (q_hl (NC a1 a2 l7 x8 (w64 (x11+1)) (w64 (0-x15)) (w64 (0-x14)) x12 x13) (ih (w64 (x11+1)) (w64 (0-x15)) (w64 (0-x14)) x12 x13 _ hm))
  ·refine q_ex 2 ?_;obtain rfl:=oi hm;exact q_l0
theorem qFZ (E:Env 0) (a1:List qF) (a2:Int):∀(n:Nat) (l7:List qF) (l7n:Nat) (x8:Int) (res:(List qF)),l7.length=l7n->yF a1 a2 n l7 x8=some res->HL (kx E 53 0) (nd f74 500) (zS 0 CZ res) n (BZ a1 a2 l7 l7n x8):=by
 intro n
 induction n with
 |zero=>
  intro l7 l7n x8 res hl0 hm;cases hm
 |succ n ih=>
  intro l7 l7n x8 res hl0 hm;subst hl0;refine qS (s_va 1 [(21,vb (decide (x8<(a1.length:Int))))] ?_);refine q_sq (q_cq hm (λhm=>?_) (λhm=>?_))
  ·refine q_sk (q_sq ?_);refine q_bk 1 ?_;obtain⟨g10,hm⟩:=qK hm;refine s_vu [qi 1 g10] 1 [21] [(6,vi x8),(7,vp 1 0)] [] [(1,bx 68 (qJ (a1.getD x8.toNat dd)))] (q_sq ?_);refine s_va 2 [(25,vi (Int.tmod (w64 ((Int.tmod a2 4)+4)) 4)),(26,vi 0)] ?_;obtain⟨o18,h19,hm⟩:=qE hm
   refine zL (nd f74 256404) 2 (by kernel_rfl) FUEL (λo=>CU a1 a2 l7 x8 o) o18 (q_hl (NC a1 a2 l7 x8 0 ((((a1.getD x8.toNat dd).Box).X).A) ((((a1.getD x8.toNat dd).Box).X).B) ((((a1.getD x8.toNat dd).Box).Y).A) ((((a1.getD x8.toNat dd).Box).Y).B)) (qFH E a1 a2 l7 x8 FUEL 0 ((((a1.getD x8.toNat dd).Box).X).A) ((((a1.getD x8.toNat dd).Box).X).B) ((((a1.getD x8.toNat dd).Box).Y).A) ((((a1.getD x8.toNat dd).Box).Y).B) o18 h19)) ?_;obtain⟨g20,hm⟩:=qK hm
   refine q_vu [qi 3 g20,qd 4 (drw 0 0 (rf qJ (l7.set x8.toNat o18))) (stP qJ dd o18 l7 l7.length x8.toNat 0 (qJ o18) rfl (qW (zG g20)) rfl)] 2 [6,7] [] [0,1] [(0,ro 0 68 7 l7.length (rf qJ (l7.set x8.toNat o18)))] (q_vv [] 2 [20] [(20,vi (w64 (x8+1)))] ?_);exact q_hl (BZ a1 a2 (l7.set x8.toNat o18) l7.length (w64 (x8+1))) (ih (l7.set x8.toNat o18) l7.length (w64 (x8+1)) _ (QT rfl) hm)
  ·refine q_ex 0 ?_;obtain rfl:=oi hm;exact q_l0
theorem qJn (a1:List qF) (a2:Int) (r:(List qF)) (hm:DL a1 a2=some r):CtX Tryz.prog globs 74 0 0 [.one (tl qJ dd a1),.one (ci a2)] [] (qKF r) (qKV r):=by
 unfold DL at hm;refine q_E f74 53 λE=>?_;refine s_vn [] 0 ⟨[(0,vc (tl qJ dd a1)),(1,vi a2)],[]⟩ (q_sq ?_);obtain⟨v3,h4,hm⟩:=qE hm;refine s_vv [qc 1 [8] 0 (qBn a1 v3 h4)] 0 [] [(10,vb (v3 !=0))] (q_cq hm (λhm=>?_) (λhm=>?_))
 ·refine s_vn [] 0 ⟨[(4,vc (.emp))],[]⟩ (q_fn [.own 4 0 68 7 (rf qJ [])] ⟨[(4,vo 0 0 7 0)],[(0,ro 0 68 7 0 (rf qJ []))]⟩ o0 ?_);refine q_fn [.len 0 (([]:List qF).length)] ⟨[(4,vo 0 0 7 (([]:List qF).length))],[(0,ro 0 68 7 (([]:List qF).length) (rf qJ []))]⟩ (o1 (And.intro (show 0=([]:List qF).length from rfl) (show 0=([]:List qF).length from rfl))) ?_;obtain rfl:=oi hm;exact q_rt q_rm
 ·refine q_sk (s_vv [qd 1 dN (show(4:Int)≠0 by decide),qd 3 dN (show(4:Int)≠0 by decide)] 0 [1,10] [(1,vi (Int.tmod (w64 ((Int.tmod a2 4)+4)) 4))] ?_);obtain⟨g6,hm⟩:=qK hm
  refine s_vu [qd 2 (drw 0 0 (rf qJ (List.replicate ((a1.length:Int).toNat) (qF.mk 0 (Box.mk (Span.mk 0 0) (Span.mk 0 0) (Span.mk 0 0)))))) (mkP qJ dd (qF.mk 0 (Box.mk (Span.mk 0 0) (Span.mk 0 0) (Span.mk 0 0))) (a1.length:Int) 56 [ci 0,ci 0,ci 0,ci 0,ci 0,ci 0,ci 0] (HK g6) rfl)] 0 [] [(5,vo 0 0 7 ((a1.length:Int).toNat))] [] [(0,ro 0 68 7 ((a1.length:Int).toNat) (rf qJ (List.replicate ((a1.length:Int).toNat) (qF.mk 0 (Box.mk (Span.mk 0 0) (Span.mk 0 0) (Span.mk 0 0))))))] (q_sq ?_);refine s_vv [] 1 [0] [(18,vc (tl qJ dd a1)),(19,vi (a1.length:Int)),(20,vi 0)] ?_;obtain⟨o22,h23,hm⟩:=qE hm
  refine zL (nd f74 500) 0 (by kernel_rfl) FUEL CZ o22 (q_hl (BZ a1 a2 (List.replicate ((a1.length:Int).toNat) (qF.mk 0 (Box.mk (Span.mk 0 0) (Span.mk 0 0) (Span.mk 0 0)))) ((a1.length:Int).toNat) 0) (qFZ E a1 a2 FUEL (List.replicate ((a1.length:Int).toNat) (qF.mk 0 (Box.mk (Span.mk 0 0) (Span.mk 0 0) (Span.mk 0 0)))) ((a1.length:Int).toNat) 0 o22 MU h23)) (s_vv [] 1 [5] [(4,vo 0 0 7 o22.length)] ?_);obtain rfl:=oi hm;exact q_rt q_rm
def qNr (r:Scan):V:=va [.own 0 0 2 r.Rings.length,.own 1 0 7 r.Defects.length]
def qNE (r:Scan):List (Nat×(Nat×O)):=[(0,ro 0 45 2 r.Rings.length (rf qM r.Rings)),(1,ro 0 68 7 r.Defects.length (rf qJ r.Defects))]
def SK (a1:Scan) (a2:Int) (v9:(List qF)) (x11:Int) (l12:List Ring) (l12n:Nat):St:=
 ⟨[(1,vi a2),(2,vp 0 0),(4,vp 1 0),(5,vp 4 0),(23,vi (a1.Rings.length:Int)),(24,vi x11)],[(0,bx 25 (qX a1)),(1,bx 25 [.emp,.emp]),(2,ro 0 45 2 l12n (rf qM l12)),(3,ro 0 68 7 v9.length (rf qJ v9)),(4,bx 25 [.own 2 0 2 l12n,.own 3 0 7 v9.length])]⟩
def qCm (v9:(List qF)) (l22:List Ring):St:=
 ⟨[(4,vp 1 0),(5,vp 4 0)],[(1,bx 25 [.emp,.emp]),(2,ro 0 45 2 l22.length (rf qM l22)),(3,ro 0 68 7 v9.length (rf qJ v9)),(4,bx 25 [.own 2 0 2 l22.length,.own 3 0 7 v9.length])]⟩
theorem qIr (E:Env 0) (a1:Scan) (a2:Int) (v9:(List qF)):∀(n:Nat) (x11:Int) (l12:List Ring) (l12n:Nat) (res:(List Ring)),l12.length=l12n->ZL a1 a2 n x11 l12=some res->HL (kx E 40 0) (nd f33 244) (zS 0 (λo=>qCm v9 o) res) n (SK a1 a2 v9 x11 l12 l12n):=by
 intro n
 induction n with
 |zero=>
  intro x11 l12 l12n res hl0 hm;cases hm
 |succ n ih=>
  intro x11 l12 l12n res hl0 hm;subst hl0;refine qS (s_va 5 [(25,vb (decide (x11<(a1.Rings.length:Int))))] ?_);refine q_sq (q_cq hm (λhm=>?_) (λhm=>?_))
  ·refine q_sk (q_sq ?_);refine q_bk 1 (s_vv [] 5 [25] [(6,vi x11)] ?_);obtain⟨g18,hm⟩:=qK hm;obtain⟨v19,h20,hm⟩:=qE hm;obtain⟨g21,hm⟩:=qK hm;refine q_du [qi 6 g18,qc 9 [34,35] 5 (CtX.frz (x':=va (qM v19)) (ob':=[]) (qMV (a1.Rings.getD x11.toNat dd) a2 v19 h20) 0 (o1 (kr v19.Read.length)) (by kernel_rfl)),qi 10 g21,qd 11 (drw 0 0 (rf qM (l12.set x11.toNat v19))) (stP qM dd v19 l12 l12.length x11.toNat 0 (qM v19) rfl (qW (zG g21)) rfl)] [0,1,0,0,8,0,56,120,0,504,1023,2047] 5 [6] [] [2] [(2,ro 0 45 2 l12.length (rf qM (l12.set x11.toNat v19)))] (q_vv [] 5 [24] [(24,vi (w64 (x11+1)))] ?_)
   exact q_hl (SK a1 a2 v9 (w64 (x11+1)) (l12.set x11.toNat v19) l12.length) (ih (w64 (x11+1)) (l12.set x11.toNat v19) l12.length _ (QT rfl) hm)
  ·refine q_ex 0 ?_;obtain rfl:=oi hm;exact q_l0
theorem qAw (a1:Scan) (a2:Int) (r:Scan) (hm:UG a1 a2=some r):CtX Tryz.prog globs 33 0 0 [.agg (qX a1),.one (ci a2)] [] (qNr r) (qNE r):=by
 unfold UG at hm;refine q_E f33 40 λE=>?_;refine s_vn [] 0 ⟨[(1,vi a2),(2,vp 0 0),(4,vp 1 0)],[(0,bx 25 (qX a1)),(1,bx 25 [.emp,.emp])]⟩ (q_sq ?_);obtain⟨v3,h4,hm⟩:=qE hm;refine s_vv [qc 1 [7] 2 (QE a1 v3 h4)] 2 [] [(9,vb (v3 !=0))] (q_cq hm (λhm=>?_) (λhm=>?_))
 ·obtain⟨v6,h7,hm⟩:=qE hm;refine s_vn [qc 1 [10] 2 (qKn a1 v6 h7)] 2 ⟨[(4,vp 1 0)],[(1,bx 25 [.own 2 0 2 v6.Rings.length,.own 3 0 7 v6.Defects.length]),(2,ro 0 45 2 v6.Rings.length (rf qM v6.Rings)),(3,ro 0 68 7 v6.Defects.length (rf qJ v6.Defects))]⟩ ?_;obtain rfl:=oi hm;refine q_sw 2 0 (q_sw 3 1 ?_);exact q_rt q_rm
 ·refine q_sk ?_;obtain⟨g8,hm⟩:=qK hm;obtain⟨v9,h10,hm⟩:=qE hm
  refine s_du [qd 3 (drw 2 0 (rf qM (List.replicate ((a1.Rings.length:Int).toNat) (Ring.mk 0 ([]:List qD))))) (mkPe qM dd (Ring.mk 0 ([]:List qD)) (a1.Rings.length:Int) 32 [ci 0,.emp] (HK g8) (.same _ (.emp _ .nil))),qc 7 [17,18] 3 (qJn a1.Defects a2 v9 h10)] [0,1,3,7,0,16,0,112,255,0,1023] 2 [9] [(5,vp 4 0)] [] [(2,ro 0 45 2 ((a1.Rings.length:Int).toNat) (rf qM (List.replicate ((a1.Rings.length:Int).toNat) (Ring.mk 0 ([]:List qD))))),(3,ro 0 68 7 v9.length (rf qJ v9)),(4,bx 25 [.own 2 0 2 ((a1.Rings.length:Int).toNat),.own 3 0 7 v9.length])] (q_sq ?_)
  refine s_va 5 [(23,vi (a1.Rings.length:Int)),(24,vi 0)] ?_;obtain⟨o23,h24,hm⟩:=qE hm;refine zL (nd f33 244) 0 (by kernel_rfl) FUEL (λo=>qCm v9 o) o23 (q_hl (SK a1 a2 v9 0 (List.replicate ((a1.Rings.length:Int).toNat) (Ring.mk 0 ([]:List qD))) ((a1.Rings.length:Int).toNat)) (qIr E a1 a2 v9 FUEL 0 (List.replicate ((a1.Rings.length:Int).toNat) (Ring.mk 0 ([]:List qD))) ((a1.Rings.length:Int).toNat) o23 MU h24)) (s_vu [] 5 [5] [] [1,4] [(1,bx 25 [.own 2 0 2 o23.length,.own 3 0 7 v9.length])] ?_);obtain rfl:=oi hm;refine q_sw 2 0 (q_sw 3 1 ?_);exact q_rt q_rm
end Saw
end Go.SL

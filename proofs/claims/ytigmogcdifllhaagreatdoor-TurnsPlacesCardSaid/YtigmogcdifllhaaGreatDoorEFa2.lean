import Derived.Test.YtigmogcdifllhaaGreatDoorEBase
import Derived.Test.YtigmogcdifllhaaGreatDoorEFa1
set_option linter.unusedVariables false
set_option linter.unusedSimpArgs false
namespace Go.SL
namespace Saw
open Go.Proofs Go.Proofs.Tryz
set_option maxHeartbeats 4000000
set_option maxRecDepth 100000
def qWp (r:Scan):V:=va [.own 0 0 2 r.Rings.length,.own 1 0 7 r.Defects.length]
def qYj (r:Scan):List (Nat×(Nat×O)):=[(0,ro 0 71 2 r.Rings.length (rf qU r.Rings)),(1,ro 0 87 7 r.Defects.length (rf qJ r.Defects))]
def qAU (v2:List Ring) (v4:List qH) (x6:Int) (l7:List Ring) (l7n:Nat):St:=
 ⟨[(2,vp 1 0),(3,vp 4 0),(14,vi (v2.length:Int)),(15,vi x6)],[(1,bx 25 [.emp,.emp]),(2,ro 0 71 2 l7n (rf qU l7)),(3,ro 0 87 7 v4.length (rf qJ v4)),(4,bx 25 [.own 2 0 2 l7n,.own 3 0 7 v4.length])]⟩
def qGw (v4:List qH) (l15:List Ring):St:=
 ⟨[(2,vp 1 0),(3,vp 4 0)],[(1,bx 25 [.emp,.emp]),(2,ro 0 71 2 l15.length (rf qU l15)),(3,ro 0 87 7 v4.length (rf qJ v4)),(4,bx 25 [.own 2 0 2 l15.length,.own 3 0 7 v4.length])]⟩
theorem qOg (E:Env 0) (v2:List Ring) (v4:List qH):∀(n:Nat) (x6:Int) (l7:List Ring) (l7n:Nat) (res:(List Ring)),l7.length=l7n->QX v2 n x6 l7=some res->HL (kx E 32 0) (nd f38 116) (zF 0 (λo=>qGw v4 o) res) n (qAU v2 v4 x6 l7 l7n):=by
 intro n
 induction n with
 |zero=>
  intro x6 l7 l7n res hl0 hm;cases hm
 |succ n ih=>
  intro x6 l7 l7n res hl0 hm;subst hl0;refine qR (s_va 5 [(16,vb (decide (x6<(v2.length:Int))))] ?_);refine q_sq (q_cq hm (λhm=>?_) (λhm=>?_))
  ·refine q_sk (q_sq ?_);refine q_bk 1 (s_vv [] 5 [16] [(4,vi x6)] ?_);obtain⟨g12,hm⟩:=qI hm;obtain⟨v13,h14,hm⟩:=qC hm
   refine q_du [qi 6 g12,qd 8 dN (qW (zD g12)),qc 9 [26] 5 (CtX.frz (x':=vc (tl qQ dd v13)) (ob':=[]) (LD ((l7.getD x6.toNat dd).Read) v13 h14) 0 (o1 (kd v13.length)) (by kernel_rfl)),qi 10 g12,qd 12 (drw 0 0 (rf qU (l7.set x6.toNat (Ring.mk ((l7.getD x6.toNat dd).Z) v13)))) (stP qU dd (Ring.mk ((l7.getD x6.toNat dd).Z) v13) l7 l7.length x6.toNat 1 [tl qQ dd v13] rfl (qW (zD g12)) rfl)] [0,1,0,0,8,0,56,120,248,504,1023,2047,4095] 5 [4] [] [2] [(2,ro 0 71 2 l7.length (rf qU (l7.set x6.toNat (Ring.mk ((l7.getD x6.toNat dd).Z) v13))))] (q_vv [] 5 [15] [(15,vi (w64 (x6+1)))] ?_)
   exact q_hl (qAU v2 v4 (w64 (x6+1)) (l7.set x6.toNat (Ring.mk ((l7.getD x6.toNat dd).Z) v13)) l7.length) (ih (w64 (x6+1)) (l7.set x6.toNat (Ring.mk ((l7.getD x6.toNat dd).Z) v13)) l7.length _ (jI rfl) hm)
  ·refine q_ex 0 ?_;obtain rfl:=oi hm;exact q_l0
theorem qVD (a1:Scan) (r:Scan) (hm:qA4 a1=some r):CtX Tryz.prog globs 38 0 0 [.agg (zS a1)] [] (qWp r) (qYj r):=by
 unfold qA4 at hm;refine q_E f38 32 λE=>?_;refine s_vn [] 0 ⟨[(1,vp 0 0),(2,vp 1 0)],[(0,bx 25 (zS a1)),(1,bx 25 [.emp,.emp])]⟩ ?_;obtain⟨v2,h3,hm⟩:=qC hm;obtain⟨v4,h5,hm⟩:=qC hm;refine s_du [qc 2 [6] 2 (qIF a1.Rings v2 h3),qc 5 [9] 3 (HV a1.Defects v4 h5)] [0,1,3,0,8,31,63,0,255] 2 [1] [(3,vp 4 0)] [0] [(2,ro 0 71 2 v2.length (rf qU v2)),(3,ro 0 87 7 v4.length (rf qJ v4)),(4,bx 25 [.own 2 0 2 v2.length,.own 3 0 7 v4.length])] (q_sq ?_);refine s_va 5 [(14,vi (v2.length:Int)),(15,vi 0)] ?_;obtain⟨o16,h17,hm⟩:=qC hm
 refine zB (nd f38 116) 0 (by kernel_rfl) FUEL (λo=>qGw v4 o) o16 (q_hl (qAU v2 v4 0 v2 v2.length) (qOg E v2 v4 FUEL 0 v2 v2.length o16 rfl h17)) (s_vu [] 5 [3] [] [1,4] [(1,bx 25 [.own 2 0 2 o16.length,.own 3 0 7 v4.length])] ?_);obtain rfl:=oi hm;refine q_sw 2 0 (q_sw 3 1 ?_);exact q_rt q_rm
def qVa (r:(List qH)):V:=vo 0 0 7 r.length
def qVx (r:(List qH)):List (Nat×(Nat×O)):=[(0,ro 0 87 7 r.length (rf qJ r))]
def LL (a1:List qH) (a2:Int) (l7:List qH) (x8:Int):St:=
 ⟨[(1,vi (Int.tmod (w64 ((Int.tmod a2 4)+4)) 4)),(5,vo 0 0 7 l7.length),(6,vi x8),(7,vp 1 0),(18,vc (tl qJ dd a1)),(19,vi (a1.length:Int)),(20,vi x8)],[(0,ro 0 87 7 l7.length (rf qJ l7))]⟩
def OL (a1:List qH) (a2:Int) (l7:List qH) (x8:Int) (x11:Int) (x12:Int) (x13:Int) (x14:Int) (x15:Int):St:=
 (LL a1 a2 l7 x8).up [] [(25,vi (Int.tmod (w64 ((Int.tmod a2 4)+4)) 4)),(26,vi x11)] [] [(1,bx 87 [ci ((a1.getD x8.toNat dd).Kind),ci x12,ci x13,ci x14,ci x15,ci ((((a1.getD x8.toNat dd).Box).Z).A),ci ((((a1.getD x8.toNat dd).Box).Z).B)])]
def qFj (a1:List qH) (a2:Int) (l7:List qH) (x8:Int) (x17:qH):St:=
 (LL a1 a2 l7 x8).up [] [] [] [(1,bx 87 (qJ x17))]
def IT (a1:List qH) (a2:Int) (l7:List qH) (l7n:Nat) (x8:Int):St:=
 (LL a1 a2 l7 x8).up [5,6,7] [(5,vo 0 0 7 l7n)] [0] [(0,ro 0 87 7 l7n (rf qJ l7))]
def qFY (l21:List qH):St:=
 ⟨[(5,vo 0 0 7 l21.length)],[(0,ro 0 87 7 l21.length (rf qJ l21))]⟩
theorem qND (E:Env 0) (a1:List qH) (a2:Int) (l7:List qH) (x8:Int):∀(n:Nat) (x11:Int) (x12:Int) (x13:Int) (x14:Int) (x15:Int) (res:qH),QB a1 a2 x8 n x11 x12 x13 x14 x15=some res->HL (kx E 53 0) (nd f39 256404) (zF 2 (λo=>qFj a1 a2 l7 x8 o) res) n (OL a1 a2 l7 x8 x11 x12 x13 x14 x15):=by
 intro n
 induction n with
 |zero=>
  intro x11 x12 x13 x14 x15 res hm;cases hm
 |succ n ih=>
  intro x11 x12 x13 x14 x15 res hm;refine qR (s_va 2 [(27,vb (decide (x11<(Int.tmod (w64 ((Int.tmod a2 4)+4)) 4))))] ?_);refine q_sq (q_cq hm (λhm=>?_) (λhm=>?_))
  ·refine q_sk (q_sq ?_);refine q_bk 3 (q_vu [] 2 [27] [] [1] [(1,bx 87 [ci ((a1.getD x8.toNat dd).Kind),ci (w64 (0-x15)),ci (w64 (0-x14)),ci x12,ci x13,ci ((((a1.getD x8.toNat dd).Box).Z).A),ci ((((a1.getD x8.toNat dd).Box).Z).B)])] ?_);exact q_vv [] 2 [26] [(26,vi (w64 (x11+1)))] (q_hl (OL a1 a2 l7 x8 (w64 (x11+1)) (w64 (0-x15)) (w64 (0-x14)) x12 x13) (ih (w64 (x11+1)) (w64 (0-x15)) (w64 (0-x14)) x12 x13 _ hm))
  ·refine q_ex 2 ?_;obtain rfl:=oi hm;exact q_l0
theorem qM8 (E:Env 0) (a1:List qH) (a2:Int):∀(n:Nat) (l7:List qH) (l7n:Nat) (x8:Int) (res:(List qH)),l7.length=l7n->ZP a1 a2 n l7 x8=some res->HL (kx E 53 0) (nd f39 500) (zF 0 qFY res) n (IT a1 a2 l7 l7n x8):=by
 intro n
 induction n with
 |zero=>
  intro l7 l7n x8 res hl0 hm;cases hm
 |succ n ih=>
  intro l7 l7n x8 res hl0 hm;subst hl0;refine qR (s_va 1 [(21,vb (decide (x8<(a1.length:Int))))] ?_);refine q_sq (q_cq hm (λhm=>?_) (λhm=>?_))
  ·refine q_sk (q_sq ?_);refine q_bk 1 ?_;obtain⟨g10,hm⟩:=qI hm;refine s_vu [qi 1 g10] 1 [21] [(6,vi x8),(7,vp 1 0)] [] [(1,bx 87 (qJ (a1.getD x8.toNat dd)))] (q_sq ?_);refine s_va 2 [(25,vi (Int.tmod (w64 ((Int.tmod a2 4)+4)) 4)),(26,vi 0)] ?_;obtain⟨o18,h19,hm⟩:=qC hm
   refine zB (nd f39 256404) 2 (by kernel_rfl) FUEL (λo=>qFj a1 a2 l7 x8 o) o18 (q_hl (OL a1 a2 l7 x8 0 ((((a1.getD x8.toNat dd).Box).X).A) ((((a1.getD x8.toNat dd).Box).X).B) ((((a1.getD x8.toNat dd).Box).Y).A) ((((a1.getD x8.toNat dd).Box).Y).B)) (qND E a1 a2 l7 x8 FUEL 0 ((((a1.getD x8.toNat dd).Box).X).A) ((((a1.getD x8.toNat dd).Box).X).B) ((((a1.getD x8.toNat dd).Box).Y).A) ((((a1.getD x8.toNat dd).Box).Y).B) o18 h19)) ?_;obtain⟨g20,hm⟩:=qI hm
   refine q_vu [qi 3 g20,qd 4 (drw 0 0 (rf qJ (l7.set x8.toNat o18))) (stP qJ dd o18 l7 l7.length x8.toNat 0 (qJ o18) rfl (qW (zD g20)) rfl)] 2 [6,7] [] [0,1] [(0,ro 0 87 7 l7.length (rf qJ (l7.set x8.toNat o18)))] (q_vv [] 2 [20] [(20,vi (w64 (x8+1)))] ?_);exact q_hl (IT a1 a2 (l7.set x8.toNat o18) l7.length (w64 (x8+1))) (ih (l7.set x8.toNat o18) l7.length (w64 (x8+1)) _ (jI rfl) hm)
  ·refine q_ex 0 ?_;obtain rfl:=oi hm;exact q_l0
theorem qTl (a1:List qH) (a2:Int) (r:(List qH)) (hm:EH a1 a2=some r):CtX Tryz.prog globs 39 0 0 [.one (tl qJ dd a1),.one (ci a2)] [] (qVa r) (qVx r):=by
 unfold EH at hm;refine q_E f39 53 λE=>?_;refine s_vn [] 0 ⟨[(0,vc (tl qJ dd a1)),(1,vi a2)],[]⟩ (q_sq ?_);obtain⟨v3,h4,hm⟩:=qC hm;refine s_vv [qc 1 [8] 0 (ZX a1 v3 h4)] 0 [] [(10,vb (v3 !=0))] (q_cq hm (λhm=>?_) (λhm=>?_))
 ·refine s_vn [] 0 ⟨[(4,vc (.emp))],[]⟩ (q_fn [.own 4 0 87 7 (rf qJ [])] ⟨[(4,vo 0 0 7 0)],[(0,ro 0 87 7 0 (rf qJ []))]⟩ o0 ?_);refine q_fn [.len 0 (([]:List qH).length)] ⟨[(4,vo 0 0 7 (([]:List qH).length))],[(0,ro 0 87 7 (([]:List qH).length) (rf qJ []))]⟩ (o1 (And.intro (show 0=([]:List qH).length from rfl) (show 0=([]:List qH).length from rfl))) ?_;obtain rfl:=oi hm;exact q_rt q_rm
 ·refine q_sk (s_vv [qd 1 dN (show(4:Int)≠0 by decide),qd 3 dN (show(4:Int)≠0 by decide)] 0 [1,10] [(1,vi (Int.tmod (w64 ((Int.tmod a2 4)+4)) 4))] ?_);obtain⟨g6,hm⟩:=qI hm
  refine s_vu [qd 2 (drw 0 0 (rf qJ (List.replicate ((a1.length:Int).toNat) (qH.mk 0 (Box.mk (Span.mk 0 0) (Span.mk 0 0) (Span.mk 0 0)))))) (mkP qJ dd (qH.mk 0 (Box.mk (Span.mk 0 0) (Span.mk 0 0) (Span.mk 0 0))) (a1.length:Int) 56 [ci 0,ci 0,ci 0,ci 0,ci 0,ci 0,ci 0] (UQ g6) rfl)] 0 [] [(5,vo 0 0 7 ((a1.length:Int).toNat))] [] [(0,ro 0 87 7 ((a1.length:Int).toNat) (rf qJ (List.replicate ((a1.length:Int).toNat) (qH.mk 0 (Box.mk (Span.mk 0 0) (Span.mk 0 0) (Span.mk 0 0))))))] (q_sq ?_);refine s_vv [] 1 [0] [(18,vc (tl qJ dd a1)),(19,vi (a1.length:Int)),(20,vi 0)] ?_;obtain⟨o22,h23,hm⟩:=qC hm
  refine zB (nd f39 500) 0 (by kernel_rfl) FUEL qFY o22 (q_hl (IT a1 a2 (List.replicate ((a1.length:Int).toNat) (qH.mk 0 (Box.mk (Span.mk 0 0) (Span.mk 0 0) (Span.mk 0 0)))) ((a1.length:Int).toNat) 0) (qM8 E a1 a2 FUEL (List.replicate ((a1.length:Int).toNat) (qH.mk 0 (Box.mk (Span.mk 0 0) (Span.mk 0 0) (Span.mk 0 0)))) ((a1.length:Int).toNat) 0 o22 TV h23)) (s_vv [] 1 [5] [(4,vo 0 0 7 o22.length)] ?_);obtain rfl:=oi hm;exact q_rt q_rm
def qYD (r:Scan):V:=va [.own 0 0 2 r.Rings.length,.own 1 0 7 r.Defects.length]
def qYN (r:Scan):List (Nat×(Nat×O)):=[(0,ro 0 71 2 r.Rings.length (rf qU r.Rings)),(1,ro 0 87 7 r.Defects.length (rf qJ r.Defects))]
def qBH (a1:Scan) (a2:Int) (v9:(List qH)) (x11:Int) (l12:List Ring) (l12n:Nat):St:=
 ⟨[(1,vi a2),(2,vp 0 0),(4,vp 1 0),(5,vp 4 0),(23,vi (a1.Rings.length:Int)),(24,vi x11)],[(0,bx 25 (zS a1)),(1,bx 25 [.emp,.emp]),(2,ro 0 71 2 l12n (rf qU l12)),(3,ro 0 87 7 v9.length (rf qJ v9)),(4,bx 25 [.own 2 0 2 l12n,.own 3 0 7 v9.length])]⟩
def qIl (v9:(List qH)) (l22:List Ring):St:=
 ⟨[(4,vp 1 0),(5,vp 4 0)],[(1,bx 25 [.emp,.emp]),(2,ro 0 71 2 l22.length (rf qU l22)),(3,ro 0 87 7 v9.length (rf qJ v9)),(4,bx 25 [.own 2 0 2 l22.length,.own 3 0 7 v9.length])]⟩
theorem qRK (E:Env 0) (a1:Scan) (a2:Int) (v9:(List qH)):∀(n:Nat) (x11:Int) (l12:List Ring) (l12n:Nat) (res:(List Ring)),l12.length=l12n->JV a1 a2 n x11 l12=some res->HL (kx E 40 0) (nd f19 244) (zF 0 (λo=>qIl v9 o) res) n (qBH a1 a2 v9 x11 l12 l12n):=by
 intro n
 induction n with
 |zero=>
  intro x11 l12 l12n res hl0 hm;cases hm
 |succ n ih=>
  intro x11 l12 l12n res hl0 hm;subst hl0;refine qR (s_va 5 [(25,vb (decide (x11<(a1.Rings.length:Int))))] ?_);refine q_sq (q_cq hm (λhm=>?_) (λhm=>?_))
  ·refine q_sk (q_sq ?_);refine q_bk 1 (s_vv [] 5 [25] [(6,vi x11)] ?_);obtain⟨g18,hm⟩:=qI hm;obtain⟨v19,h20,hm⟩:=qC hm;obtain⟨g21,hm⟩:=qI hm;refine q_du [qi 6 g18,qc 9 [34,35] 5 (CtX.frz (x':=va (qU v19)) (ob':=[]) (qV1 (a1.Rings.getD x11.toNat dd) a2 v19 h20) 0 (o1 (kd v19.Read.length)) (by kernel_rfl)),qi 10 g21,qd 11 (drw 0 0 (rf qU (l12.set x11.toNat v19))) (stP qU dd v19 l12 l12.length x11.toNat 0 (qU v19) rfl (qW (zD g21)) rfl)] [0,1,0,0,8,0,56,120,0,504,1023,2047] 5 [6] [] [2] [(2,ro 0 71 2 l12.length (rf qU (l12.set x11.toNat v19)))] (q_vv [] 5 [24] [(24,vi (w64 (x11+1)))] ?_)
   exact q_hl (qBH a1 a2 v9 (w64 (x11+1)) (l12.set x11.toNat v19) l12.length) (ih (w64 (x11+1)) (l12.set x11.toNat v19) l12.length _ (jI rfl) hm)
  ·refine q_ex 0 ?_;obtain rfl:=oi hm;exact q_l0
theorem qWh (a1:Scan) (a2:Int) (r:Scan) (hm:FR a1 a2=some r):CtX Tryz.prog globs 19 0 0 [.agg (zS a1),.one (ci a2)] [] (qYD r) (qYN r):=by
 unfold FR at hm;refine q_E f19 40 λE=>?_;refine s_vn [] 0 ⟨[(1,vi a2),(2,vp 0 0),(4,vp 1 0)],[(0,bx 25 (zS a1)),(1,bx 25 [.emp,.emp])]⟩ (q_sq ?_);obtain⟨v3,h4,hm⟩:=qC hm;refine s_vv [qc 1 [7] 2 (qKy a1 v3 h4)] 2 [] [(9,vb (v3 !=0))] (q_cq hm (λhm=>?_) (λhm=>?_))
 ·obtain⟨v6,h7,hm⟩:=qC hm;refine s_vn [qc 1 [10] 2 (qVD a1 v6 h7)] 2 ⟨[(4,vp 1 0)],[(1,bx 25 [.own 2 0 2 v6.Rings.length,.own 3 0 7 v6.Defects.length]),(2,ro 0 71 2 v6.Rings.length (rf qU v6.Rings)),(3,ro 0 87 7 v6.Defects.length (rf qJ v6.Defects))]⟩ ?_;obtain rfl:=oi hm;refine q_sw 2 0 (q_sw 3 1 ?_);exact q_rt q_rm
 ·refine q_sk ?_;obtain⟨g8,hm⟩:=qI hm;obtain⟨v9,h10,hm⟩:=qC hm
  refine s_du [qd 3 (drw 2 0 (rf qU (List.replicate ((a1.Rings.length:Int).toNat) (Ring.mk 0 ([]:List qL))))) (mkPe qU dd (Ring.mk 0 ([]:List qL)) (a1.Rings.length:Int) 32 [ci 0,.emp] (UQ g8) (.same _ (.emp _ .nil))),qc 7 [17,18] 3 (qTl a1.Defects a2 v9 h10)] [0,1,3,7,0,16,0,112,255,0,1023] 2 [9] [(5,vp 4 0)] [] [(2,ro 0 71 2 ((a1.Rings.length:Int).toNat) (rf qU (List.replicate ((a1.Rings.length:Int).toNat) (Ring.mk 0 ([]:List qL))))),(3,ro 0 87 7 v9.length (rf qJ v9)),(4,bx 25 [.own 2 0 2 ((a1.Rings.length:Int).toNat),.own 3 0 7 v9.length])] (q_sq ?_)
  refine s_va 5 [(23,vi (a1.Rings.length:Int)),(24,vi 0)] ?_;obtain⟨o23,h24,hm⟩:=qC hm;refine zB (nd f19 244) 0 (by kernel_rfl) FUEL (λo=>qIl v9 o) o23 (q_hl (qBH a1 a2 v9 0 (List.replicate ((a1.Rings.length:Int).toNat) (Ring.mk 0 ([]:List qL))) ((a1.Rings.length:Int).toNat)) (qRK E a1 a2 v9 FUEL 0 (List.replicate ((a1.Rings.length:Int).toNat) (Ring.mk 0 ([]:List qL))) ((a1.Rings.length:Int).toNat) o23 TV h24)) (s_vu [] 5 [5] [] [1,4] [(1,bx 25 [.own 2 0 2 o23.length,.own 3 0 7 v9.length])] ?_);obtain rfl:=oi hm;refine q_sw 2 0 (q_sw 3 1 ?_);exact q_rt q_rm
open Go.Proofs Go.Proofs.Tryz
def q0h (r:Bool):V:=vb r
def q0v (r:Bool):List (Nat×(Nat×O)):=[]
def qUM (x5:Bool):St:=
 ⟨[(6,vb x5)],[]⟩
theorem qZf (a1:qA) (a2:qA) (a3:Int) (r:Bool) (hm:qFq a1 a2 a3=some r):CtX Tryz.prog globs 150 0 0 [.agg (qB a1),.agg (qB a2),.one (ci a3)] [] (q0h r) (q0v r):=by
 unfold qFq at hm;refine q_E f150 35 λE=>?_;refine s_vn [] 0 ⟨[(2,vi a3),(3,vp 0 0),(4,vp 1 0)],[(0,bx 93 (qB a1)),(1,bx 93 (qB a2))]⟩ (q_jn (qUM) (λp=>qCJ p=some r) ?_ ?_)
 ·rintro x5 hm;obtain rfl:=oi hm;exact q_rt q_rm
 ·rcases bif_c hm with⟨b4,hm⟩|⟨b4,hm⟩
  ·exact q_vn [qf 13 b4] 2 ⟨[(6,vb true)],[]⟩ (q_J (true) hm)
  ·exact q_vn [qf 13 b4] 2 ⟨[(6,vb (decide ((imax (w64 (a1.Y-a2.Y)) (w64 (a2.Y-a1.Y)))>a3)))],[]⟩ (q_J (decide ((imax (w64 (a1.Y-a2.Y)) (w64 (a2.Y-a1.Y)))>a3)) hm)
def qRz (r:(List Int)):V:=vo 0 0 1 r.length
def qR6 (r:(List Int)):List (Nat×(Nat×O)):=[(0,ro 0 3 1 r.length (rf qF r))]
def qDu (a1:Ring) (x3:Int) (l8:List Int) (l8n:Nat):St:=
 ⟨[(3,vo 1 0 1 l8n),(7,vc (tl qQ dd a1.Read)),(8,vi (a1.Read.length:Int)),(9,vi x3)],[(1,ro 0 3 1 l8n (rf qF l8))]⟩
def NY (a1:Ring) (l2:List Int) (l2n:Nat) (x3:Int):St:=
 ⟨[(3,vo 1 0 1 l2n),(7,vc (tl qQ dd a1.Read)),(8,vi (a1.Read.length:Int)),(9,vi x3)],[(1,ro 0 3 1 l2n (rf qF l2))]⟩
def qDd (l9:List Int):St:=
 ⟨[(3,vo 1 0 1 l9.length)],[(1,ro 0 3 1 l9.length (rf qF l9))]⟩
theorem qKD (E:Env 0) (a1:Ring):∀(n:Nat) (l2:List Int) (l2n:Nat) (x3:Int) (res:(List Int)),l2.length=l2n->yU a1 n l2 x3=some res->HL (kx E 22 0) (nd f146 116) (zF 0 qDd res) n (NY a1 l2 l2n x3):=by
 intro n
 induction n with
 |zero=>
  intro l2 l2n x3 res hl0 hm;cases hm
 |succ n ih=>
  intro l2 l2n x3 res hl0 hm;subst hl0;refine qR (s_va 2 [(10,vb (decide (x3<(a1.Read.length:Int))))] ?_);refine q_sq (q_cq hm (λhm=>?_) (λhm=>?_))
  ·refine q_sk (q_jn (ι:=(List Int)×Nat) (λp=>qDu a1 x3 p.1 p.2) (λp=>p.1.length=p.2/\VN x3 (yU a1 n) p.1=some res) ?_ ?_)
   ·rintro⟨l8,l8n⟩ ⟨el8,hm⟩;replace el8:l8.length=l8n:=el8;subst el8;show H _ (qDu a1 x3 l8 l8.length) _ _;exact q_vv [] 4 [9] [(9,vi (w64 (x3+1)))] (q_hl (NY a1 l8 l8.length (w64 (x3+1))) (ih l8 l8.length (w64 (x3+1)) _ rfl hm))
   ·refine q_bk 1 ?_;obtain⟨g5,hm⟩:=qI hm;refine s_vu [qi 1 g5] 2 [10] [(4,vi x3),(5,vp 2 0)] [] [(2,bx 95 (qQ (a1.Read.getD x3.toNat dd)))] (s_vu [] 3 [5] [(15,vb ((a1.Read.getD x3.toNat dd).Ok))] [2] [] ?_);refine q_cq hm (λhm=>?_) (λhm=>?_)
    ·obtain⟨g7,hm⟩:=qI hm;exact q_vu [qd 2 (drw 3 0 (rf qF [x3])) (litP qF dd 1 (λ_=>rfl) ([x3]:List Int) 1 rfl),qd 3 (drw 1 1 (rf qF (l2++[x3]))) (apP qF dd l2 ([x3]:List Int) l2.length 1 1 8 (1<=1) (kd _) rfl rfl (λ_=>rfl) (zN g7))] 3 [3,4,15] [(3,vo 1 1 1 (l2.length+1))] [1] [(1,ro 1 3 1 (l2.length+1) (rf qF (l2++[x3])))] (q_J ((l2++[x3]),(l2.length+1)) ⟨(zH rfl rfl),hm⟩)
    ·exact q_sk (q_J (l2,l2.length) ⟨rfl,hm⟩)
  ·refine q_ex 0 ?_;obtain rfl:=oi hm;exact q_l0
theorem IN (a1:Ring) (r:(List Int)) (hm:YJ a1=some r):CtX Tryz.prog globs 146 0 0 [.agg (qU a1)] [] (qRz r) (qR6 r):=by
 unfold YJ at hm;refine q_E f146 22 λE=>?_;refine s_vn [] 0 ⟨[(1,vp 0 0)],[(0,bx 71 (qU a1))]⟩ (s_va 1 [(3,vc (.emp))] ?_);refine q_sq (s_vu [] 1 [1] [(7,vc (tl qQ dd a1.Read)),(8,vi (a1.Read.length:Int)),(9,vi 0)] [0] [] ?_);refine q_fo 3 1 3 1 qF ?_;obtain⟨o10,h11,hm⟩:=qC hm;refine zB (nd f146 116) 0 (by kernel_rfl) FUEL qDd o10 (q_hl (NY a1 ([]:List Int) 0 0) (qKD E a1 FUEL ([]:List Int) 0 0 o10 rfl h11)) (s_vv [] 2 [3] [(2,vo 1 0 1 o10.length)] ?_);obtain rfl:=oi hm;exact q_sw 1 0 (q_rt q_rm)
def qWz (r:Ring):V:=va [ci r.Z,.own 0 0 3 r.Read.length]
def qW6 (r:Ring):List (Nat×(Nat×O)):=[(0,ro 0 95 3 r.Read.length (rf qQ r.Read))]
def XB (a1:Ring) (a2:Int) (v5:(List Int)) (x13:Int):St:=
 ⟨[(1,vi a2),(2,vp 0 0),(4,vp 1 0),(5,vp 3 0),(6,vo 4 0 1 v5.length),(30,vo 4 0 1 v5.length),(31,vi (v5.length:Int)),(32,vi x13)],[(0,bx 71 (qU a1)),(1,bx 71 [ci 0,.emp]),(4,ro 0 3 1 v5.length (rf qF v5))]⟩
def qSd (a1:Ring) (a2:Int) (v3:Ring) (v5:(List Int)) (x13:Int) (l14:List qL) (x18:Int) (x28:Bool):St:=
 (XB a1 a2 v5 x13).up [] [(7,vi x13),(8,vi (v5.getD x13.toNat dd)),(9,vb x28),(37,va [ci (-1),ci 1]),(38,vi x18)] [] [(2,ro 0 95 3 l14.length (rf qQ l14)),(3,bx 71 [ci v3.Z,.own 2 0 3 l14.length])]
def qAY (a1:Ring) (a2:Int) (v3:Ring) (v5:(List Int)) (x13:Int) (l14:List qL) (x17:Bool) (x18:Int):St:=
 (XB a1 a2 v5 x13).up [] [(7,vi x13),(8,vi (v5.getD x13.toNat dd)),(9,vb x17),(37,va [ci (-1),ci 1]),(38,vi x18)] [] [(2,ro 0 95 3 l14.length (rf qQ l14)),(3,bx 71 [ci v3.Z,.own 2 0 3 l14.length])]
def qGE (a1:Ring) (a2:Int) (v3:Ring) (v5:(List Int)) (x13:Int) (l14:List qL) (x29:Bool):St:=
 (XB a1 a2 v5 x13).up [] [(8,vi (v5.getD x13.toNat dd)),(9,vb x29)] [] [(2,ro 0 95 3 l14.length (rf qQ l14)),(3,bx 71 [ci v3.Z,.own 2 0 3 l14.length])]
def qHb (a1:Ring) (a2:Int) (v3:Ring) (v5:(List Int)) (x13:Int) (l34:List qL) (l34n:Nat):St:=
 (XB a1 a2 v5 x13).up [] [] [] [(2,ro 0 95 3 l34n (rf qQ l34)),(3,bx 71 [ci v3.Z,.own 2 0 3 l34n])]
def qBp (a1:Ring) (a2:Int) (v3:Ring) (v5:(List Int)) (x13:Int) (l14:List qL) (l14n:Nat):St:=
 (XB a1 a2 v5 x13).up [] [] [] [(2,ro 0 95 3 l14n (rf qQ l14)),(3,bx 71 [ci v3.Z,.own 2 0 3 l14n])]
def qHa (v3:Ring) (l35:List qL):St:=
 ⟨[(4,vp 1 0),(5,vp 3 0)],[(1,bx 71 [ci 0,.emp]),(2,ro 0 95 3 l35.length (rf qQ l35)),(3,bx 71 [ci v3.Z,.own 2 0 3 l35.length])]⟩
def qP8 (a1:Ring) (a2:Int) (v3:Ring) (v5:(List Int)) (x11:Bool):St:=
 ⟨[(1,vi a2),(2,vp 0 0),(4,vp 1 0),(5,vp 3 0),(6,vo 4 0 1 v5.length),(28,vb x11)],[(0,bx 71 (qU a1)),(1,bx 71 [ci 0,.emp]),(2,ro 0 95 3 v3.Read.length (rf qQ v3.Read)),(3,bx 71 [ci v3.Z,.own 2 0 3 v3.Read.length]),(4,ro 0 3 1 v5.length (rf qF v5))]⟩
theorem qPt (E:Env 0) (a1:Ring) (a2:Int) (v3:Ring) (v5:(List Int)) (x13:Int) (l14:List qL):∀(n:Nat) (x17:Bool) (x18:Int) (res:Bool),jQ a1 a2 v5 x13 n x17 x18=some res->HL (kx E 79 0) (nd f89 512820) (zF 2 (λo=>qGE a1 a2 v3 v5 x13 l14 o) res) n (qAY a1 a2 v3 v5 x13 l14 x17 x18):=by
 intro n
 induction n with
 |zero=>
  intro x17 x18 res hm;cases hm
 |succ n ih=>
  intro x17 x18 res hm;refine qR (s_va 5 [(39,vb (decide (x18<2)))] ?_);refine q_sq (q_cq hm (λhm=>?_) (λhm=>?_))
  ·refine q_sk (q_jn (qSd a1 a2 v3 v5 x13 l14 x18) (λp=>AW x18 (jQ a1 a2 v5 x13 n) p=some res) ?_ ?_)
   ·rintro x28 hm;exact q_vv [] 6 [38] [(38,vi (w64 (x18+1)))] (q_hl (qAY a1 a2 v3 v5 x13 l14 x28 (w64 (x18+1))) (ih x28 (w64 (x18+1)) _ hm))
   ·refine q_bk 3 ?_;obtain⟨g20,hm⟩:=qI hm;refine s_vv [qi 0 g20] 5 [39] [(11,vi (([(-1),1]:List Int).getD x18.toNat 0))] ?_;obtain⟨g21,hm⟩:=qI hm;obtain⟨g22,hm⟩:=qI hm;obtain⟨g23,hm⟩:=qI hm;refine s_du [qd 11 dN (JK g21),qi 12 g22,qd 13 dN (qW (zD g22)),qi 14 g23] [0,1,0,0,0,16,56,0,248,0,512,2040,4092,8188,16383,32767,65535,0,262143] 5 [11] [(12,vp 5 0)] [] [(5,bx 93 (qB ((a1.Read.getD (v5.getD ((Int.tmod (w64 ((w64 (x13+(v5.length:Int)))+(([(-1),1]:List Int).getD x18.toNat 0))) (v5.length:Int)).toNat) dd).toNat dd).P)))] ?_;rcases bif_c hm with⟨b24,hm⟩|⟨b24,hm⟩
    ·obtain⟨g25,hm⟩:=qI hm;obtain⟨v26,h27,hm⟩:=qC hm
     refine q_du [qf 1 b24,qi 5 g25,qk 10 [59,65,66,67] 6 ⟨[(59,vb true),(65,va [ci (((a1.Read.getD (v5.getD x13.toNat dd).toNat dd).P).X),ci (((a1.Read.getD (v5.getD x13.toNat dd).toNat dd).P).Y)]),(66,va [ci (((a1.Read.getD (v5.getD ((Int.tmod (w64 ((w64 (x13+(v5.length:Int)))+(([(-1),1]:List Int).getD x18.toNat 0))) (v5.length:Int)).toNat) dd).toNat dd).P).X),ci (((a1.Read.getD (v5.getD ((Int.tmod (w64 ((w64 (x13+(v5.length:Int)))+(([(-1),1]:List Int).getD x18.toNat 0))) (v5.length:Int)).toNat) dd).toNat dd).P).Y)]),(67,vi a2)],[]⟩ (qZf ((a1.Read.getD (v5.getD x13.toNat dd).toNat dd).P) ((a1.Read.getD (v5.getD ((Int.tmod (w64 ((w64 (x13+(v5.length:Int)))+(([(-1),1]:List Int).getD x18.toNat 0))) (v5.length:Int)).toNat) dd).toNat dd).P) a2 v26 h27)] [0,1,3,7,3,31,63,127,3,3,1023,2047,4095] 6 [9,12] [(9,vb v26)] [5] [] ?_
     exact q_J (v26) hm
    ·exact q_du [qf 1 b24] [0,1,3,7,3,31,63,127,3,3,1023,2047,4095] 6 [9,12] [(9,vb false)] [5] [] (q_J (false) hm)
  ·refine q_ex 2 ?_;obtain rfl:=oi hm;exact q_l0
theorem qPV (E:Env 0) (a1:Ring) (a2:Int) (v3:Ring) (v5:(List Int)):∀(n:Nat) (x13:Int) (l14:List qL) (l14n:Nat) (res:(List qL)),l14.length=l14n->WO a1 a2 v5 n x13 l14=some res->HL (kx E 79 0) (nd f89 500) (zF 0 (λo=>qHa v3 o) res) n (qBp a1 a2 v3 v5 x13 l14 l14n):=by
 intro n
 induction n with
 |zero=>
  intro x13 l14 l14n res hl0 hm;cases hm
 |succ n ih=>
  intro x13 l14 l14n res hl0 hm;subst hl0;refine qR (s_va 5 [(33,vb (decide (x13<(v5.length:Int))))] ?_);refine q_sq (q_cq hm (λhm=>?_) (λhm=>?_))
  ·refine q_sk (q_jn (ι:=(List qL)×Nat) (λp=>qHb a1 a2 v3 v5 x13 p.1 p.2) (λp=>p.1.length=p.2/\AO x13 (WO a1 a2 v5 n) p.1=some res) ?_ ?_)
   ·rintro⟨l34,l34n⟩ ⟨el34,hm⟩;replace el34:l34.length=l34n:=el34;subst el34;show H _ (qHb a1 a2 v3 v5 x13 l34 l34.length) _ _;exact q_vv [] 5 [32] [(32,vi (w64 (x13+1)))] (q_hl (qBp a1 a2 v3 v5 (w64 (x13+1)) l34 l34.length) (ih (w64 (x13+1)) l34 l34.length _ rfl hm))
   ·refine q_bk 1 ?_;obtain⟨g16,hm⟩:=qI hm;refine s_vv [qi 1 g16,qd 2 dN (qW (zD g16))] 5 [33] [(7,vi x13),(8,vi (v5.getD x13.toNat dd))] (s_va 5 [(9,vb true)] ?_);refine q_sq (s_va 5 [(37,va [ci (-1),ci 1]),(38,vi 0)] ?_);obtain⟨o30,h31,hm⟩:=qC hm;refine zB (nd f89 512820) 2 (by kernel_rfl) FUEL (λo=>qGE a1 a2 v3 v5 x13 l14 o) o30 (q_hl (qAY a1 a2 v3 v5 x13 l14 true 0) (qPt E a1 a2 v3 v5 x13 l14 FUEL true 0 o30 h31)) (s_vv [] 5 [9] [(71,vb o30)] ?_);refine q_cq hm (λhm=>?_) (λhm=>?_)
    ·obtain⟨g33,hm⟩:=qI hm;exact q_vu [qi 4 g33,qd 5 (drw 0 0 (rf qQ (l14.set ((v5.getD x13.toNat dd).toNat) (qL.mk (qA.mk 0 0) false)))) (stP qQ dd (qL.mk (qA.mk 0 0) false) l14 l14.length ((v5.getD x13.toNat dd).toNat) 0 [ci 0,ci 0,cb false] rfl (qW (zD g33)) rfl)] 5 [8,71] [] [2] [(2,ro 0 95 3 l14.length (rf qQ (l14.set ((v5.getD x13.toNat dd).toNat) (qL.mk (qA.mk 0 0) false))))] (q_J ((l14.set ((v5.getD x13.toNat dd).toNat) (qL.mk (qA.mk 0 0) false)),l14.length) ⟨(jI rfl),hm⟩)
    ·exact q_sk (q_J (l14,l14.length) ⟨rfl,hm⟩)
  ·refine q_ex 0 ?_;obtain rfl:=oi hm;exact q_l0
theorem qUN (a1:Ring) (a2:Int) (r:Ring) (hm:qAz a1 a2=some r):CtX Tryz.prog globs 89 0 0 [.agg (qU a1),.one (ci a2)] [] (qWz r) (qW6 r):=by
 unfold qAz at hm;refine q_E f89 79 λE=>?_;refine s_vn [] 0 ⟨[(1,vi a2),(2,vp 0 0),(4,vp 1 0)],[(0,bx 71 (qU a1)),(1,bx 71 [ci 0,.emp])]⟩ ?_;obtain⟨v3,h4,hm⟩:=qC hm;refine s_vu [qc 1 [13] 2 (qKs a1 v3 h4)] 2 [] [(5,vp 3 0)] [] [(2,ro 0 95 3 v3.Read.length (rf qQ v3.Read)),(3,bx 71 [ci v3.Z,.own 2 0 3 v3.Read.length])] ?_;obtain⟨v5,h6,hm⟩:=qC hm;refine s_vu [qc 1 [15] 4 (IN a1 v5 h6)] 4 [] [(6,vo 4 0 1 v5.length)] [] [(4,ro 0 3 1 v5.length (rf qF v5))] (q_sq ?_);refine q_jn (qP8 a1 a2 v3 v5) (λp=>DN a1 a2 v3 v5 p=some r) ?_ ?_
 ·rintro x11 hm;refine q_cq hm (λhm=>?_) (λhm=>?_)
  ·refine s_vu [] 5 [1,2,5,6,28] [] [0,1,3,4] [(1,bx 71 [ci v3.Z,.own 2 0 3 v3.Read.length])] ?_;obtain rfl:=oi hm;exact q_sw 2 0 (q_rt q_rm)
  ·refine q_sk (q_sq ?_);refine s_vv [] 5 [28] [(30,vo 4 0 1 v5.length),(31,vi (v5.length:Int)),(32,vi 0)] ?_;obtain⟨o36,h37,hm⟩:=qC hm;refine zB (nd f89 500) 0 (by kernel_rfl) FUEL (λo=>qHa v3 o) o36 (q_hl (qBp a1 a2 v3 v5 0 v3.Read v3.Read.length) (qPV E a1 a2 v3 v5 FUEL 0 v3.Read v3.Read.length o36 rfl h37)) (s_vu [] 5 [5] [] [1,3] [(1,bx 71 [ci v3.Z,.own 2 0 3 o36.length])] ?_);obtain rfl:=oi hm;exact q_sw 2 0 (q_rt q_rm)
 ·rcases bif_c hm with⟨b7,hm⟩|⟨b7,hm⟩
  ·exact q_vv [qf 2 b7] 5 [] [(28,vb true)] (q_J (true) hm)
  ·rcases bif_c hm with⟨b8,hm⟩|⟨b8,hm⟩
   ·exact q_vv [qf 2 b7,qf 7 b8] 5 [] [(28,vb true)] (q_J (true) hm)
   ·obtain⟨v9,h10,hm⟩:=qC hm;exact q_vv [qf 2 b7,qf 7 b8,qk 9 [24,25] 5 ⟨[(24,vb false),(25,va (qU a1))],[]⟩ (IC a1 v9 h10)] 5 [] [(28,vb (v9 !=0))] (q_J (v9 !=0) hm)
open Go.Proofs Go.Proofs.Tryz
def qW0 (r:Int):V:=vi r
def qW3 (r:Int):List (Nat×(Nat×O)):=[]
def qRr (x5:Int):St:=
 ⟨[(5,vi x5)],[]⟩
theorem qKj (a1:Int) (a2:Int) (r:Int) (hm:HH a1 a2=some r):CtX Tryz.prog globs 149 0 0 [.one (ci a1),.one (ci a2)] [] (qW0 r) (qW3 r):=by
 unfold HH at hm;refine q_E f149 16 λE=>?_;refine s_vn [] 0 ⟨[(0,vi a1),(1,vi a2)],[]⟩ ?_;obtain⟨g3,hm⟩:=qI hm;refine s_vv [qd 2 dN (JK g3)] 0 [] [(5,vi (w64 (Int.tdiv a1 a2)))] (q_jn (qRr) (λp=>IA p=some r) ?_ ?_)
 ·rintro x5 hm;refine s_vn [] 0 ⟨[(4,vi x5)],[]⟩ ?_;obtain rfl:=oi hm;exact q_rt q_rm
 ·refine s_vv [qd 2 dN (JK g3)] 0 [0,1] [(12,vb (decide ((Int.tmod a1 a2)<0)))] (q_cq hm (λhm=>?_) (λhm=>?_))
  ·exact q_vn [] 0 ⟨[(5,vi (w64 ((w64 (Int.tdiv a1 a2))-1)))],[]⟩ (q_J (w64 ((w64 (Int.tdiv a1 a2))-1)) hm)
  ·exact q_sk (q_J (w64 (Int.tdiv a1 a2)) hm)
def qD8 (r:Int):V:=vi r
def DI (r:Int):List (Nat×(Nat×O)):=[]
theorem qKg (r:Int):wQ (DI r):=by
 intro i k o h;unfold DI at h;cases h
theorem qI4 (a1:Ring) (a2:List Int) (a3:Int) (r:Int) (hm:DQ a1 a2 a3=some r):CtX Tryz.prog globs 148 0 0 [.agg (qU a1),.one (tl qF dd a2),.one (ci a3)] [] (qD8 r) (DI r):=by
 unfold DQ at hm;refine q_E f148 36 λE=>?_;refine s_vn [] 0 ⟨[(1,vc (tl qF dd a2)),(2,vi a3),(3,vp 0 0)],[(0,bx 71 (qU a1))]⟩ (q_sq ?_);refine s_va 1 [(11,vb (decide ((w64 (a3+1))<(a2.length:Int))))] (q_cq hm (λhm=>?_) (λhm=>?_))
 ·obtain⟨g5,hm⟩:=qI hm;obtain⟨g6,hm⟩:=qI hm;refine s_dn [qi 3 g5,qi 7 g6] [0,0,2,7,15,0,0,96,224,511,1023,2047] 1 ⟨[(6,vi (w64 ((w64 ((a2.getD (w64 (a3+1)).toNat dd)-(a2.getD a3.toNat dd)))-1)))],[]⟩ ?_;obtain rfl:=oi hm;exact q_rt q_rm
 ·refine q_sk ?_;obtain⟨g7,hm⟩:=qI hm;obtain⟨g8,hm⟩:=qI hm;refine s_dn [qi 1 g7,qi 9 g8] [0,1,3,0,8,24,63,0,0,384,896,2047,4095,8191] 1 ⟨[(6,vi (w64 ((w64 ((w64 ((a2.getD (0:Int).toNat dd)+(a1.Read.length:Int)))-(a2.getD a3.toNat dd)))-1)))],[]⟩ ?_;obtain rfl:=oi hm;exact q_rt q_rm
def qYE (r:Int×Int):V:= .tup [.one (ci r.1),.one (ci r.2)]
def qYU (r:Int×Int):List (Nat×(Nat×O)):=[]
def qBM (a1:Ring) (v2:(List Int)) (x5:Int) (x6:Int):St:=
 ⟨[(1,vp 0 0),(4,vo 1 0 1 v2.length),(5,vi (w64 ((a1.Read.length:Int)-(v2.length:Int)))),(6,vi x5),(22,vi (v2.length:Int)),(23,vi x6)],[(0,bx 71 (qU a1)),(1,ro 0 3 1 v2.length (rf qF v2))]⟩
def qIL (a1:Ring) (v2:(List Int)) (x10:Int):St:=
 ⟨[(5,vi (w64 ((a1.Read.length:Int)-(v2.length:Int)))),(6,vi x10)],[]⟩
theorem qSb (E:Env 0) (a1:Ring) (v2:(List Int)):∀(n:Nat) (x5:Int) (x6:Int) (res:Int),UD a1 v2 n x5 x6=some res->HL (kx E 35 0) (nd f147 1012) (zF 0 (λo=>qIL a1 v2 o) res) n (qBM a1 v2 x5 x6):=by
 intro n
 induction n with
 |zero=>
  intro x5 x6 res hm;cases hm
 |succ n ih=>
  intro x5 x6 res hm;refine qR (s_va 2 [(24,vb (decide (x6<(v2.length:Int))))] ?_);refine q_sq (q_cq hm (λhm=>?_) (λhm=>?_))
  ·refine q_sk (q_sq ?_);refine q_bk 1 (s_vv [] 2 [24] [(7,vi x6)] ?_);obtain⟨v8,h9,hm⟩:=qC hm;refine q_vv [qd 4 (dex (cen [] [] 2 0 (qD8 v8) (DI v8) [27,28,29] [1])) (zW (K:=(kx E 35 0)) (b:=false) ⟨[(27,va (qU a1)),(28,vo 1 0 1 v2.length),(29,vi x6)],[(1,ro 0 3 1 v2.length (rf qF v2))]⟩ (opAt (rg f147 32409) 4) [] [] 2 (o1 (kd v2.length)) rfl (qI4 a1 v2 x6 v8 h9) (.inr ⟨(by kernel_rfl),qKg v8⟩) (by kernel_rfl))] 2 [6,7] [(6,vi (imax x5 v8))] (q_vv [] 2 [23] [(23,vi (w64 (x6+1)))] ?_);exact q_hl (qBM a1 v2 (imax x5 v8) (w64 (x6+1))) (ih (imax x5 v8) (w64 (x6+1)) _ hm)
  ·refine q_ex 0 ?_;obtain rfl:=oi hm;exact q_l0
theorem qX2 (a1:Ring) (r:Int×Int) (hm:CH a1=some r):CtX Tryz.prog globs 147 0 0 [.agg (qU a1)] [] (qYE r) (qYU r):=by
 unfold CH at hm;refine q_E f147 35 λE=>?_;refine s_vn [] 0 ⟨[(1,vp 0 0)],[(0,bx 71 (qU a1))]⟩ ?_;obtain⟨v2,h3,hm⟩:=qC hm;refine s_vu [qc 1 [8] 1 (IN a1 v2 h3)] 1 [] [(4,vo 1 0 1 v2.length)] [] [(1,ro 0 3 1 v2.length (rf qF v2))] (s_va 2 [(5,vi (w64 ((a1.Read.length:Int)-(v2.length:Int))))] ?_);refine q_sq (s_va 2 [(18,vb ((v2.length:Int)==0))] ?_);refine q_cq hm (λhm=>?_) (λhm=>?_)
 ·refine s_vn [] 2 ⟨[(2,vi (w64 ((a1.Read.length:Int)-(v2.length:Int)))),(3,vi (w64 ((a1.Read.length:Int)-(v2.length:Int))))],[]⟩ ?_;obtain rfl:=oi hm;exact q_rt q_rm
 ·refine q_sk (s_vv [] 2 [18] [(6,vi 0)] ?_);refine q_sq (s_va 2 [(22,vi (v2.length:Int)),(23,vi 0)] ?_);obtain⟨o11,h12,hm⟩:=qC hm;refine zB (nd f147 1012) 0 (by kernel_rfl) FUEL (λo=>qIL a1 v2 o) o11 (q_hl (qBM a1 v2 0 0) (qSb E a1 v2 FUEL 0 0 o11 h12)) (s_vn [] 2 ⟨[(2,vi (w64 ((a1.Read.length:Int)-(v2.length:Int)))),(3,vi o11)],[]⟩ ?_);obtain rfl:=oi hm;exact q_rt q_rm
open Go.Proofs Go.Proofs.Tryz
def qKr (r:(List qA)×Int):V:= .tup [.one (.own 0 0 2 r.1.length),.one (ci r.2)]
def AN (r:(List qA)×Int):List (Nat×(Nat×O)):=[(0,ro 0 93 2 r.1.length (rf qB r.1))]
theorem qVH (r:(List qA)×Int):wQ (AN r):=by
 intro i k o h;unfold AN at h;rw[look_cons] at h;split at h
 ·cases h;exact λ_ _=>rfl
 ·cases h
def FG (a1:Ring) (v6:(List Int)) (x16:Int):St:=
 ⟨[(2,vp 0 0),(7,vo 1 0 1 v6.length),(45,vo 1 0 1 v6.length),(46,vi (v6.length:Int)),(47,vi x16)],[(0,bx 71 (qU a1)),(1,ro 0 3 1 v6.length (rf qF v6))]⟩
def IK (a1:Ring) (v6:(List Int)) (x16:Int) (v24:Int) (l26:List qA) (l26n:Nat) (x27:Int):St:=
 (FG a1 v6 x16).up [] [(10,vo 2 0 2 l26n),(12,vi (v6.getD x16.toNat dd)),(13,vp 3 0),(14,vp 4 0),(15,vi v24),(16,vi x27)] [] [(2,ro 0 93 2 l26n (rf qB l26)),(3,bx 93 (qB ((a1.Read.getD (v6.getD x16.toNat dd).toNat dd).P))),(4,bx 93 (qB ((a1.Read.getD (v6.getD ((Int.tmod (w64 (x16+1)) (v6.length:Int)).toNat) dd).toNat dd).P)))]
def qFm (a1:Ring) (v6:(List Int)) (x16:Int) (l35:List qA):St:=
 (FG a1 v6 x16).up [] [(10,vo 2 0 2 l35.length)] [] [(2,ro 0 93 2 l35.length (rf qB l35))]
def zbQ (a1:Ring) (v6:(List Int)) (l15:List qA) (l15n:Nat) (x16:Int):St:=
 (FG a1 v6 x16).up [] [(10,vo 2 0 2 l15n)] [] [(2,ro 0 93 2 l15n (rf qB l15))]
def qFv (l38:List qA):St:=
 ⟨[(10,vo 2 0 2 l38.length)],[(2,ro 0 93 2 l38.length (rf qB l38))]⟩
def qOT (a1:Ring) (v6:(List Int)) (x12:Bool):St:=
 ⟨[(2,vp 0 0),(7,vo 1 0 1 v6.length),(40,vb x12)],[(0,bx 71 (qU a1)),(1,ro 0 3 1 v6.length (rf qF v6))]⟩
theorem qNE (E:Env 0) (a1:Ring) (v6:(List Int)) (x16:Int) (v24:Int):∀(n:Nat) (l26:List qA) (l26n:Nat) (x27:Int) (res:(List qA)),l26.length=l26n->XY a1 v6 x16 v24 n l26 x27=some res->HL (kx E 121 0) (nd f88 4171388) (zF 2 (λo=>qFm a1 v6 x16 o) res) n (IK a1 v6 x16 v24 l26 l26n x27):=by
 intro n
 induction n with
 |zero=>
  intro l26 l26n x27 res hl0 hm;cases hm
 |succ n ih=>
  intro l26 l26n x27 res hl0 hm;subst hl0;refine qR (q_sq ?_);refine s_va 5 [(81,vb (decide (x27<=v24)))] (q_cq hm (λhm=>?_) (λhm=>?_))
  ·refine q_sk (q_sq ?_);refine q_bk 3 ?_;obtain⟨g29,hm⟩:=qI hm;obtain⟨v30,h31,hm⟩:=qC hm;obtain⟨v32,h33,hm⟩:=qC hm;obtain⟨g34,hm⟩:=qI hm
   refine q_du [qd 6 dN (JK g29),qc 18 [99,101] 5 (qKj (w64 ((w64 ((((a1.Read.getD (v6.getD ((Int.tmod (w64 (x16+1)) (v6.length:Int)).toNat) dd).toNat dd).P).X)-(((a1.Read.getD (v6.getD x16.toNat dd).toNat dd).P).X)))*x27)) (w64 (v24+1)) v30 h31),qc 31 [112,114] 5 (qKj (w64 ((w64 ((((a1.Read.getD (v6.getD ((Int.tmod (w64 (x16+1)) (v6.length:Int)).toNat) dd).toNat dd).P).Y)-(((a1.Read.getD (v6.getD x16.toNat dd).toNat dd).P).Y)))*x27)) (w64 (v24+1)) v32 h33),qi 34 g34,qd 35 (drw 0 0 (rf qB (l26.set ((Int.tmod (w64 ((v6.getD x16.toNat dd)+x27)) (l26.length:Int)).toNat) (qA.mk (w64 ((((a1.Read.getD (v6.getD x16.toNat dd).toNat dd).P).X)+v30)) (w64 ((((a1.Read.getD (v6.getD x16.toNat dd).toNat dd).P).Y)+v32)))))) (stP qB dd (qA.mk (w64 ((((a1.Read.getD (v6.getD x16.toNat dd).toNat dd).P).X)+v30)) (w64 ((((a1.Read.getD (v6.getD x16.toNat dd).toNat dd).P).Y)+v32))) l26 l26.length ((Int.tmod (w64 ((v6.getD x16.toNat dd)+x27)) (l26.length:Int)).toNat) 0 [ci (w64 ((((a1.Read.getD (v6.getD x16.toNat dd).toNat dd).P).X)+v30)),ci (w64 ((((a1.Read.getD (v6.getD x16.toNat dd).toNat dd).P).Y)+v32))] rfl (qW (zD g34)) rfl)] [0,0,0,6,0,16,62,0,128,0,512,0,2048,7680,0,32256,0,65536,261632,524160,0,1048576,0,4194304,0,16777216,62914560,0,264241152,0,536870912,2143813120,4294442496,8589934464,17179869183,34359738367] 5 [81] [] [2] [(2,ro 0 93 2 l26.length (rf qB (l26.set ((Int.tmod (w64 ((v6.getD x16.toNat dd)+x27)) (l26.length:Int)).toNat) (qA.mk (w64 ((((a1.Read.getD (v6.getD x16.toNat dd).toNat dd).P).X)+v30)) (w64 ((((a1.Read.getD (v6.getD x16.toNat dd).toNat dd).P).Y)+v32))))))] ?_
   exact q_vv [] 5 [16] [(16,vi (w64 (x27+1)))] (q_hl (IK a1 v6 x16 v24 (l26.set ((Int.tmod (w64 ((v6.getD x16.toNat dd)+x27)) (l26.length:Int)).toNat) (qA.mk (w64 ((((a1.Read.getD (v6.getD x16.toNat dd).toNat dd).P).X)+v30)) (w64 ((((a1.Read.getD (v6.getD x16.toNat dd).toNat dd).P).Y)+v32)))) l26.length (w64 (x27+1))) (ih (l26.set ((Int.tmod (w64 ((v6.getD x16.toNat dd)+x27)) (l26.length:Int)).toNat) (qA.mk (w64 ((((a1.Read.getD (v6.getD x16.toNat dd).toNat dd).P).X)+v30)) (w64 ((((a1.Read.getD (v6.getD x16.toNat dd).toNat dd).P).Y)+v32)))) l26.length (w64 (x27+1)) _ (jI rfl) hm))
  ·refine q_ex 2 ?_;obtain rfl:=oi hm;exact q_l0
theorem qNd (E:Env 0) (a1:Ring) (v6:(List Int)):∀(n:Nat) (l15:List qA) (l15n:Nat) (x16:Int) (res:(List qA)),l15.length=l15n->JE a1 v6 n l15 x16=some res->HL (kx E 121 0) (nd f88 2036) (zF 0 qFv res) n (zbQ a1 v6 l15 l15n x16):=by
 intro n
 induction n with
 |zero=>
  intro l15 l15n x16 res hl0 hm;cases hm
 |succ n ih=>
  intro l15 l15n x16 res hl0 hm;subst hl0;refine qR (s_va 3 [(48,vb (decide (x16<(v6.length:Int))))] ?_);refine q_sq (q_cq hm (λhm=>?_) (λhm=>?_))
  ·refine q_sk (q_sq ?_);refine q_bk 1 ?_;obtain⟨g18,hm⟩:=qI hm;refine s_vv [qi 1 g18,qd 2 dN (qW (zD g18))] 3 [48] [(11,vi x16),(12,vi (v6.getD x16.toNat dd))] ?_;obtain⟨g19,hm⟩:=qI hm;obtain⟨g20,hm⟩:=qI hm;obtain⟨g21,hm⟩:=qI hm;obtain⟨g22,hm⟩:=qI hm
   refine s_du [qi 3 g19,qd 13 dN (JK g20),qi 14 g21,qd 15 dN (qW (zD g21)),qi 16 g22] [0,1,0,7,15,31,0,64,0,0,512,0,2048,7680,16128,32512,65472,131008,262080,0,0,1572927,4194303] 3 [] [(13,vp 3 0),(14,vp 4 0)] [] [(3,bx 93 (qB ((a1.Read.getD (v6.getD x16.toNat dd).toNat dd).P))),(4,bx 93 (qB ((a1.Read.getD (v6.getD ((Int.tmod (w64 (x16+1)) (v6.length:Int)).toNat) dd).toNat dd).P)))] ?_;obtain⟨g23,hm⟩:=qI hm
   refine s_vu [qi 3 g23,qd 4 (drw 0 0 (rf qB (l15.set ((v6.getD x16.toNat dd).toNat) ((a1.Read.getD (v6.getD x16.toNat dd).toNat dd).P)))) (stP qB dd ((a1.Read.getD (v6.getD x16.toNat dd).toNat dd).P) l15 l15.length ((v6.getD x16.toNat dd).toNat) 0 [ci (((a1.Read.getD (v6.getD x16.toNat dd).toNat dd).P).X),ci (((a1.Read.getD (v6.getD x16.toNat dd).toNat dd).P).Y)] rfl (qW (zD g23)) rfl)] 5 [] [] [2] [(2,ro 0 93 2 l15.length (rf qB (l15.set ((v6.getD x16.toNat dd).toNat) ((a1.Read.getD (v6.getD x16.toNat dd).toNat dd).P))))] ?_;obtain⟨v24,h25,hm⟩:=qC hm
   refine s_vv [qd 3 (dex (cen [] [] 5 0 (qD8 v24) (DI v24) [75,76,77] [1])) (zW (K:=(kx E 121 0)) (b:=false) ⟨[(75,va (qU a1)),(76,vo 1 0 1 v6.length),(77,vi x16)],[(1,ro 0 3 1 v6.length (rf qF v6))]⟩ (opAt (rg f88 521422) 3) [] [] 5 (o1 (kd v6.length)) rfl (qI4 a1 v6 x16 v24 h25) (.inr ⟨(by kernel_rfl),qKg v24⟩) (by kernel_rfl))] 5 [11] [(15,vi v24)] (s_va 5 [(16,vi 1)] ?_);obtain⟨o36,h37,hm⟩:=qC hm
   refine zB (nd f88 4171388) 2 (by kernel_rfl) FUEL (λo=>qFm a1 v6 x16 o) o36 (q_hl (IK a1 v6 x16 v24 (l15.set ((v6.getD x16.toNat dd).toNat) ((a1.Read.getD (v6.getD x16.toNat dd).toNat dd).P)) l15.length 1) (qNE E a1 v6 x16 v24 FUEL (l15.set ((v6.getD x16.toNat dd).toNat) ((a1.Read.getD (v6.getD x16.toNat dd).toNat dd).P)) l15.length 1 o36 (jI rfl) h37)) (q_vv [] 5 [47] [(47,vi (w64 (x16+1)))] ?_);exact q_hl (zbQ a1 v6 o36 o36.length (w64 (x16+1))) (ih o36 o36.length (w64 (x16+1)) _ rfl hm)
  ·refine q_ex 0 ?_;obtain rfl:=oi hm;exact q_l0
theorem qTj (a1:Ring) (a2:Int) (r:(List qA)×Int) (hm:EK a1 a2=some r):CtX Tryz.prog globs 88 0 0 [.agg (qU a1),.one (ci a2)] [] (qKr r) (AN r):=by
 unfold EK at hm;refine q_E f88 121 λE=>?_;refine s_vn [] 0 ⟨[(1,vi a2),(2,vp 0 0)],[(0,bx 71 (qU a1))]⟩ (q_sq ?_);obtain⟨v3,h4,hm⟩:=qC hm;refine s_vv [qc 1 [17] 1 (IC a1 v3 h4)] 1 [] [(6,vi v3)] (s_va 1 [(20,vb (v3 !=0))] ?_);refine q_cq hm (λhm=>?_) (λhm=>?_)
 ·refine s_vn [] 1 ⟨[(4,vc (.emp)),(5,vi v3)],[]⟩ (q_fo 4 1 93 2 qB ?_);refine q_fl 4 1 93 2 qB ?_;obtain rfl:=oi hm;exact q_sw 1 0 (q_rt q_rm)
 ·refine q_sk ?_;obtain⟨v6,h7,hm⟩:=qC hm;refine s_vu [qc 1 [22] 1 (IN a1 v6 h7)] 1 [6,20] [(7,vo 1 0 1 v6.length)] [] [(1,ro 0 3 1 v6.length (rf qF v6))] ?_;obtain⟨v8,h9,hm⟩:=qC hm;refine s_vv [qc 1 [25] 2 (qX2 a1 v8 h9)] 2 [] [(8,vi v8.1),(9,vi v8.2)] (q_sq ?_);refine q_jn (qOT a1 v6) (λp=>TM a1 v6 p=some r) ?_ ?_
  ·rintro x12 hm;refine q_cq hm (λhm=>?_) (λhm=>?_)
   ·refine s_vn [] 2 ⟨[(4,vc (.emp)),(5,vi 30)],[]⟩ (q_fo 4 2 93 2 qB ?_);refine q_fl 4 2 93 2 qB ?_;obtain rfl:=oi hm;exact q_sw 2 0 (q_rt q_rm)
   ·refine q_sk ?_;obtain⟨g14,hm⟩:=qI hm;refine s_vu [qd 3 (drw 2 0 (rf qB (List.replicate ((a1.Read.length:Int).toNat) (qA.mk 0 0)))) (mkP qB dd (qA.mk 0 0) (a1.Read.length:Int) 16 [ci 0,ci 0] (UQ g14) rfl)] 2 [40] [(10,vo 2 0 2 ((a1.Read.length:Int).toNat))] [] [(2,ro 0 93 2 ((a1.Read.length:Int).toNat) (rf qB (List.replicate ((a1.Read.length:Int).toNat) (qA.mk 0 0))))] (q_sq ?_);refine s_va 3 [(45,vo 1 0 1 v6.length),(46,vi (v6.length:Int)),(47,vi 0)] ?_;obtain⟨o39,h40,hm⟩:=qC hm
    refine zB (nd f88 2036) 0 (by kernel_rfl) FUEL qFv o39 (q_hl (zbQ a1 v6 (List.replicate ((a1.Read.length:Int).toNat) (qA.mk 0 0)) ((a1.Read.length:Int).toNat) 0) (qNd E a1 v6 FUEL (List.replicate ((a1.Read.length:Int).toNat) (qA.mk 0 0)) ((a1.Read.length:Int).toNat) 0 o39 TV h40)) (s_vv [] 3 [10] [(4,vo 2 0 2 o39.length),(5,vi 0)] ?_);obtain rfl:=oi hm;exact q_sw 2 0 (q_rt q_rm)
  ·rcases bif_c hm with⟨b10,hm⟩|⟨b10,hm⟩
   ·exact q_vv [qf 3 b10] 2 [1,8,9] [(40,vb true)] (q_J (true) hm)
   ·rcases bif_c hm with⟨b11,hm⟩|⟨b11,hm⟩
    ·exact q_vv [qf 3 b10,qf 6 b11] 2 [1,8,9] [(40,vb (decide (v8.2>a2)))] (q_J (decide (v8.2>a2)) hm)
    ·exact q_vv [qf 3 b10,qf 6 b11] 2 [1,8,9] [(40,vb false)] (q_J (false) hm)
def qUV (r:Bool):V:=vb r
def qVG (r:Bool):List (Nat×(Nat×O)):=[]
def qOx (x3:Bool):St:=
 ⟨[(2,vb x3)],[]⟩
theorem qB9 (a1:Int) (r:Bool) (hm:BA a1=some r):CtX Tryz.prog globs 226 0 0 [.one (ci a1)] [] (qUV r) (qVG r):=by
 unfold BA at hm;refine q_E f226 9 λE=>?_;refine s_vn [] 0 ⟨[(0,vi a1)],[]⟩ (q_jn (qOx) (λp=>HO p=some r) ?_ ?_)
 ·rintro x3 hm;obtain rfl:=oi hm;exact q_rt q_rm
 ·rcases bif_c hm with⟨b2,hm⟩|⟨b2,hm⟩
  ·exact q_vn [qf 2 b2] 0 ⟨[(2,vb (decide (a1<=600)))],[]⟩ (q_J (decide (a1<=600)) hm)
  ·exact q_vn [qf 2 b2] 0 ⟨[(2,vb false)],[]⟩ (q_J (false) hm)
end Saw
end Go.SL

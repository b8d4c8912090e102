import Derived.Test.YtigmogcdifllhaaGreatDoorEBase
import Derived.Test.YtigmogcdifllhaaGreatDoorEFa1
set_option linter.unusedVariables false
set_option linter.unusedSimpArgs false
namespace Go.SL
namespace Saw
open Go.Proofs Go.Proofs.Tryz
set_option maxHeartbeats 4000000
set_option maxRecDepth 100000
def qUx (r:Scan):V:=va [.own 0 0 2 r.Rings.length,.own 1 0 7 r.Defects.length]
def qTd (r:Scan):List (Nat×(Nat×O)):=[(0,ro 0 71 2 r.Rings.length (rf qX r.Rings)),(1,ro 0 87 7 r.Defects.length (rf qI r.Defects))]
def CQ (v2:List Ring) (v4:List qF) (x6:Int) (l7:List Ring) (l7n:Nat):St:=
 ⟨[(2,vp 1 0),(3,vp 4 0),(14,vi (v2.length:Int)),(15,vi x6)],[(1,bx 25 [.emp,.emp]),(2,ro 0 71 2 l7n (rf qX l7)),(3,ro 0 87 7 v4.length (rf qI v4)),(4,bx 25 [.own 2 0 2 l7n,.own 3 0 7 v4.length])]⟩
def qFS (v4:List qF) (l15:List Ring):St:=
 ⟨[(2,vp 1 0),(3,vp 4 0)],[(1,bx 25 [.emp,.emp]),(2,ro 0 71 2 l15.length (rf qX l15)),(3,ro 0 87 7 v4.length (rf qI v4)),(4,bx 25 [.own 2 0 2 l15.length,.own 3 0 7 v4.length])]⟩
theorem qMg (E:Env 0) (v2:List Ring) (v4:List qF):∀(n:Nat) (x6:Int) (l7:List Ring) (l7n:Nat) (res:(List Ring)),l7.length=l7n->qCC v2 n x6 l7=some res->HL (kx E 32 0) (nd f38 116) (zM 0 (λo=>qFS v4 o) res) n (CQ v2 v4 x6 l7 l7n):=by
 intro n
 induction n with
 |zero=>
  intro x6 l7 l7n res hl0 hm;cases hm
 |succ n ih=>
  intro x6 l7 l7n res hl0 hm;subst hl0;refine qS (s_va 5 [(16,vb (decide (x6<(v2.length:Int))))] ?_);refine q_sq (q_cq hm (λhm=>?_) (λhm=>?_))
  ·refine q_sk (q_sq ?_);refine q_bk 1 (s_vv [] 5 [16] [(4,vi x6)] ?_);obtain⟨g12,hm⟩:=qJ hm;obtain⟨v13,h14,hm⟩:=qB hm
   refine q_du [qi 6 g12,qd 8 dN (qW (zC g12)),qc 9 [26] 5 (CtX.frz (x':=vc (tl qV dd v13)) (ob':=[]) (BV ((l7.getD x6.toNat dd).Read) v13 h14) 0 (o1 (ke v13.length)) (by kernel_rfl)),qi 10 g12,qd 12 (drw 0 0 (rf qX (l7.set x6.toNat (Ring.mk ((l7.getD x6.toNat dd).Z) v13)))) (stP qX dd (Ring.mk ((l7.getD x6.toNat dd).Z) v13) l7 l7.length x6.toNat 1 [tl qV dd v13] rfl (qW (zC g12)) rfl)] [0,1,0,0,8,0,56,120,248,504,1023,2047,4095] 5 [4] [] [2] [(2,ro 0 71 2 l7.length (rf qX (l7.set x6.toNat (Ring.mk ((l7.getD x6.toNat dd).Z) v13))))] (q_vv [] 5 [15] [(15,vi (w64 (x6+1)))] ?_)
   exact q_hl (CQ v2 v4 (w64 (x6+1)) (l7.set x6.toNat (Ring.mk ((l7.getD x6.toNat dd).Z) v13)) l7.length) (ih (w64 (x6+1)) (l7.set x6.toNat (Ring.mk ((l7.getD x6.toNat dd).Z) v13)) l7.length _ (jV rfl) hm)
  ·refine q_ex 0 ?_;obtain rfl:=oi hm;exact q_l0
theorem qR9 (a1:Scan) (r:Scan) (hm:qH4 a1=some r):CtX Tryz.prog globs 38 0 0 [.agg (zZ a1)] [] (qUx r) (qTd r):=by
 unfold qH4 at hm;refine q_E f38 32 λE=>?_;refine s_vn [] 0 ⟨[(1,vp 0 0),(2,vp 1 0)],[(0,bx 25 (zZ a1)),(1,bx 25 [.emp,.emp])]⟩ ?_;obtain⟨v2,h3,hm⟩:=qB hm;obtain⟨v4,h5,hm⟩:=qB hm;refine s_du [qc 2 [6] 2 (qG6 a1.Rings v2 h3),qc 5 [9] 3 (LB a1.Defects v4 h5)] [0,1,3,0,8,31,63,0,255] 2 [1] [(3,vp 4 0)] [0] [(2,ro 0 71 2 v2.length (rf qX v2)),(3,ro 0 87 7 v4.length (rf qI v4)),(4,bx 25 [.own 2 0 2 v2.length,.own 3 0 7 v4.length])] (q_sq ?_);refine s_va 5 [(14,vi (v2.length:Int)),(15,vi 0)] ?_;obtain⟨o16,h17,hm⟩:=qB hm
 refine zG (nd f38 116) 0 (by kernel_rfl) FUEL (λo=>qFS v4 o) o16 (q_hl (CQ v2 v4 0 v2 v2.length) (qMg E v2 v4 FUEL 0 v2 v2.length o16 rfl h17)) (s_vu [] 5 [3] [] [1,4] [(1,bx 25 [.own 2 0 2 o16.length,.own 3 0 7 v4.length])] ?_);obtain rfl:=oi hm;refine q_sw 2 0 (q_sw 3 1 ?_);exact q_rt q_rm
def qRO (r:(List qF)):V:=vo 0 0 7 r.length
def qR0 (r:(List qF)):List (Nat×(Nat×O)):=[(0,ro 0 87 7 r.length (rf qI r))]
def BW (a1:List qF) (a2:Int) (l7:List qF) (x8:Int):St:=
 ⟨[(1,vi (Int.tmod (w64 ((Int.tmod a2 4)+4)) 4)),(5,vo 0 0 7 l7.length),(6,vi x8),(7,vp 1 0),(18,vc (tl qI dd a1)),(19,vi (a1.length:Int)),(20,vi x8)],[(0,ro 0 87 7 l7.length (rf qI l7))]⟩
def EO (a1:List qF) (a2:Int) (l7:List qF) (x8:Int) (x11:Int) (x12:Int) (x13:Int) (x14:Int) (x15:Int):St:=
 (BW a1 a2 l7 x8).up [] [(25,vi (Int.tmod (w64 ((Int.tmod a2 4)+4)) 4)),(26,vi x11)] [] [(1,bx 87 [ci ((a1.getD x8.toNat dd).Kind),ci x12,ci x13,ci x14,ci x15,ci ((((a1.getD x8.toNat dd).Box).Z).A),ci ((((a1.getD x8.toNat dd).Box).Z).B)])]
def qEB (a1:List qF) (a2:Int) (l7:List qF) (x8:Int) (x17:qF):St:=
 (BW a1 a2 l7 x8).up [] [] [] [(1,bx 87 (qI x17))]
def HZ (a1:List qF) (a2:Int) (l7:List qF) (l7n:Nat) (x8:Int):St:=
 (BW a1 a2 l7 x8).up [5,6,7] [(5,vo 0 0 7 l7n)] [0] [(0,ro 0 87 7 l7n (rf qI l7))]
def qDW (l21:List qF):St:=
 ⟨[(5,vo 0 0 7 l21.length)],[(0,ro 0 87 7 l21.length (rf qI l21))]⟩
theorem qK0 (E:Env 0) (a1:List qF) (a2:Int) (l7:List qF) (x8:Int):∀(n:Nat) (x11:Int) (x12:Int) (x13:Int) (x14:Int) (x15:Int) (res:qF),yP a1 a2 x8 n x11 x12 x13 x14 x15=some res->HL (kx E 53 0) (nd f39 256404) (zM 2 (λo=>qEB a1 a2 l7 x8 o) res) n (EO a1 a2 l7 x8 x11 x12 x13 x14 x15):=by
 intro n
 induction n with
 |zero=>
  intro x11 x12 x13 x14 x15 res hm;cases hm
 |succ n ih=>
  intro x11 x12 x13 x14 x15 res hm;refine qS (s_va 2 [(27,vb (decide (x11<(Int.tmod (w64 ((Int.tmod a2 4)+4)) 4))))] ?_);refine q_sq (q_cq hm (λhm=>?_) (λhm=>?_))
  ·refine q_sk (q_sq ?_);refine q_bk 3 (q_vu [] 2 [27] [] [1] [(1,bx 87 [ci ((a1.getD x8.toNat dd).Kind),ci (w64 (0-x15)),ci (w64 (0-x14)),ci x12,ci x13,ci ((((a1.getD x8.toNat dd).Box).Z).A),ci ((((a1.getD x8.toNat dd).Box).Z).B)])] ?_);exact q_vv [] 2 [26] [(26,vi (w64 (x11+1)))] (q_hl (EO a1 a2 l7 x8 (w64 (x11+1)) (w64 (0-x15)) (w64 (0-x14)) x12 x13) (ih (w64 (x11+1)) (w64 (0-x15)) (w64 (0-x14)) x12 x13 _ hm))
  ·refine q_ex 2 ?_;obtain rfl:=oi hm;exact q_l0
theorem qKY (E:Env 0) (a1:List qF) (a2:Int):∀(n:Nat) (l7:List qF) (l7n:Nat) (x8:Int) (res:(List qF)),l7.length=l7n->QR a1 a2 n l7 x8=some res->HL (kx E 53 0) (nd f39 500) (zM 0 qDW res) n (HZ a1 a2 l7 l7n x8):=by
 intro n
 induction n with
 |zero=>
  intro l7 l7n x8 res hl0 hm;cases hm
 |succ n ih=>
  intro l7 l7n x8 res hl0 hm;subst hl0;refine qS (s_va 1 [(21,vb (decide (x8<(a1.length:Int))))] ?_);refine q_sq (q_cq hm (λhm=>?_) (λhm=>?_))
  ·refine q_sk (q_sq ?_);refine q_bk 1 ?_;obtain⟨g10,hm⟩:=qJ hm;refine s_vu [qi 1 g10] 1 [21] [(6,vi x8),(7,vp 1 0)] [] [(1,bx 87 (qI (a1.getD x8.toNat dd)))] (q_sq ?_);refine s_va 2 [(25,vi (Int.tmod (w64 ((Int.tmod a2 4)+4)) 4)),(26,vi 0)] ?_;obtain⟨o18,h19,hm⟩:=qB hm
   refine zG (nd f39 256404) 2 (by kernel_rfl) FUEL (λo=>qEB a1 a2 l7 x8 o) o18 (q_hl (EO a1 a2 l7 x8 0 ((((a1.getD x8.toNat dd).Box).X).A) ((((a1.getD x8.toNat dd).Box).X).B) ((((a1.getD x8.toNat dd).Box).Y).A) ((((a1.getD x8.toNat dd).Box).Y).B)) (qK0 E a1 a2 l7 x8 FUEL 0 ((((a1.getD x8.toNat dd).Box).X).A) ((((a1.getD x8.toNat dd).Box).X).B) ((((a1.getD x8.toNat dd).Box).Y).A) ((((a1.getD x8.toNat dd).Box).Y).B) o18 h19)) ?_;obtain⟨g20,hm⟩:=qJ hm
   refine q_vu [qi 3 g20,qd 4 (drw 0 0 (rf qI (l7.set x8.toNat o18))) (stP qI dd o18 l7 l7.length x8.toNat 0 (qI o18) rfl (qW (zC g20)) rfl)] 2 [6,7] [] [0,1] [(0,ro 0 87 7 l7.length (rf qI (l7.set x8.toNat o18)))] (q_vv [] 2 [20] [(20,vi (w64 (x8+1)))] ?_);exact q_hl (HZ a1 a2 (l7.set x8.toNat o18) l7.length (w64 (x8+1))) (ih (l7.set x8.toNat o18) l7.length (w64 (x8+1)) _ (jV rfl) hm)
  ·refine q_ex 0 ?_;obtain rfl:=oi hm;exact q_l0
theorem qP8 (a1:List qF) (a2:Int) (r:(List qF)) (hm:MO a1 a2=some r):CtX Tryz.prog globs 39 0 0 [.one (tl qI dd a1),.one (ci a2)] [] (qRO r) (qR0 r):=by
 unfold MO at hm;refine q_E f39 53 λE=>?_;refine s_vn [] 0 ⟨[(0,vc (tl qI dd a1)),(1,vi a2)],[]⟩ (q_sq ?_);obtain⟨v3,h4,hm⟩:=qB hm;refine s_vv [qc 1 [8] 0 (ZM a1 v3 h4)] 0 [] [(10,vb (v3 !=0))] (q_cq hm (λhm=>?_) (λhm=>?_))
 ·refine s_vn [] 0 ⟨[(4,vc (.emp))],[]⟩ (q_fn [.own 4 0 87 7 (rf qI [])] ⟨[(4,vo 0 0 7 0)],[(0,ro 0 87 7 0 (rf qI []))]⟩ o0 ?_);refine q_fn [.len 0 (([]:List qF).length)] ⟨[(4,vo 0 0 7 (([]:List qF).length))],[(0,ro 0 87 7 (([]:List qF).length) (rf qI []))]⟩ (o1 (And.intro (show 0=([]:List qF).length from rfl) (show 0=([]:List qF).length from rfl))) ?_;obtain rfl:=oi hm;exact q_rt q_rm
 ·refine q_sk (s_vv [qd 1 dN (show(4:Int)≠0 by decide),qd 3 dN (show(4:Int)≠0 by decide)] 0 [1,10] [(1,vi (Int.tmod (w64 ((Int.tmod a2 4)+4)) 4))] ?_);obtain⟨g6,hm⟩:=qJ hm
  refine s_vu [qd 2 (drw 0 0 (rf qI (List.replicate ((a1.length:Int).toNat) (qF.mk 0 (Box.mk (Span.mk 0 0) (Span.mk 0 0) (Span.mk 0 0)))))) (mkP qI dd (qF.mk 0 (Box.mk (Span.mk 0 0) (Span.mk 0 0) (Span.mk 0 0))) (a1.length:Int) 56 [ci 0,ci 0,ci 0,ci 0,ci 0,ci 0,ci 0] (TC g6) rfl)] 0 [] [(5,vo 0 0 7 ((a1.length:Int).toNat))] [] [(0,ro 0 87 7 ((a1.length:Int).toNat) (rf qI (List.replicate ((a1.length:Int).toNat) (qF.mk 0 (Box.mk (Span.mk 0 0) (Span.mk 0 0) (Span.mk 0 0))))))] (q_sq ?_);refine s_vv [] 1 [0] [(18,vc (tl qI dd a1)),(19,vi (a1.length:Int)),(20,vi 0)] ?_;obtain⟨o22,h23,hm⟩:=qB hm
  refine zG (nd f39 500) 0 (by kernel_rfl) FUEL qDW o22 (q_hl (HZ a1 a2 (List.replicate ((a1.length:Int).toNat) (qF.mk 0 (Box.mk (Span.mk 0 0) (Span.mk 0 0) (Span.mk 0 0)))) ((a1.length:Int).toNat) 0) (qKY E a1 a2 FUEL (List.replicate ((a1.length:Int).toNat) (qF.mk 0 (Box.mk (Span.mk 0 0) (Span.mk 0 0) (Span.mk 0 0)))) ((a1.length:Int).toNat) 0 o22 TQ h23)) (s_vv [] 1 [5] [(4,vo 0 0 7 o22.length)] ?_);obtain rfl:=oi hm;exact q_rt q_rm
def qUU (r:Scan):V:=va [.own 0 0 2 r.Rings.length,.own 1 0 7 r.Defects.length]
def qU7 (r:Scan):List (Nat×(Nat×O)):=[(0,ro 0 71 2 r.Rings.length (rf qX r.Rings)),(1,ro 0 87 7 r.Defects.length (rf qI r.Defects))]
def qAx (a1:Scan) (a2:Int) (v9:(List qF)) (x11:Int) (l12:List Ring) (l12n:Nat):St:=
 ⟨[(1,vi a2),(2,vp 0 0),(4,vp 1 0),(5,vp 4 0),(23,vi (a1.Rings.length:Int)),(24,vi x11)],[(0,bx 25 (zZ a1)),(1,bx 25 [.emp,.emp]),(2,ro 0 71 2 l12n (rf qX l12)),(3,ro 0 87 7 v9.length (rf qI v9)),(4,bx 25 [.own 2 0 2 l12n,.own 3 0 7 v9.length])]⟩
def qGI (v9:(List qF)) (l22:List Ring):St:=
 ⟨[(4,vp 1 0),(5,vp 4 0)],[(1,bx 25 [.emp,.emp]),(2,ro 0 71 2 l22.length (rf qX l22)),(3,ro 0 87 7 v9.length (rf qI v9)),(4,bx 25 [.own 2 0 2 l22.length,.own 3 0 7 v9.length])]⟩
theorem qOo (E:Env 0) (a1:Scan) (a2:Int) (v9:(List qF)):∀(n:Nat) (x11:Int) (l12:List Ring) (l12n:Nat) (res:(List Ring)),l12.length=l12n->WV a1 a2 n x11 l12=some res->HL (kx E 40 0) (nd f19 244) (zM 0 (λo=>qGI v9 o) res) n (qAx a1 a2 v9 x11 l12 l12n):=by
 intro n
 induction n with
 |zero=>
  intro x11 l12 l12n res hl0 hm;cases hm
 |succ n ih=>
  intro x11 l12 l12n res hl0 hm;subst hl0;refine qS (s_va 5 [(25,vb (decide (x11<(a1.Rings.length:Int))))] ?_);refine q_sq (q_cq hm (λhm=>?_) (λhm=>?_))
  ·refine q_sk (q_sq ?_);refine q_bk 1 (s_vv [] 5 [25] [(6,vi x11)] ?_);obtain⟨g18,hm⟩:=qJ hm;obtain⟨v19,h20,hm⟩:=qB hm;obtain⟨g21,hm⟩:=qJ hm;refine q_du [qi 6 g18,qc 9 [34,35] 5 (CtX.frz (x':=va (qX v19)) (ob':=[]) (qSB (a1.Rings.getD x11.toNat dd) a2 v19 h20) 0 (o1 (ke v19.Read.length)) (by kernel_rfl)),qi 10 g21,qd 11 (drw 0 0 (rf qX (l12.set x11.toNat v19))) (stP qX dd v19 l12 l12.length x11.toNat 0 (qX v19) rfl (qW (zC g21)) rfl)] [0,1,0,0,8,0,56,120,0,504,1023,2047] 5 [6] [] [2] [(2,ro 0 71 2 l12.length (rf qX (l12.set x11.toNat v19)))] (q_vv [] 5 [24] [(24,vi (w64 (x11+1)))] ?_)
   exact q_hl (qAx a1 a2 v9 (w64 (x11+1)) (l12.set x11.toNat v19) l12.length) (ih (w64 (x11+1)) (l12.set x11.toNat v19) l12.length _ (jV rfl) hm)
  ·refine q_ex 0 ?_;obtain rfl:=oi hm;exact q_l0
theorem qKr (a1:Scan) (a2:Int) (r:Scan) (hm:QS a1 a2=some r):CtX Tryz.prog globs 19 0 0 [.agg (zZ a1),.one (ci a2)] [] (qUU r) (qU7 r):=by
 unfold QS at hm;refine q_E f19 40 λE=>?_;refine s_vn [] 0 ⟨[(1,vi a2),(2,vp 0 0),(4,vp 1 0)],[(0,bx 25 (zZ a1)),(1,bx 25 [.emp,.emp])]⟩ (q_sq ?_);obtain⟨v3,h4,hm⟩:=qB hm;refine s_vv [qc 1 [7] 2 (qIF a1 v3 h4)] 2 [] [(9,vb (v3 !=0))] (q_cq hm (λhm=>?_) (λhm=>?_))
 ·obtain⟨v6,h7,hm⟩:=qB hm;refine s_vn [qc 1 [10] 2 (qR9 a1 v6 h7)] 2 ⟨[(4,vp 1 0)],[(1,bx 25 [.own 2 0 2 v6.Rings.length,.own 3 0 7 v6.Defects.length]),(2,ro 0 71 2 v6.Rings.length (rf qX v6.Rings)),(3,ro 0 87 7 v6.Defects.length (rf qI v6.Defects))]⟩ ?_;obtain rfl:=oi hm;refine q_sw 2 0 (q_sw 3 1 ?_);exact q_rt q_rm
 ·refine q_sk ?_;obtain⟨g8,hm⟩:=qJ hm;obtain⟨v9,h10,hm⟩:=qB hm
  refine s_du [qd 3 (drw 2 0 (rf qX (List.replicate ((a1.Rings.length:Int).toNat) (Ring.mk 0 ([]:List qP))))) (mkPe qX dd (Ring.mk 0 ([]:List qP)) (a1.Rings.length:Int) 32 [ci 0,.emp] (TC g8) (.same _ (.emp _ .nil))),qc 7 [17,18] 3 (qP8 a1.Defects a2 v9 h10)] [0,1,3,7,0,16,0,112,255,0,1023] 2 [9] [(5,vp 4 0)] [] [(2,ro 0 71 2 ((a1.Rings.length:Int).toNat) (rf qX (List.replicate ((a1.Rings.length:Int).toNat) (Ring.mk 0 ([]:List qP))))),(3,ro 0 87 7 v9.length (rf qI v9)),(4,bx 25 [.own 2 0 2 ((a1.Rings.length:Int).toNat),.own 3 0 7 v9.length])] (q_sq ?_)
  refine s_va 5 [(23,vi (a1.Rings.length:Int)),(24,vi 0)] ?_;obtain⟨o23,h24,hm⟩:=qB hm;refine zG (nd f19 244) 0 (by kernel_rfl) FUEL (λo=>qGI v9 o) o23 (q_hl (qAx a1 a2 v9 0 (List.replicate ((a1.Rings.length:Int).toNat) (Ring.mk 0 ([]:List qP))) ((a1.Rings.length:Int).toNat)) (qOo E a1 a2 v9 FUEL 0 (List.replicate ((a1.Rings.length:Int).toNat) (Ring.mk 0 ([]:List qP))) ((a1.Rings.length:Int).toNat) o23 TQ h24)) (s_vu [] 5 [5] [] [1,4] [(1,bx 25 [.own 2 0 2 o23.length,.own 3 0 7 v9.length])] ?_);obtain rfl:=oi hm;refine q_sw 2 0 (q_sw 3 1 ?_);exact q_rt q_rm
open Go.Proofs Go.Proofs.Tryz
def qWE (r:Bool):V:=vb r
def qWU (r:Bool):List (Nat×(Nat×O)):=[]
def qRy (x5:Bool):St:=
 ⟨[(6,vb x5)],[]⟩
theorem qVy (a1:qA) (a2:qA) (a3:Int) (r:Bool) (hm:qEz a1 a2 a3=some r):CtX Tryz.prog globs 150 0 0 [.agg (qE a1),.agg (qE a2),.one (ci a3)] [] (qWE r) (qWU r):=by
 unfold qEz at hm;refine q_E f150 35 λE=>?_;refine s_vn [] 0 ⟨[(2,vi a3),(3,vp 0 0),(4,vp 1 0)],[(0,bx 93 (qE a1)),(1,bx 93 (qE a2))]⟩ (q_jn (qRy) (λp=>qBw p=some r) ?_ ?_)
 ·rintro x5 hm;obtain rfl:=oi hm;exact q_rt q_rm
 ·rcases bif_c hm with⟨b4,hm⟩|⟨b4,hm⟩
  ·exact q_vn [qf 13 b4] 2 ⟨[(6,vb true)],[]⟩ (q_J (true) hm)
  ·exact q_vn [qf 13 b4] 2 ⟨[(6,vb (decide ((imax (w64 (a1.Y-a2.Y)) (w64 (a2.Y-a1.Y)))>a3)))],[]⟩ (q_J (decide ((imax (w64 (a1.Y-a2.Y)) (w64 (a2.Y-a1.Y)))>a3)) hm)
def qN2 (r:(List Int)):V:=vo 0 0 1 r.length
def qPe (r:(List Int)):List (Nat×(Nat×O)):=[(0,ro 0 3 1 r.length (rf qD r))]
def qBS (a1:Ring) (x3:Int) (l8:List Int) (l8n:Nat):St:=
 ⟨[(3,vo 1 0 1 l8n),(7,vc (tl qV dd a1.Read)),(8,vi (a1.Read.length:Int)),(9,vi x3)],[(1,ro 0 3 1 l8n (rf qD l8))]⟩
def DL (a1:Ring) (l2:List Int) (l2n:Nat) (x3:Int):St:=
 ⟨[(3,vo 1 0 1 l2n),(7,vc (tl qV dd a1.Read)),(8,vi (a1.Read.length:Int)),(9,vi x3)],[(1,ro 0 3 1 l2n (rf qD l2))]⟩
def qBM (l9:List Int):St:=
 ⟨[(3,vo 1 0 1 l9.length)],[(1,ro 0 3 1 l9.length (rf qD l9))]⟩
theorem qIT (E:Env 0) (a1:Ring):∀(n:Nat) (l2:List Int) (l2n:Nat) (x3:Int) (res:(List Int)),l2.length=l2n->yB a1 n l2 x3=some res->HL (kx E 22 0) (nd f146 116) (zM 0 qBM res) n (DL a1 l2 l2n x3):=by
 intro n
 induction n with
 |zero=>
  intro l2 l2n x3 res hl0 hm;cases hm
 |succ n ih=>
  intro l2 l2n x3 res hl0 hm;subst hl0;refine qS (s_va 2 [(10,vb (decide (x3<(a1.Read.length:Int))))] ?_);refine q_sq (q_cq hm (λhm=>?_) (λhm=>?_))
  ·refine q_sk (q_jn (ι:=(List Int)×Nat) (λp=>qBS a1 x3 p.1 p.2) (λp=>p.1.length=p.2/\UU x3 (yB a1 n) p.1=some res) ?_ ?_)
   ·rintro⟨l8,l8n⟩ ⟨el8,hm⟩;replace el8:l8.length=l8n:=el8;subst el8;show H _ (qBS a1 x3 l8 l8.length) _ _;exact q_vv [] 4 [9] [(9,vi (w64 (x3+1)))] (q_hl (DL a1 l8 l8.length (w64 (x3+1))) (ih l8 l8.length (w64 (x3+1)) _ rfl hm))
   ·refine q_bk 1 ?_;obtain⟨g5,hm⟩:=qJ hm;refine s_vu [qi 1 g5] 2 [10] [(4,vi x3),(5,vp 2 0)] [] [(2,bx 95 (qV (a1.Read.getD x3.toNat dd)))] (s_vu [] 3 [5] [(15,vb ((a1.Read.getD x3.toNat dd).Ok))] [2] [] ?_);refine q_cq hm (λhm=>?_) (λhm=>?_)
    ·obtain⟨g7,hm⟩:=qJ hm;exact q_vu [qd 2 (drw 3 0 (rf qD [x3])) (litP qD dd 1 (λ_=>rfl) ([x3]:List Int) 1 rfl),qd 3 (drw 1 1 (rf qD (l2++[x3]))) (apP qD dd l2 ([x3]:List Int) l2.length 1 1 8 (1<=1) (ke _) rfl rfl (λ_=>rfl) (zW g7))] 3 [3,4,15] [(3,vo 1 1 1 (l2.length+1))] [1] [(1,ro 1 3 1 (l2.length+1) (rf qD (l2++[x3])))] (q_J ((l2++[x3]),(l2.length+1)) ⟨(zX rfl rfl),hm⟩)
    ·exact q_sk (q_J (l2,l2.length) ⟨rfl,hm⟩)
  ·refine q_ex 0 ?_;obtain rfl:=oi hm;exact q_l0
theorem SS (a1:Ring) (r:(List Int)) (hm:YA a1=some r):CtX Tryz.prog globs 146 0 0 [.agg (qX a1)] [] (qN2 r) (qPe r):=by
 unfold YA at hm;refine q_E f146 22 λE=>?_;refine s_vn [] 0 ⟨[(1,vp 0 0)],[(0,bx 71 (qX a1))]⟩ (s_va 1 [(3,vc (.emp))] ?_);refine q_sq (s_vu [] 1 [1] [(7,vc (tl qV dd a1.Read)),(8,vi (a1.Read.length:Int)),(9,vi 0)] [0] [] ?_);refine q_fo 3 1 3 1 qD ?_;obtain⟨o10,h11,hm⟩:=qB hm;refine zG (nd f146 116) 0 (by kernel_rfl) FUEL qBM o10 (q_hl (DL a1 ([]:List Int) 0 0) (qIT E a1 FUEL ([]:List Int) 0 0 o10 rfl h11)) (s_vv [] 2 [3] [(2,vo 1 0 1 o10.length)] ?_);obtain rfl:=oi hm;exact q_sw 1 0 (q_rt q_rm)
def qTX (r:Ring):V:=va [ci r.Z,.own 0 0 3 r.Read.length]
def qUN (r:Ring):List (Nat×(Nat×O)):=[(0,ro 0 95 3 r.Read.length (rf qV r.Read))]
def YF (a1:Ring) (a2:Int) (v5:(List Int)) (x13:Int):St:=
 ⟨[(1,vi a2),(2,vp 0 0),(4,vp 1 0),(5,vp 3 0),(6,vo 4 0 1 v5.length),(30,vo 4 0 1 v5.length),(31,vi (v5.length:Int)),(32,vi x13)],[(0,bx 71 (qX a1)),(1,bx 71 [ci 0,.emp]),(4,ro 0 3 1 v5.length (rf qD v5))]⟩
def qPh (a1:Ring) (a2:Int) (v3:Ring) (v5:(List Int)) (x13:Int) (l14:List qP) (x18:Int) (x28:Bool):St:=
 (YF a1 a2 v5 x13).up [] [(7,vi x13),(8,vi (v5.getD x13.toNat dd)),(9,vb x28),(37,va [ci (-1),ci 1]),(38,vi x18)] [] [(2,ro 0 95 3 l14.length (rf qV l14)),(3,bx 71 [ci v3.Z,.own 2 0 3 l14.length])]
def IK (a1:Ring) (a2:Int) (v3:Ring) (v5:(List Int)) (x13:Int) (l14:List qP) (x17:Bool) (x18:Int):St:=
 (YF a1 a2 v5 x13).up [] [(7,vi x13),(8,vi (v5.getD x13.toNat dd)),(9,vb x17),(37,va [ci (-1),ci 1]),(38,vi x18)] [] [(2,ro 0 95 3 l14.length (rf qV l14)),(3,bx 71 [ci v3.Z,.own 2 0 3 l14.length])]
def qFA (a1:Ring) (a2:Int) (v3:Ring) (v5:(List Int)) (x13:Int) (l14:List qP) (x29:Bool):St:=
 (YF a1 a2 v5 x13).up [] [(8,vi (v5.getD x13.toNat dd)),(9,vb x29)] [] [(2,ro 0 95 3 l14.length (rf qV l14)),(3,bx 71 [ci v3.Z,.own 2 0 3 l14.length])]
def qFg (a1:Ring) (a2:Int) (v3:Ring) (v5:(List Int)) (x13:Int) (l34:List qP) (l34n:Nat):St:=
 (YF a1 a2 v5 x13).up [] [] [] [(2,ro 0 95 3 l34n (rf qV l34)),(3,bx 71 [ci v3.Z,.own 2 0 3 l34n])]
def OR (a1:Ring) (a2:Int) (v3:Ring) (v5:(List Int)) (x13:Int) (l14:List qP) (l14n:Nat):St:=
 (YF a1 a2 v5 x13).up [] [] [] [(2,ro 0 95 3 l14n (rf qV l14)),(3,bx 71 [ci v3.Z,.own 2 0 3 l14n])]
def qEX (v3:Ring) (l35:List qP):St:=
 ⟨[(4,vp 1 0),(5,vp 3 0)],[(1,bx 71 [ci 0,.emp]),(2,ro 0 95 3 l35.length (rf qV l35)),(3,bx 71 [ci v3.Z,.own 2 0 3 l35.length])]⟩
def qOr (a1:Ring) (a2:Int) (v3:Ring) (v5:(List Int)) (x11:Bool):St:=
 ⟨[(1,vi a2),(2,vp 0 0),(4,vp 1 0),(5,vp 3 0),(6,vo 4 0 1 v5.length),(28,vb x11)],[(0,bx 71 (qX a1)),(1,bx 71 [ci 0,.emp]),(2,ro 0 95 3 v3.Read.length (rf qV v3.Read)),(3,bx 71 [ci v3.Z,.own 2 0 3 v3.Read.length]),(4,ro 0 3 1 v5.length (rf qD v5))]⟩
theorem qMG (E:Env 0) (a1:Ring) (a2:Int) (v3:Ring) (v5:(List Int)) (x13:Int) (l14:List qP):∀(n:Nat) (x17:Bool) (x18:Int) (res:Bool),jK a1 a2 v5 x13 n x17 x18=some res->HL (kx E 79 0) (nd f89 512820) (zM 2 (λo=>qFA a1 a2 v3 v5 x13 l14 o) res) n (IK a1 a2 v3 v5 x13 l14 x17 x18):=by
 intro n
 induction n with
 |zero=>
  intro x17 x18 res hm;cases hm
 |succ n ih=>
  intro x17 x18 res hm;refine qS (s_va 5 [(39,vb (decide (x18<2)))] ?_);refine q_sq (q_cq hm (λhm=>?_) (λhm=>?_))
  ·refine q_sk (q_jn (qPh a1 a2 v3 v5 x13 l14 x18) (λp=>HJ x18 (jK a1 a2 v5 x13 n) p=some res) ?_ ?_)
   ·rintro x28 hm;exact q_vv [] 6 [38] [(38,vi (w64 (x18+1)))] (q_hl (IK a1 a2 v3 v5 x13 l14 x28 (w64 (x18+1))) (ih x28 (w64 (x18+1)) _ hm))
   ·refine q_bk 3 ?_;obtain⟨g20,hm⟩:=qJ hm;refine s_vv [qi 0 g20] 5 [39] [(11,vi (([(-1),1]:List Int).getD x18.toNat 0))] ?_;obtain⟨g21,hm⟩:=qJ hm;obtain⟨g22,hm⟩:=qJ hm;obtain⟨g23,hm⟩:=qJ hm;refine s_du [qd 11 dN (HX g21),qi 12 g22,qd 13 dN (qW (zC g22)),qi 14 g23] [0,1,0,0,0,16,56,0,248,0,512,2040,4092,8188,16383,32767,65535,0,262143] 5 [11] [(12,vp 5 0)] [] [(5,bx 93 (qE ((a1.Read.getD (v5.getD ((Int.tmod (w64 ((w64 (x13+(v5.length:Int)))+(([(-1),1]:List Int).getD x18.toNat 0))) (v5.length:Int)).toNat) dd).toNat dd).P)))] ?_;rcases bif_c hm with⟨b24,hm⟩|⟨b24,hm⟩
    ·obtain⟨g25,hm⟩:=qJ hm;obtain⟨v26,h27,hm⟩:=qB hm
     refine q_du [qf 1 b24,qi 5 g25,qk 10 [59,65,66,67] 6 ⟨[(59,vb true),(65,va [ci (((a1.Read.getD (v5.getD x13.toNat dd).toNat dd).P).X),ci (((a1.Read.getD (v5.getD x13.toNat dd).toNat dd).P).Y)]),(66,va [ci (((a1.Read.getD (v5.getD ((Int.tmod (w64 ((w64 (x13+(v5.length:Int)))+(([(-1),1]:List Int).getD x18.toNat 0))) (v5.length:Int)).toNat) dd).toNat dd).P).X),ci (((a1.Read.getD (v5.getD ((Int.tmod (w64 ((w64 (x13+(v5.length:Int)))+(([(-1),1]:List Int).getD x18.toNat 0))) (v5.length:Int)).toNat) dd).toNat dd).P).Y)]),(67,vi a2)],[]⟩ (qVy ((a1.Read.getD (v5.getD x13.toNat dd).toNat dd).P) ((a1.Read.getD (v5.getD ((Int.tmod (w64 ((w64 (x13+(v5.length:Int)))+(([(-1),1]:List Int).getD x18.toNat 0))) (v5.length:Int)).toNat) dd).toNat dd).P) a2 v26 h27)] [0,1,3,7,3,31,63,127,3,3,1023,2047,4095] 6 [9,12] [(9,vb v26)] [5] [] ?_
     exact q_J (v26) hm
    ·exact q_du [qf 1 b24] [0,1,3,7,3,31,63,127,3,3,1023,2047,4095] 6 [9,12] [(9,vb false)] [5] [] (q_J (false) hm)
  ·refine q_ex 2 ?_;obtain rfl:=oi hm;exact q_l0
theorem qL0 (E:Env 0) (a1:Ring) (a2:Int) (v3:Ring) (v5:(List Int)):∀(n:Nat) (x13:Int) (l14:List qP) (l14n:Nat) (res:(List qP)),l14.length=l14n->ZS a1 a2 v5 n x13 l14=some res->HL (kx E 79 0) (nd f89 500) (zM 0 (λo=>qEX v3 o) res) n (OR a1 a2 v3 v5 x13 l14 l14n):=by
 intro n
 induction n with
 |zero=>
  intro x13 l14 l14n res hl0 hm;cases hm
 |succ n ih=>
  intro x13 l14 l14n res hl0 hm;subst hl0;refine qS (s_va 5 [(33,vb (decide (x13<(v5.length:Int))))] ?_);refine q_sq (q_cq hm (λhm=>?_) (λhm=>?_))
  ·refine q_sk (q_jn (ι:=(List qP)×Nat) (λp=>qFg a1 a2 v3 v5 x13 p.1 p.2) (λp=>p.1.length=p.2/\HD x13 (ZS a1 a2 v5 n) p.1=some res) ?_ ?_)
   ·rintro⟨l34,l34n⟩ ⟨el34,hm⟩;replace el34:l34.length=l34n:=el34;subst el34;show H _ (qFg a1 a2 v3 v5 x13 l34 l34.length) _ _;exact q_vv [] 5 [32] [(32,vi (w64 (x13+1)))] (q_hl (OR a1 a2 v3 v5 (w64 (x13+1)) l34 l34.length) (ih (w64 (x13+1)) l34 l34.length _ rfl hm))
   ·refine q_bk 1 ?_;obtain⟨g16,hm⟩:=qJ hm;refine s_vv [qi 1 g16,qd 2 dN (qW (zC g16))] 5 [33] [(7,vi x13),(8,vi (v5.getD x13.toNat dd))] (s_va 5 [(9,vb true)] ?_);refine q_sq (s_va 5 [(37,va [ci (-1),ci 1]),(38,vi 0)] ?_);obtain⟨o30,h31,hm⟩:=qB hm;refine zG (nd f89 512820) 2 (by kernel_rfl) FUEL (λo=>qFA a1 a2 v3 v5 x13 l14 o) o30 (q_hl (IK a1 a2 v3 v5 x13 l14 true 0) (qMG E a1 a2 v3 v5 x13 l14 FUEL true 0 o30 h31)) (s_vv [] 5 [9] [(71,vb o30)] ?_);refine q_cq hm (λhm=>?_) (λhm=>?_)
    ·obtain⟨g33,hm⟩:=qJ hm;exact q_vu [qi 4 g33,qd 5 (drw 0 0 (rf qV (l14.set ((v5.getD x13.toNat dd).toNat) (qP.mk (qA.mk 0 0) false)))) (stP qV dd (qP.mk (qA.mk 0 0) false) l14 l14.length ((v5.getD x13.toNat dd).toNat) 0 [ci 0,ci 0,cb false] rfl (qW (zC g33)) rfl)] 5 [8,71] [] [2] [(2,ro 0 95 3 l14.length (rf qV (l14.set ((v5.getD x13.toNat dd).toNat) (qP.mk (qA.mk 0 0) false))))] (q_J ((l14.set ((v5.getD x13.toNat dd).toNat) (qP.mk (qA.mk 0 0) false)),l14.length) ⟨(jV rfl),hm⟩)
    ·exact q_sk (q_J (l14,l14.length) ⟨rfl,hm⟩)
  ·refine q_ex 0 ?_;obtain rfl:=oi hm;exact q_l0
theorem qSc (a1:Ring) (a2:Int) (r:Ring) (hm:AG a1 a2=some r):CtX Tryz.prog globs 89 0 0 [.agg (qX a1),.one (ci a2)] [] (qTX r) (qUN r):=by
 unfold AG at hm;refine q_E f89 79 λE=>?_;refine s_vn [] 0 ⟨[(1,vi a2),(2,vp 0 0),(4,vp 1 0)],[(0,bx 71 (qX a1)),(1,bx 71 [ci 0,.emp])]⟩ ?_;obtain⟨v3,h4,hm⟩:=qB hm;refine s_vu [qc 1 [13] 2 (qIJ a1 v3 h4)] 2 [] [(5,vp 3 0)] [] [(2,ro 0 95 3 v3.Read.length (rf qV v3.Read)),(3,bx 71 [ci v3.Z,.own 2 0 3 v3.Read.length])] ?_;obtain⟨v5,h6,hm⟩:=qB hm;refine s_vu [qc 1 [15] 4 (SS a1 v5 h6)] 4 [] [(6,vo 4 0 1 v5.length)] [] [(4,ro 0 3 1 v5.length (rf qD v5))] (q_sq ?_);refine q_jn (qOr a1 a2 v3 v5) (λp=>VY a1 a2 v3 v5 p=some r) ?_ ?_
 ·rintro x11 hm;refine q_cq hm (λhm=>?_) (λhm=>?_)
  ·refine s_vu [] 5 [1,2,5,6,28] [] [0,1,3,4] [(1,bx 71 [ci v3.Z,.own 2 0 3 v3.Read.length])] ?_;obtain rfl:=oi hm;exact q_sw 2 0 (q_rt q_rm)
  ·refine q_sk (q_sq ?_);refine s_vv [] 5 [28] [(30,vo 4 0 1 v5.length),(31,vi (v5.length:Int)),(32,vi 0)] ?_;obtain⟨o36,h37,hm⟩:=qB hm;refine zG (nd f89 500) 0 (by kernel_rfl) FUEL (λo=>qEX v3 o) o36 (q_hl (OR a1 a2 v3 v5 0 v3.Read v3.Read.length) (qL0 E a1 a2 v3 v5 FUEL 0 v3.Read v3.Read.length o36 rfl h37)) (s_vu [] 5 [5] [] [1,3] [(1,bx 71 [ci v3.Z,.own 2 0 3 o36.length])] ?_);obtain rfl:=oi hm;exact q_sw 2 0 (q_rt q_rm)
 ·rcases bif_c hm with⟨b7,hm⟩|⟨b7,hm⟩
  ·exact q_vv [qf 2 b7] 5 [] [(28,vb true)] (q_J (true) hm)
  ·rcases bif_c hm with⟨b8,hm⟩|⟨b8,hm⟩
   ·exact q_vv [qf 2 b7,qf 7 b8] 5 [] [(28,vb true)] (q_J (true) hm)
   ·obtain⟨v9,h10,hm⟩:=qB hm;exact q_vv [qf 2 b7,qf 7 b8,qk 9 [24,25] 5 ⟨[(24,vb false),(25,va (qX a1))],[]⟩ (HQ a1 v9 h10)] 5 [] [(28,vb (v9 !=0))] (q_J (v9 !=0) hm)
open Go.Proofs Go.Proofs.Tryz
def qUy (r:Int):V:=vi r
def qTJ (r:Int):List (Nat×(Nat×O)):=[]
def qN6 (x5:Int):St:=
 ⟨[(5,vi x5)],[]⟩
theorem qIH (a1:Int) (a2:Int) (r:Int) (hm:FC a1 a2=some r):CtX Tryz.prog globs 149 0 0 [.one (ci a1),.one (ci a2)] [] (qUy r) (qTJ r):=by
 unfold FC at hm;refine q_E f149 16 λE=>?_;refine s_vn [] 0 ⟨[(0,vi a1),(1,vi a2)],[]⟩ ?_;obtain⟨g3,hm⟩:=qJ hm;refine s_vv [qd 2 dN (HX g3)] 0 [] [(5,vi (w64 (Int.tdiv a1 a2)))] (q_jn (qN6) (λp=>HF p=some r) ?_ ?_)
 ·rintro x5 hm;refine s_vn [] 0 ⟨[(4,vi x5)],[]⟩ ?_;obtain rfl:=oi hm;exact q_rt q_rm
 ·refine s_vv [qd 2 dN (HX g3)] 0 [0,1] [(12,vb (decide ((Int.tmod a1 a2)<0)))] (q_cq hm (λhm=>?_) (λhm=>?_))
  ·exact q_vn [] 0 ⟨[(5,vi (w64 ((w64 (Int.tdiv a1 a2))-1)))],[]⟩ (q_J (w64 ((w64 (Int.tdiv a1 a2))-1)) hm)
  ·exact q_sk (q_J (w64 (Int.tdiv a1 a2)) hm)
def qCx (r:Int):V:=vi r
def VQ (r:Int):List (Nat×(Nat×O)):=[]
theorem qIB (r:Int):yE (VQ r):=by
 intro i k o h;unfold VQ at h;cases h
theorem qHi (a1:Ring) (a2:List Int) (a3:Int) (r:Int) (hm:GE a1 a2 a3=some r):CtX Tryz.prog globs 148 0 0 [.agg (qX a1),.one (tl qD dd a2),.one (ci a3)] [] (qCx r) (VQ r):=by
 unfold GE at hm;refine q_E f148 36 λE=>?_;refine s_vn [] 0 ⟨[(1,vc (tl qD dd a2)),(2,vi a3),(3,vp 0 0)],[(0,bx 71 (qX a1))]⟩ (q_sq ?_);refine s_va 1 [(11,vb (decide ((w64 (a3+1))<(a2.length:Int))))] (q_cq hm (λhm=>?_) (λhm=>?_))
 ·obtain⟨g5,hm⟩:=qJ hm;obtain⟨g6,hm⟩:=qJ hm;refine s_dn [qi 3 g5,qi 7 g6] [0,0,2,7,15,0,0,96,224,511,1023,2047] 1 ⟨[(6,vi (w64 ((w64 ((a2.getD (w64 (a3+1)).toNat dd)-(a2.getD a3.toNat dd)))-1)))],[]⟩ ?_;obtain rfl:=oi hm;exact q_rt q_rm
 ·refine q_sk ?_;obtain⟨g7,hm⟩:=qJ hm;obtain⟨g8,hm⟩:=qJ hm;refine s_dn [qi 1 g7,qi 9 g8] [0,1,3,0,8,24,63,0,0,384,896,2047,4095,8191] 1 ⟨[(6,vi (w64 ((w64 ((w64 ((a2.getD (0:Int).toNat dd)+(a1.Read.length:Int)))-(a2.getD a3.toNat dd)))-1)))],[]⟩ ?_;obtain rfl:=oi hm;exact q_rt q_rm
def qUX (r:Int×Int):V:= .tup [.one (ci r.1),.one (ci r.2)]
def qVA (r:Int×Int):List (Nat×(Nat×O)):=[]
def CX (a1:Ring) (v2:(List Int)) (x5:Int) (x6:Int):St:=
 ⟨[(1,vp 0 0),(4,vo 1 0 1 v2.length),(5,vi (w64 ((a1.Read.length:Int)-(v2.length:Int)))),(6,vi x5),(22,vi (v2.length:Int)),(23,vi x6)],[(0,bx 71 (qX a1)),(1,ro 0 3 1 v2.length (rf qD v2))]⟩
def qGQ (a1:Ring) (v2:(List Int)) (x10:Int):St:=
 ⟨[(5,vi (w64 ((a1.Read.length:Int)-(v2.length:Int)))),(6,vi x10)],[]⟩
theorem qOl (E:Env 0) (a1:Ring) (v2:(List Int)):∀(n:Nat) (x5:Int) (x6:Int) (res:Int),TK a1 v2 n x5 x6=some res->HL (kx E 35 0) (nd f147 1012) (zM 0 (λo=>qGQ a1 v2 o) res) n (CX a1 v2 x5 x6):=by
 intro n
 induction n with
 |zero=>
  intro x5 x6 res hm;cases hm
 |succ n ih=>
  intro x5 x6 res hm;refine qS (s_va 2 [(24,vb (decide (x6<(v2.length:Int))))] ?_);refine q_sq (q_cq hm (λhm=>?_) (λhm=>?_))
  ·refine q_sk (q_sq ?_);refine q_bk 1 (s_vv [] 2 [24] [(7,vi x6)] ?_);obtain⟨v8,h9,hm⟩:=qB hm;refine q_vv [qd 4 (dex (cen [] [] 2 0 (qCx v8) (VQ v8) [27,28,29] [1])) (wB (K:=(kx E 35 0)) (b:=false) ⟨[(27,va (qX a1)),(28,vo 1 0 1 v2.length),(29,vi x6)],[(1,ro 0 3 1 v2.length (rf qD v2))]⟩ (opAt (rg f147 32409) 4) [] [] 2 (o1 (ke v2.length)) rfl (qHi a1 v2 x6 v8 h9) (.inr ⟨(by kernel_rfl),qIB v8⟩) (by kernel_rfl))] 2 [6,7] [(6,vi (imax x5 v8))] (q_vv [] 2 [23] [(23,vi (w64 (x6+1)))] ?_);exact q_hl (CX a1 v2 (imax x5 v8) (w64 (x6+1))) (ih (imax x5 v8) (w64 (x6+1)) _ hm)
  ·refine q_ex 0 ?_;obtain rfl:=oi hm;exact q_l0
theorem qSO (a1:Ring) (r:Int×Int) (hm:EY a1=some r):CtX Tryz.prog globs 147 0 0 [.agg (qX a1)] [] (qUX r) (qVA r):=by
 unfold EY at hm;refine q_E f147 35 λE=>?_;refine s_vn [] 0 ⟨[(1,vp 0 0)],[(0,bx 71 (qX a1))]⟩ ?_;obtain⟨v2,h3,hm⟩:=qB hm;refine s_vu [qc 1 [8] 1 (SS a1 v2 h3)] 1 [] [(4,vo 1 0 1 v2.length)] [] [(1,ro 0 3 1 v2.length (rf qD v2))] (s_va 2 [(5,vi (w64 ((a1.Read.length:Int)-(v2.length:Int))))] ?_);refine q_sq (s_va 2 [(18,vb ((v2.length:Int)==0))] ?_);refine q_cq hm (λhm=>?_) (λhm=>?_)
 ·refine s_vn [] 2 ⟨[(2,vi (w64 ((a1.Read.length:Int)-(v2.length:Int)))),(3,vi (w64 ((a1.Read.length:Int)-(v2.length:Int))))],[]⟩ ?_;obtain rfl:=oi hm;exact q_rt q_rm
 ·refine q_sk (s_vv [] 2 [18] [(6,vi 0)] ?_);refine q_sq (s_va 2 [(22,vi (v2.length:Int)),(23,vi 0)] ?_);obtain⟨o11,h12,hm⟩:=qB hm;refine zG (nd f147 1012) 0 (by kernel_rfl) FUEL (λo=>qGQ a1 v2 o) o11 (q_hl (CX a1 v2 0 0) (qOl E a1 v2 FUEL 0 0 o11 h12)) (s_vn [] 2 ⟨[(2,vi (w64 ((a1.Read.length:Int)-(v2.length:Int)))),(3,vi o11)],[]⟩ ?_);obtain rfl:=oi hm;exact q_rt q_rm
open Go.Proofs Go.Proofs.Tryz
def qIt (r:(List qA)×Int):V:= .tup [.one (.own 0 0 2 r.1.length),.one (ci r.2)]
def HV (r:(List qA)×Int):List (Nat×(Nat×O)):=[(0,ro 0 93 2 r.1.length (rf qE r.1))]
theorem qRB (r:(List qA)×Int):yE (HV r):=by
 intro i k o h;unfold HV at h;rw[look_cons] at h;split at h
 ·cases h;exact λ_ _=>rfl
 ·cases h
def NJ (a1:Ring) (v6:(List Int)) (x16:Int):St:=
 ⟨[(2,vp 0 0),(7,vo 1 0 1 v6.length),(45,vo 1 0 1 v6.length),(46,vi (v6.length:Int)),(47,vi x16)],[(0,bx 71 (qX a1)),(1,ro 0 3 1 v6.length (rf qD v6))]⟩
def SJ (a1:Ring) (v6:(List Int)) (x16:Int) (v24:Int) (l26:List qA) (l26n:Nat) (x27:Int):St:=
 (NJ a1 v6 x16).up [] [(10,vo 2 0 2 l26n),(12,vi (v6.getD x16.toNat dd)),(13,vp 3 0),(14,vp 4 0),(15,vi v24),(16,vi x27)] [] [(2,ro 0 93 2 l26n (rf qE l26)),(3,bx 93 (qE ((a1.Read.getD (v6.getD x16.toNat dd).toNat dd).P))),(4,bx 93 (qE ((a1.Read.getD (v6.getD ((Int.tmod (w64 (x16+1)) (v6.length:Int)).toNat) dd).toNat dd).P)))]
def qDN (a1:Ring) (v6:(List Int)) (x16:Int) (l35:List qA):St:=
 (NJ a1 v6 x16).up [] [(10,vo 2 0 2 l35.length)] [] [(2,ro 0 93 2 l35.length (rf qE l35))]
def SO (a1:Ring) (v6:(List Int)) (l15:List qA) (l15n:Nat) (x16:Int):St:=
 (NJ a1 v6 x16).up [] [(10,vo 2 0 2 l15n)] [] [(2,ro 0 93 2 l15n (rf qE l15))]
def qD4 (l38:List qA):St:=
 ⟨[(10,vo 2 0 2 l38.length)],[(2,ro 0 93 2 l38.length (rf qE l38))]⟩
def qM6 (a1:Ring) (v6:(List Int)) (x12:Bool):St:=
 ⟨[(2,vp 0 0),(7,vo 1 0 1 v6.length),(40,vb x12)],[(0,bx 71 (qX a1)),(1,ro 0 3 1 v6.length (rf qD v6))]⟩
theorem qKZ (E:Env 0) (a1:Ring) (v6:(List Int)) (x16:Int) (v24:Int):∀(n:Nat) (l26:List qA) (l26n:Nat) (x27:Int) (res:(List qA)),l26.length=l26n->XB a1 v6 x16 v24 n l26 x27=some res->HL (kx E 121 0) (nd f88 4171388) (zM 2 (λo=>qDN a1 v6 x16 o) res) n (SJ a1 v6 x16 v24 l26 l26n x27):=by
 intro n
 induction n with
 |zero=>
  intro l26 l26n x27 res hl0 hm;cases hm
 |succ n ih=>
  intro l26 l26n x27 res hl0 hm;subst hl0;refine qS (q_sq ?_);refine s_va 5 [(81,vb (decide (x27<=v24)))] (q_cq hm (λhm=>?_) (λhm=>?_))
  ·refine q_sk (q_sq ?_);refine q_bk 3 ?_;obtain⟨g29,hm⟩:=qJ hm;obtain⟨v30,h31,hm⟩:=qB hm;obtain⟨v32,h33,hm⟩:=qB hm;obtain⟨g34,hm⟩:=qJ hm
   refine q_du [qd 6 dN (HX g29),qc 18 [99,101] 5 (qIH (w64 ((w64 ((((a1.Read.getD (v6.getD ((Int.tmod (w64 (x16+1)) (v6.length:Int)).toNat) dd).toNat dd).P).X)-(((a1.Read.getD (v6.getD x16.toNat dd).toNat dd).P).X)))*x27)) (w64 (v24+1)) v30 h31),qc 31 [112,114] 5 (qIH (w64 ((w64 ((((a1.Read.getD (v6.getD ((Int.tmod (w64 (x16+1)) (v6.length:Int)).toNat) dd).toNat dd).P).Y)-(((a1.Read.getD (v6.getD x16.toNat dd).toNat dd).P).Y)))*x27)) (w64 (v24+1)) v32 h33),qi 34 g34,qd 35 (drw 0 0 (rf qE (l26.set ((Int.tmod (w64 ((v6.getD x16.toNat dd)+x27)) (l26.length:Int)).toNat) (qA.mk (w64 ((((a1.Read.getD (v6.getD x16.toNat dd).toNat dd).P).X)+v30)) (w64 ((((a1.Read.getD (v6.getD x16.toNat dd).toNat dd).P).Y)+v32)))))) (stP qE dd (qA.mk (w64 ((((a1.Read.getD (v6.getD x16.toNat dd).toNat dd).P).X)+v30)) (w64 ((((a1.Read.getD (v6.getD x16.toNat dd).toNat dd).P).Y)+v32))) l26 l26.length ((Int.tmod (w64 ((v6.getD x16.toNat dd)+x27)) (l26.length:Int)).toNat) 0 [ci (w64 ((((a1.Read.getD (v6.getD x16.toNat dd).toNat dd).P).X)+v30)),ci (w64 ((((a1.Read.getD (v6.getD x16.toNat dd).toNat dd).P).Y)+v32))] rfl (qW (zC g34)) rfl)] [0,0,0,6,0,16,62,0,128,0,512,0,2048,7680,0,32256,0,65536,261632,524160,0,1048576,0,4194304,0,16777216,62914560,0,264241152,0,536870912,2143813120,4294442496,8589934464,17179869183,34359738367] 5 [81] [] [2] [(2,ro 0 93 2 l26.length (rf qE (l26.set ((Int.tmod (w64 ((v6.getD x16.toNat dd)+x27)) (l26.length:Int)).toNat) (qA.mk (w64 ((((a1.Read.getD (v6.getD x16.toNat dd).toNat dd).P).X)+v30)) (w64 ((((a1.Read.getD (v6.getD x16.toNat dd).toNat dd).P).Y)+v32))))))] ?_
   exact q_vv [] 5 [16] [(16,vi (w64 (x27+1)))] (q_hl (SJ a1 v6 x16 v24 (l26.set ((Int.tmod (w64 ((v6.getD x16.toNat dd)+x27)) (l26.length:Int)).toNat) (qA.mk (w64 ((((a1.Read.getD (v6.getD x16.toNat dd).toNat dd).P).X)+v30)) (w64 ((((a1.Read.getD (v6.getD x16.toNat dd).toNat dd).P).Y)+v32)))) l26.length (w64 (x27+1))) (ih (l26.set ((Int.tmod (w64 ((v6.getD x16.toNat dd)+x27)) (l26.length:Int)).toNat) (qA.mk (w64 ((((a1.Read.getD (v6.getD x16.toNat dd).toNat dd).P).X)+v30)) (w64 ((((a1.Read.getD (v6.getD x16.toNat dd).toNat dd).P).Y)+v32)))) l26.length (w64 (x27+1)) _ (jV rfl) hm))
  ·refine q_ex 2 ?_;obtain rfl:=oi hm;exact q_l0
theorem qKS (E:Env 0) (a1:Ring) (v6:(List Int)):∀(n:Nat) (l15:List qA) (l15n:Nat) (x16:Int) (res:(List qA)),l15.length=l15n->WN a1 v6 n l15 x16=some res->HL (kx E 121 0) (nd f88 2036) (zM 0 qD4 res) n (SO a1 v6 l15 l15n x16):=by
 intro n
 induction n with
 |zero=>
  intro l15 l15n x16 res hl0 hm;cases hm
 |succ n ih=>
  intro l15 l15n x16 res hl0 hm;subst hl0;refine qS (s_va 3 [(48,vb (decide (x16<(v6.length:Int))))] ?_);refine q_sq (q_cq hm (λhm=>?_) (λhm=>?_))
  ·refine q_sk (q_sq ?_);refine q_bk 1 ?_;obtain⟨g18,hm⟩:=qJ hm;refine s_vv [qi 1 g18,qd 2 dN (qW (zC g18))] 3 [48] [(11,vi x16),(12,vi (v6.getD x16.toNat dd))] ?_;obtain⟨g19,hm⟩:=qJ hm;obtain⟨g20,hm⟩:=qJ hm;obtain⟨g21,hm⟩:=qJ hm;obtain⟨g22,hm⟩:=qJ hm
   refine s_du [qi 3 g19,qd 13 dN (HX g20),qi 14 g21,qd 15 dN (qW (zC g21)),qi 16 g22] [0,1,0,7,15,31,0,64,0,0,512,0,2048,7680,16128,32512,65472,131008,262080,0,0,1572927,4194303] 3 [] [(13,vp 3 0),(14,vp 4 0)] [] [(3,bx 93 (qE ((a1.Read.getD (v6.getD x16.toNat dd).toNat dd).P))),(4,bx 93 (qE ((a1.Read.getD (v6.getD ((Int.tmod (w64 (x16+1)) (v6.length:Int)).toNat) dd).toNat dd).P)))] ?_;obtain⟨g23,hm⟩:=qJ hm
   refine s_vu [qi 3 g23,qd 4 (drw 0 0 (rf qE (l15.set ((v6.getD x16.toNat dd).toNat) ((a1.Read.getD (v6.getD x16.toNat dd).toNat dd).P)))) (stP qE dd ((a1.Read.getD (v6.getD x16.toNat dd).toNat dd).P) l15 l15.length ((v6.getD x16.toNat dd).toNat) 0 [ci (((a1.Read.getD (v6.getD x16.toNat dd).toNat dd).P).X),ci (((a1.Read.getD (v6.getD x16.toNat dd).toNat dd).P).Y)] rfl (qW (zC g23)) rfl)] 5 [] [] [2] [(2,ro 0 93 2 l15.length (rf qE (l15.set ((v6.getD x16.toNat dd).toNat) ((a1.Read.getD (v6.getD x16.toNat dd).toNat dd).P))))] ?_;obtain⟨v24,h25,hm⟩:=qB hm
   refine s_vv [qd 3 (dex (cen [] [] 5 0 (qCx v24) (VQ v24) [75,76,77] [1])) (wB (K:=(kx E 121 0)) (b:=false) ⟨[(75,va (qX a1)),(76,vo 1 0 1 v6.length),(77,vi x16)],[(1,ro 0 3 1 v6.length (rf qD v6))]⟩ (opAt (rg f88 521422) 3) [] [] 5 (o1 (ke v6.length)) rfl (qHi a1 v6 x16 v24 h25) (.inr ⟨(by kernel_rfl),qIB v24⟩) (by kernel_rfl))] 5 [11] [(15,vi v24)] (s_va 5 [(16,vi 1)] ?_);obtain⟨o36,h37,hm⟩:=qB hm
   refine zG (nd f88 4171388) 2 (by kernel_rfl) FUEL (λo=>qDN a1 v6 x16 o) o36 (q_hl (SJ a1 v6 x16 v24 (l15.set ((v6.getD x16.toNat dd).toNat) ((a1.Read.getD (v6.getD x16.toNat dd).toNat dd).P)) l15.length 1) (qKZ E a1 v6 x16 v24 FUEL (l15.set ((v6.getD x16.toNat dd).toNat) ((a1.Read.getD (v6.getD x16.toNat dd).toNat dd).P)) l15.length 1 o36 (jV rfl) h37)) (q_vv [] 5 [47] [(47,vi (w64 (x16+1)))] ?_);exact q_hl (SO a1 v6 o36 o36.length (w64 (x16+1))) (ih o36 o36.length (w64 (x16+1)) _ rfl hm)
  ·refine q_ex 0 ?_;obtain rfl:=oi hm;exact q_l0
theorem qP3 (a1:Ring) (a2:Int) (r:(List qA)×Int) (hm:MR a1 a2=some r):CtX Tryz.prog globs 88 0 0 [.agg (qX a1),.one (ci a2)] [] (qIt r) (HV r):=by
 unfold MR at hm;refine q_E f88 121 λE=>?_;refine s_vn [] 0 ⟨[(1,vi a2),(2,vp 0 0)],[(0,bx 71 (qX a1))]⟩ (q_sq ?_);obtain⟨v3,h4,hm⟩:=qB hm;refine s_vv [qc 1 [17] 1 (HQ a1 v3 h4)] 1 [] [(6,vi v3)] (s_va 1 [(20,vb (v3 !=0))] ?_);refine q_cq hm (λhm=>?_) (λhm=>?_)
 ·refine s_vn [] 1 ⟨[(4,vc (.emp)),(5,vi v3)],[]⟩ (q_fo 4 1 93 2 qE ?_);refine q_fl 4 1 93 2 qE ?_;obtain rfl:=oi hm;exact q_sw 1 0 (q_rt q_rm)
 ·refine q_sk ?_;obtain⟨v6,h7,hm⟩:=qB hm;refine s_vu [qc 1 [22] 1 (SS a1 v6 h7)] 1 [6,20] [(7,vo 1 0 1 v6.length)] [] [(1,ro 0 3 1 v6.length (rf qD v6))] ?_;obtain⟨v8,h9,hm⟩:=qB hm;refine s_vv [qc 1 [25] 2 (qSO a1 v8 h9)] 2 [] [(8,vi v8.1),(9,vi v8.2)] (q_sq ?_);refine q_jn (qM6 a1 v6) (λp=>RR a1 v6 p=some r) ?_ ?_
  ·rintro x12 hm;refine q_cq hm (λhm=>?_) (λhm=>?_)
   ·refine s_vn [] 2 ⟨[(4,vc (.emp)),(5,vi 30)],[]⟩ (q_fo 4 2 93 2 qE ?_);refine q_fl 4 2 93 2 qE ?_;obtain rfl:=oi hm;exact q_sw 2 0 (q_rt q_rm)
   ·refine q_sk ?_;obtain⟨g14,hm⟩:=qJ hm;refine s_vu [qd 3 (drw 2 0 (rf qE (List.replicate ((a1.Read.length:Int).toNat) (qA.mk 0 0)))) (mkP qE dd (qA.mk 0 0) (a1.Read.length:Int) 16 [ci 0,ci 0] (TC g14) rfl)] 2 [40] [(10,vo 2 0 2 ((a1.Read.length:Int).toNat))] [] [(2,ro 0 93 2 ((a1.Read.length:Int).toNat) (rf qE (List.replicate ((a1.Read.length:Int).toNat) (qA.mk 0 0))))] (q_sq ?_);refine s_va 3 [(45,vo 1 0 1 v6.length),(46,vi (v6.length:Int)),(47,vi 0)] ?_;obtain⟨o39,h40,hm⟩:=qB hm
    refine zG (nd f88 2036) 0 (by kernel_rfl) FUEL qD4 o39 (q_hl (SO a1 v6 (List.replicate ((a1.Read.length:Int).toNat) (qA.mk 0 0)) ((a1.Read.length:Int).toNat) 0) (qKS E a1 v6 FUEL (List.replicate ((a1.Read.length:Int).toNat) (qA.mk 0 0)) ((a1.Read.length:Int).toNat) 0 o39 TQ h40)) (s_vv [] 3 [10] [(4,vo 2 0 2 o39.length),(5,vi 0)] ?_);obtain rfl:=oi hm;exact q_sw 2 0 (q_rt q_rm)
  ·rcases bif_c hm with⟨b10,hm⟩|⟨b10,hm⟩
   ·exact q_vv [qf 3 b10] 2 [1,8,9] [(40,vb true)] (q_J (true) hm)
   ·rcases bif_c hm with⟨b11,hm⟩|⟨b11,hm⟩
    ·exact q_vv [qf 3 b10,qf 6 b11] 2 [1,8,9] [(40,vb (decide (v8.2>a2)))] (q_J (decide (v8.2>a2)) hm)
    ·exact q_vv [qf 3 b10,qf 6 b11] 2 [1,8,9] [(40,vb false)] (q_J (false) hm)
def qRs (r:Bool):V:=vb r
def qR1 (r:Bool):List (Nat×(Nat×O)):=[]
def qNm (x3:Bool):St:=
 ⟨[(2,vb x3)],[]⟩
theorem qAW (a1:Int) (r:Bool) (hm:GI a1=some r):CtX Tryz.prog globs 226 0 0 [.one (ci a1)] [] (qRs r) (qR1 r):=by
 unfold GI at hm;refine q_E f226 9 λE=>?_;refine s_vn [] 0 ⟨[(0,vi a1)],[]⟩ (q_jn (qNm) (λp=>FQ p=some r) ?_ ?_)
 ·rintro x3 hm;obtain rfl:=oi hm;exact q_rt q_rm
 ·rcases bif_c hm with⟨b2,hm⟩|⟨b2,hm⟩
  ·exact q_vn [qf 2 b2] 0 ⟨[(2,vb (decide (a1<=600)))],[]⟩ (q_J (decide (a1<=600)) hm)
  ·exact q_vn [qf 2 b2] 0 ⟨[(2,vb false)],[]⟩ (q_J (false) hm)
end Saw
end Go.SL

import Derived.Test.YthbamnkheinbgaaGreatDoorSBase
import Derived.Test.YthbamnkheinbgaaGreatDoorSFa5
import Derived.Test.YthbamnkheinbgaaGreatDoorSFa2
import Derived.Test.YthbamnkheinbgaaGreatDoorSFa4
set_option linter.unusedVariables false
set_option linter.unusedSimpArgs false
namespace Go.SL
namespace Saw
open Go.Proofs Go.Proofs.Tryz
set_option maxHeartbeats 4000000
set_option maxRecDepth 100000
def YM (r:(List qD)×Bool):V:= .tup [.one (.own 0 0 3 r.1.length),.one (cb r.2)]
def yN (r:(List qD)×Bool):List (Nat×(Nat×O)):=[(0,ro 0 73 3 r.1.length (rf qG r.1))]
theorem qEe (r:(List qD)×Bool):yX (yN r):=by
 intro i k o h;unfold yN at h;rw[look_cons] at h;split at h
 ·cases h;exact λ_ _=>rfl
 ·cases h
def qBR (l2:List Int) (l3:List qD) (x10:Bool):St:=
 ⟨[(0,vc (tl qK dd l2)),(4,vo 0 0 3 l3.length),(19,vb x10)],[(0,ro 0 73 3 l3.length (rf qG l3))]⟩
def ZK (l2:List Int) (l3:List qD) (l3n:Nat):St:=
 ⟨[(0,vc (tl qK dd l2)),(4,vo 0 0 3 l3n)],[(0,ro 0 73 3 l3n (rf qG l3))]⟩
def BZ (l16:List qD):St:=
 ⟨[(4,vo 0 0 3 l16.length)],[(0,ro 0 73 3 l16.length (rf qG l16))]⟩
theorem qA1 (E:Env 0):∀(n:Nat) (l2:List Int) (l3:List qD) (l3n:Nat) (res:((List qD)×Bool)⊕(List qD)),l3.length=l3n->jP n l2 l3=some res->HL (kx E 43 0) (nd f110 56) (jJ 0 BZ (λv st=>RetQ Tryz.prog f110 (YM v) (yN v) .ret st) res) n (ZK l2 l3 l3n):=by
 intro n
 induction n with
 |zero=>
  intro l2 l3 l3n res hl0 hm;cases hm
 |succ n ih=>
  intro l2 l3 l3n res hl0 hm;subst hl0;refine qU (q_sq ?_);refine s_va 1 [(7,vb (decide ((l2.length:Int)>0)))] (q_cq hm (λhm=>?_) (λhm=>?_))
  ·refine q_sk (q_bk 1 ?_);refine q_bk 2 ?_;obtain⟨g5,hm⟩:=qH hm;refine s_vv [qi 1 g5] 1 [7] [(8,vb ((l2.getD (0:Int).toNat dd)==0))] (q_cq hm (λhm=>?_) (λhm=>?_))
   ·obtain⟨g7,hm⟩:=qH hm;refine s_vu [qd 2 (drw 1 0 (rf qG [(qD.mk (qA.mk 0 0) false)])) (litP qG dd 3 (λ_=>rfl) ([(qD.mk (qA.mk 0 0) false)]:List qD) 1 rfl),qd 3 (drw 0 1 (rf qG (l3++[(qD.mk (qA.mk 0 0) false)]))) (apP qG dd l3 ([(qD.mk (qA.mk 0 0) false)]:List qD) l3.length 1 3 24 (1<=1) (kr _) rfl rfl (λ_=>rfl) (wE g7))] 1 [4,8] [(4,vo 0 1 3 (l3.length+1))] [0] [(0,ro 1 73 3 (l3.length+1) (rf qG (l3++[(qD.mk (qA.mk 0 0) false)])))] ?_;obtain⟨g8,hm⟩:=qH hm
    exact q_vv [qd 1 (drw ((l2.drop ((1:Int).toNat)).length) 0 (rf qK (l2.drop ((1:Int).toNat)))) (slPlo qK dd l2 1 (And.intro (zG g8).1 (zG g8).2.1))] 2 [0] [(0,vc (tl qK dd (l2.drop ((1:Int).toNat))))] (q_hl (ZK (l2.drop ((1:Int).toNat)) (l3++[(qD.mk (qA.mk 0 0) false)]) (l3.length+1)) (ih (l2.drop ((1:Int).toNat)) (l3++[(qD.mk (qA.mk 0 0) false)]) (l3.length+1) _ (wS rfl rfl) hm))
   ·refine q_jn (qBR l2 l3) (λp=>RL l2 l3 (jP n) p=some res) ?_ ?_
    ·rintro x10 hm;refine q_cq hm (λhm=>?_) (λhm=>?_)
     ·obtain⟨g12,hm⟩:=qH hm;obtain⟨g13,hm⟩:=qH hm;obtain⟨g14,hm⟩:=qH hm
      refine s_du [qi 2 g12,qi 5 g13,qd 9 (drw 1 0 (rf qG [(qD.mk (qA.mk (l2.getD (1:Int).toNat dd) (l2.getD (2:Int).toNat dd)) true)])) (litP qG dd 3 (λ_=>rfl) ([(qD.mk (qA.mk (l2.getD (1:Int).toNat dd) (l2.getD (2:Int).toNat dd)) true)]:List qD) 1 rfl),qd 10 (drw 0 1 (rf qG (l3++[(qD.mk (qA.mk (l2.getD (1:Int).toNat dd) (l2.getD (2:Int).toNat dd)) true)]))) (apP qG dd l3 ([(qD.mk (qA.mk (l2.getD (1:Int).toNat dd) (l2.getD (2:Int).toNat dd)) true)]:List qD) l3.length 1 3 24 (1<=1) (kr _) rfl rfl (λ_=>rfl) (wE g14))] [0,0,2,6,0,16,48,126,254,510,1023,2047] 1 [4,19] [(4,vo 0 1 3 (l3.length+1))] [0] [(0,ro 1 73 3 (l3.length+1) (rf qG (l3++[(qD.mk (qA.mk (l2.getD (1:Int).toNat dd) (l2.getD (2:Int).toNat dd)) true)])))] ?_
      obtain⟨g15,hm⟩:=qH hm;exact q_vv [qd 1 (drw ((l2.drop ((3:Int).toNat)).length) 0 (rf qK (l2.drop ((3:Int).toNat)))) (slPlo qK dd l2 3 (And.intro (zG g15).1 (zG g15).2.1))] 2 [0] [(0,vc (tl qK dd (l2.drop ((3:Int).toNat))))] (q_hl (ZK (l2.drop ((3:Int).toNat)) (l3++[(qD.mk (qA.mk (l2.getD (1:Int).toNat dd) (l2.getD (2:Int).toNat dd)) true)]) (l3.length+1)) (ih (l2.drop ((3:Int).toNat)) (l3++[(qD.mk (qA.mk (l2.getD (1:Int).toNat dd) (l2.getD (2:Int).toNat dd)) true)]) (l3.length+1) _ (wS rfl rfl) hm))
     ·refine s_vn [] 1 ⟨[(2,vc (.emp)),(3,vb false)],[]⟩ (q_fo 2 1 73 3 qG ?_);refine q_fl 2 1 73 3 qG ?_;obtain rfl:=oi hm;refine q_sw 1 0 (q_rt ?_);exact zR (([]:List qD),false) q_rm
    ·rcases bif_c hm with⟨b9,hm⟩|⟨b9,hm⟩
     ·exact q_vv [qi 1 g5,qf 4 b9] 1 [8] [(19,vb (decide ((l2.length:Int)≥3)))] (q_J (decide ((l2.length:Int)≥3)) hm)
     ·exact q_vv [qi 1 g5,qf 4 b9] 1 [8] [(19,vb false)] (q_J (false) hm)
  ·refine q_ex 0 ?_;obtain rfl:=oi hm;exact q_l1 l3
theorem qCN (a1:List Int) (r:(List qD)×Bool) (hm:NM a1=some r):CtX Tryz.prog globs 110 0 0 [.one (tl qK dd a1)] [] (YM r) (yN r):=by
 unfold NM at hm;refine q_E f110 43 λE=>?_;refine s_vn [] 0 ⟨[(0,vc (tl qK dd a1))],[]⟩ (s_va 0 [(4,vc (.emp))] ?_);refine q_sq (q_fo 4 0 73 3 qG ?_);obtain⟨u19,h18,hm⟩:=qE hm;refine zZ (nd f110 56) 0 (by kernel_rfl) FUEL BZ (λv st=>RetQ Tryz.prog f110 (YM v) (yN v) .ret st) u19 (q_hl (ZK a1 ([]:List qD) 0) (qA1 E FUEL a1 ([]:List qD) 0 u19 rfl h18)) ?_ ?_
 ·rintro v20 rfl st hr;obtain rfl:=oi hm;exact hr
 ·rintro o17 rfl;replace hm:_=some r:=hm;refine s_vv [] 1 [4] [(2,vo 0 0 3 o17.length),(3,vb true)] ?_;obtain rfl:=oi hm;exact q_rt q_rm
def qEX (r:qF):V:=vp 0 0
def qE9 (r:qF):List (Nat×(Nat×O)):=[(0,bx 172 (qJ r))]
theorem qD9 (a1:ByteArray) (r:qF) (hm:LN a1=some r):CtX Tryz.prog globs 107 0 0 [.one (cs a1)] [] (qEX r) (qE9 r):=by
 unfold LN at hm;refine q_E f107 6 λE=>?_;refine s_vn [] 0 ⟨[(0,vc (cs a1))],[]⟩ (s_vn [] 0 ⟨[(2,vp 0 0)],[(0,bx 172 [cs a1,ci 0,ci 0])]⟩ ?_);obtain rfl:=oi hm;exact q_rt q_rm
def AT (r:(List qL)×Bool):V:= .tup [.one (.own 0 0 7 r.1.length),.one (cb r.2)]
def KC (r:(List qL)×Bool):List (Nat×(Nat×O)):=[(0,ro 0 68 7 r.1.length (rf qO r.1))]
theorem qEV (r:(List qL)×Bool):yX (KC r):=by
 intro i k o h;unfold KC at h;rw[look_cons] at h;split at h
 ·cases h;exact λ_ _=>rfl
 ·cases h
def PP (l3:List Int) (l4:List qL) (l4n:Nat):St:=
 ⟨[(0,vc (tl qK dd l3)),(4,vo 0 0 7 l4n)],[(0,ro 0 68 7 l4n (rf qO l4))]⟩
def FK (l15:List qL):St:=
 ⟨[(4,vo 0 0 7 l15.length)],[(0,ro 0 68 7 l15.length (rf qO l15))]⟩
theorem qBV (E:Env 0):∀(n:Nat) (l3:List Int) (l4:List qL) (l4n:Nat) (res:(List qL)),l4.length=l4n->VA n l3 l4=some res->HL (kx E 46 0) (nd f111 120) (zW 0 FK res) n (PP l3 l4 l4n):=by
 intro n
 induction n with
 |zero=>
  intro l3 l4 l4n res hl0 hm;cases hm
 |succ n ih=>
  intro l3 l4 l4n res hl0 hm;subst hl0;refine qU (q_sq ?_);refine s_va 1 [(12,vb (decide ((l3.length:Int)>0)))] (q_cq hm (λhm=>?_) (λhm=>?_))
  ·refine q_sk (q_sq ?_);refine q_bk 1 ?_;obtain⟨g6,hm⟩:=qH hm;obtain⟨g7,hm⟩:=qH hm;obtain⟨g8,hm⟩:=qH hm;obtain⟨g9,hm⟩:=qH hm;obtain⟨g10,hm⟩:=qH hm;obtain⟨g11,hm⟩:=qH hm;refine s_du [qi 1 g6,qi 4 g7,qi 8 g8,qi 11 g9,qi 15 g10,qi 18 g11] [0,1,3,0,8,24,63,0,128,384,0,1024,3072,8064,0,16384,49152,0,131072,393216,1032192,2097151,0,8388607] 1 [12] [(5,vp 1 0)] [] [(1,bx 66 [ci (l3.getD (1:Int).toNat dd),ci (l3.getD (2:Int).toNat dd),ci (l3.getD (3:Int).toNat dd),ci (l3.getD (4:Int).toNat dd),ci (l3.getD (5:Int).toNat dd),ci (l3.getD (6:Int).toNat dd)])] ?_;obtain⟨g12,hm⟩:=qH hm
   obtain⟨g13,hm⟩:=qH hm
   refine q_du [qi 2 g12,qd 6 (drw 2 0 (rf qO [(qL.mk (l3.getD (0:Int).toNat dd) (Box.mk (Span.mk (l3.getD (1:Int).toNat dd) (l3.getD (2:Int).toNat dd)) (Span.mk (l3.getD (3:Int).toNat dd) (l3.getD (4:Int).toNat dd)) (Span.mk (l3.getD (5:Int).toNat dd) (l3.getD (6:Int).toNat dd))))])) (litP qO dd 7 (λ_=>rfl) ([(qL.mk (l3.getD (0:Int).toNat dd) (Box.mk (Span.mk (l3.getD (1:Int).toNat dd) (l3.getD (2:Int).toNat dd)) (Span.mk (l3.getD (3:Int).toNat dd) (l3.getD (4:Int).toNat dd)) (Span.mk (l3.getD (5:Int).toNat dd) (l3.getD (6:Int).toNat dd))))]:List qL) 1 rfl),qd 7 (drw 0 1 (rf qO (l4++[(qL.mk (l3.getD (0:Int).toNat dd) (Box.mk (Span.mk (l3.getD (1:Int).toNat dd) (l3.getD (2:Int).toNat dd)) (Span.mk (l3.getD (3:Int).toNat dd) (l3.getD (4:Int).toNat dd)) (Span.mk (l3.getD (5:Int).toNat dd) (l3.getD (6:Int).toNat dd))))]))) (apP qO dd l4 ([(qL.mk (l3.getD (0:Int).toNat dd) (Box.mk (Span.mk (l3.getD (1:Int).toNat dd) (l3.getD (2:Int).toNat dd)) (Span.mk (l3.getD (3:Int).toNat dd) (l3.getD (4:Int).toNat dd)) (Span.mk (l3.getD (5:Int).toNat dd) (l3.getD (6:Int).toNat dd))))]:List qL) l4.length 1 7 56 (1<=1) (kr _) rfl rfl (λ_=>rfl) (wE g13))] [0,0,2,6,0,30,62,127,255] 2 [4,5] [(4,vo 0 1 7 (l4.length+1))] [0,1] [(0,ro 1 68 7 (l4.length+1) (rf qO (l4++[(qL.mk (l3.getD (0:Int).toNat dd) (Box.mk (Span.mk (l3.getD (1:Int).toNat dd) (l3.getD (2:Int).toNat dd)) (Span.mk (l3.getD (3:Int).toNat dd) (l3.getD (4:Int).toNat dd)) (Span.mk (l3.getD (5:Int).toNat dd) (l3.getD (6:Int).toNat dd))))])))] ?_
   obtain⟨g14,hm⟩:=qH hm;refine q_vv [qd 1 (drw ((l3.drop ((7:Int).toNat)).length) 0 (rf qK (l3.drop ((7:Int).toNat)))) (slPlo qK dd l3 7 (And.intro (zG g14).1 (zG g14).2.1))] 3 [0] [(0,vc (tl qK dd (l3.drop ((7:Int).toNat))))] ?_
   exact q_hl (PP (l3.drop ((7:Int).toNat)) (l4++[(qL.mk (l3.getD (0:Int).toNat dd) (Box.mk (Span.mk (l3.getD (1:Int).toNat dd) (l3.getD (2:Int).toNat dd)) (Span.mk (l3.getD (3:Int).toNat dd) (l3.getD (4:Int).toNat dd)) (Span.mk (l3.getD (5:Int).toNat dd) (l3.getD (6:Int).toNat dd))))]) (l4.length+1)) (ih (l3.drop ((7:Int).toNat)) (l4++[(qL.mk (l3.getD (0:Int).toNat dd) (Box.mk (Span.mk (l3.getD (1:Int).toNat dd) (l3.getD (2:Int).toNat dd)) (Span.mk (l3.getD (3:Int).toNat dd) (l3.getD (4:Int).toNat dd)) (Span.mk (l3.getD (5:Int).toNat dd) (l3.getD (6:Int).toNat dd))))]) (l4.length+1) _ (wS rfl rfl) hm)
  ·refine q_ex 0 ?_;obtain rfl:=oi hm;exact q_l0
theorem qEr (a1:List Int) (r:(List qL)×Bool) (hm:LJ a1=some r):CtX Tryz.prog globs 111 0 0 [.one (tl qK dd a1)] [] (AT r) (KC r):=by
 unfold LJ at hm;refine q_E f111 46 λE=>?_;refine s_vn [] 0 ⟨[(0,vc (tl qK dd a1))],[]⟩ (q_sq ?_);refine s_vv [qd 2 dN (show(7:Int)≠0 by decide)] 0 [] [(9,vb ((Int.tmod (a1.length:Int) 7) !=0))] (q_cq hm (λhm=>?_) (λhm=>?_))
 ·refine s_vn [] 0 ⟨[(2,vc (.emp)),(3,vb false)],[]⟩ (q_fo 2 0 68 7 qO ?_);refine q_fl 2 0 68 7 qO ?_;obtain rfl:=oi hm;exact q_rt q_rm
 ·refine q_sk (s_vv [] 0 [9] [(4,vc (.emp))] ?_);refine q_sq (q_fo 4 0 68 7 qO ?_);obtain⟨o16,h17,hm⟩:=qE hm;refine zU (nd f111 120) 0 (by kernel_rfl) FUEL FK o16 (q_hl (PP a1 ([]:List qL) 0) (qBV E FUEL a1 ([]:List qL) 0 o16 rfl h17)) (s_vv [] 1 [4] [(2,vo 0 0 7 o16.length),(3,vb true)] ?_);obtain rfl:=oi hm;exact q_rt q_rm
open Go.Proofs Go.Proofs.Tryz
def ES (a1:qF) (r:Int):V:=vi r
def EQ (a1:qF) (r:Int):List (Nat×(Nat×O)):=[(0,bx 172 (qJ a1))]
theorem qDg (a1:qF) (r:Int) (hm:BW a1=some r):CtX Tryz.prog globs 164 1 1 [.one (.bptr 0 0 0)] [(0,bx 172 (qJ a1))] (ES a1 r) (EQ a1 r):=by
 unfold BW at hm;refine q_E f164 9 λE=>?_;refine s_vn [] 1 ⟨[(0,vp 0 0)],[(0,bx 172 (qJ a1))]⟩ (q_sq ?_);refine s_va 1 [(4,vb false)] (R_cnF f164 (.tmp 4) 26 27 (by kernel_rfl) (by kernel_rfl) ?_);refine q_sk (s_vv [] 1 [0,4] [(2,vi a1.e)] ?_);obtain rfl:=oi hm;exact q_rt q_rm
def HX (a1:qF) (r:Int):V:=vi r
def SQ (a1:qF) (r:Int):List (Nat×(Nat×O)):=[(0,bx 172 (qJ a1))]
theorem qCy (a1:qF) (r:Int) (hm:GX a1=some r):CtX Tryz.prog globs 165 1 1 [.one (.bptr 0 0 0)] [(0,bx 172 (qJ a1))] (HX a1 r) (SQ a1 r):=by
 unfold GX at hm;refine q_E f165 15 λE=>?_;refine s_vn [] 1 ⟨[(0,vp 0 0)],[(0,bx 172 (qJ a1))]⟩ (q_sq ?_);refine s_va 1 [(4,vb false)] (R_cnF f165 (.tmp 4) 26 27 (by kernel_rfl) (by kernel_rfl) ?_);refine q_sk (s_du [] [0,1,3,7,15,0,32,96,224,511,1023] 1 [0,4] [(2,vi (w64 ((a1.s.size:Int)-a1.at_)))] [] [] ?_);obtain rfl:=oi hm;exact q_rt q_rm
def EV (a1:qF) (r:Int):V:=vi r
def EX (a1:qF) (r:Int):List (Nat×(Nat×O)):=[(0,bx 172 (qJ a1))]
theorem qDh (a1:qF) (r:Int) (hm:BR a1=some r):CtX Tryz.prog globs 112 1 1 [.one (.bptr 0 0 0)] [(0,bx 172 (qJ a1))] (EV a1 r) (EX a1 r):=by
 unfold BR at hm;refine q_E f112 12 λE=>?_;refine s_vn [] 1 ⟨[(0,vp 0 0)],[(0,bx 172 (qJ a1))]⟩ (q_sq ?_);obtain⟨v2,h3,hm⟩:=qE hm;refine s_vv [qd 1 (dex (cen [(0,0)] [0] 0 1 (ES a1 v2) (EQ a1 v2) [4] [0])) (zI (K:=(kx E 12 1)) ⟨[(4,vp 0 0)],[(0,bx 172 (qJ a1))]⟩ (opAt (rg f112 12) 1) [(0,0)] [0] 0 o0 rfl (qDg a1 v2 h3) (.inl rfl) (by kernel_rfl))] 1 [] [(3,vi v2)] (s_va 1 [(7,vb (v2 !=0))] ?_);refine q_cq hm (λhm=>?_) (λhm=>?_)
 ·refine s_vv [] 1 [0,3,7] [(2,vi v2)] ?_;obtain rfl:=oi hm;exact q_rt q_rm
 ·refine q_sk (q_sq ?_);obtain⟨v5,h6,hm⟩:=qE hm;refine s_vv [qd 1 (dex (cen [(0,0)] [0] 0 1 (HX a1 v5) (SQ a1 v5) [9] [0])) (zI (K:=(kx E 12 1)) ⟨[(9,vp 0 0)],[(0,bx 172 (qJ a1))]⟩ (opAt (rg f112 28) 1) [(0,0)] [0] 0 o0 rfl (qCy a1 v5 h6) (.inl rfl) (by kernel_rfl))] 1 [0,3,7] [(11,vb (decide (v5>0)))] (q_cq hm (λhm=>?_) (λhm=>?_))
  ·refine s_vv [] 1 [11] [(2,vi 4)] ?_;obtain rfl:=oi hm;exact q_rt q_rm
  ·refine q_sk (s_vv [] 1 [11] [(2,vi 0)] ?_);obtain rfl:=oi hm;exact q_rt q_rm
open Go.Proofs Go.Proofs.Tryz
def AW (r:Scan×Bool):V:= .tup [.agg [.own 0 0 2 r.1.Rings.length,.own 1 0 7 r.1.Defects.length],.one (cb r.2)]
def IA (r:Scan×Bool):List (Nat×(Nat×O)):=[(0,ro 0 45 2 r.1.Rings.length (rf qN r.1.Rings)),(1,ro 0 68 7 r.1.Defects.length (rf qO r.1.Defects))]
def VE :St:=
 ⟨[(2,vp 0 0),(4,vp 2 0),(5,vc (.fn 108 [.bptr 2 0 0])),(6,vp 3 0)],[(0,bx 25 [.emp,.emp]),(2,bx 129 [.bptr 1 0 0])]⟩
def FG (v2:qF) (v4:(List Int)×Int×Int) (x6:Int) (l7:List Ring) (l7n:Nat) (x8:Int) (x9:Int):St:=
 (VE).up [] [(17,vo 4 0 1 v4.1.length),(18,vi (v4.1.length:Int)),(19,vi x6)] [] [(1,bx 172 [cs v2.s,ci x8,ci x9]),(3,bx 25 [.own 5 0 2 l7n,.emp]),(4,ro 0 3 1 v4.1.length (rf qK v4.1)),(5,ro 0 45 2 l7n (rf qN l7))]
def CM (l18:List Ring) (x19:qF):St:=
 (VE).up [] [] [] [(1,bx 172 (qJ x19)),(3,bx 25 [.own 5 0 2 l18.length,.emp]),(5,ro 0 45 2 l18.length (rf qN l18))]
def qGa (o20:(List Ring)×qF) (v26:(List qL)×Bool) (x31:Bool):St:=
 (VE).up [4,5] [(11,vo 7 0 7 v26.1.length),(53,vb x31)] [2] [(3,bx 25 [.own 5 0 2 o20.1.length,.emp]),(5,ro 0 45 2 o20.1.length (rf qN o20.1)),(7,ro 0 68 7 v26.1.length (rf qO v26.1))]
theorem qE4 (E:Env 0) (v2:qF) (v4:(List Int)×Int×Int):∀(n:Nat) (x6:Int) (l7:List Ring) (l7n:Nat) (x8:Int) (x9:Int) (res:(Scan×Bool)⊕((List Ring)×qF)),l7.length=l7n->ED v2 v4 n x6 l7 x8 x9=some res->HL (kx E 58 0) (nd f54 500) (jJ 0 (λo=>CM o.1 o.2) (λv st=>RetQ Tryz.prog f54 (AW v) (IA v) .ret st) res) n (FG v2 v4 x6 l7 l7n x8 x9):=by
 intro n
 induction n with
 |zero=>
  intro x6 l7 l7n x8 x9 res hl0 hm;cases hm
 |succ n ih=>
  intro x6 l7 l7n x8 x9 res hl0 hm;subst hl0;refine qU (s_va 6 [(20,vb (decide (x6<(v4.1.length:Int))))] ?_);refine q_sq (q_cq hm (λhm=>?_) (λhm=>?_))
  ·refine q_sk (q_sq ?_);refine q_bk 1 ?_;obtain⟨g11,hm⟩:=qH hm;refine s_vv [qi 0 g11,qd 1 dN (zC (zJ g11))] 6 [20] [(8,vi (v4.1.getD x6.toNat dd))] ?_;obtain⟨v12,h13,hm⟩:=qE hm;obtain⟨v14,h15,hm⟩:=qE hm
   refine s_vu [qd 1 (dex (cen [(2,0),(1,0)] [0,0] 4 2 (TR 96 (qF.mk v2.s x8 x9) v12) (UO 96 (qF.mk v2.s x8 x9) v12) [24] [2,1])) (zI (K:=(kx E 58 0)) ⟨[(24,vc (.fn 108 [.bptr 2 0 0]))],[(2,bx 129 [.bptr 1 0 0]),(1,bx 172 [cs v2.s,ci x8,ci x9])]⟩ (opAt (rg f54 32050) 1) [(2,0),(1,0)] [0,0] 4 o0 rfl (FC 96 (qF.mk v2.s x8 x9) v12 h13) (.inl rfl) (by kernel_rfl)),qd 2 (dex (cen [] [] 7 0 (YM v14) (yN v14) [25] [6])) (zI (K:=(kx E 58 0)) (b:=false) ⟨[(25,vo 6 0 1 v12.1.length)],[(6,ro 0 3 1 v12.1.length (rf qK v12.1))]⟩ (opAt (rg f54 32050) 2) [] [] 7 (o1 (kr v12.1.length)) rfl (qCN v12.1 v14 h15) (.inr ⟨(by kernel_rfl),qEe v14⟩) (by kernel_rfl))] 6 [] [(9,vo 7 0 3 v14.1.length),(10,vb v14.2)] [1] [(1,bx 172 [cs ((qF.mk v2.s x8 x9).s),ci v12.2.1,ci v12.2.2]),(7,ro 0 73 3 v14.1.length (rf qG v14.1))] ?_
   refine q_sq (s_vv [] 8 [10] [(30,vb (!v14.2))] ?_);refine q_cq hm (λhm=>?_) (λhm=>?_)
   ·refine s_vn [] 8 ⟨[(2,vp 0 0),(3,vb false)],[(0,bx 25 [.emp,.emp])]⟩ (q_fu [.ownB 0 0 8 45 2 (rf qN [])] [] [] [0] [(0,bx 25 [.own 8 0 2 0,.emp]),(8,ro 0 45 2 0 (rf qN []))] o0 ?_);refine q_fu [.ownB 0 1 9 68 7 (rf qO [])] [] [] [0] [(0,bx 25 [.own 8 0 2 0,.own 9 0 7 0]),(9,ro 0 68 7 0 (rf qO []))] o0 (q_fu [.len 8 (([]:List Ring).length)] [] [] [0,8] [(0,bx 25 [.own 8 0 2 (([]:List Ring).length),.own 9 0 7 0]),(8,ro 0 45 2 (([]:List Ring).length) (rf qN []))] (o1 (And.intro (show 0=([]:List Ring).length from rfl) (show 0=([]:List Ring).length from rfl))) ?_)
    refine q_fu [.len 9 (([]:List qL).length)] [] [] [0,9] [(0,bx 25 [.own 8 0 2 (([]:List Ring).length),.own 9 0 7 (([]:List qL).length)]),(9,ro 0 68 7 (([]:List qL).length) (rf qO []))] (o1 (And.intro (show 0=([]:List qL).length from rfl) (show 0=([]:List qL).length from rfl))) ?_;obtain rfl:=oi hm;refine q_sw 8 0 (q_sw 9 1 ?_);refine q_rt (zR ((Scan.mk ([]:List Ring) ([]:List qL)),false) ?_);exact q_rm
   ·refine q_sk ?_;obtain⟨g17,hm⟩:=qH hm
    refine q_vu [qd 5 (dpr [.frz 7] (drw 8 0 (rf qN [(Ring.mk (v4.1.getD x6.toNat dd) v14.1)]))) (And.intro (kr v14.1.length) (And.intro (kr v14.1.length) (kr v14.1.length))),qd 5 dN (litP qN dd 2 (λ_=>rfl) ([(Ring.mk (v4.1.getD x6.toNat dd) v14.1)]:List Ring) 1 rfl),qd 6 (drw 5 1 (rf qN (l7++[(Ring.mk (v4.1.getD x6.toNat dd) v14.1)]))) (apP qN dd l7 ([(Ring.mk (v4.1.getD x6.toNat dd) v14.1)]:List Ring) l7.length 1 2 32 (1<=1) (kr _) rfl rfl (λ_=>rfl) (wE g17))] 8 [8,9,30] [] [3,5,7] [(3,bx 25 [.own 5 1 2 (l7.length+1),.emp]),(5,ro 1 45 2 (l7.length+1) (rf qN (l7++[(Ring.mk (v4.1.getD x6.toNat dd) v14.1)])))] (q_vv [] 9 [19] [(19,vi (w64 (x6+1)))] ?_)
    exact q_hl (FG v2 v4 (w64 (x6+1)) (l7++[(Ring.mk (v4.1.getD x6.toNat dd) v14.1)]) (l7.length+1) v12.2.1 v12.2.2) (ih (w64 (x6+1)) (l7++[(Ring.mk (v4.1.getD x6.toNat dd) v14.1)]) (l7.length+1) v12.2.1 v12.2.2 _ (wS rfl rfl) hm)
  ·refine q_ex 0 ?_;obtain rfl:=oi hm;exact L1_mk (l7,(qF.mk v2.s x8 x9)) (by kernel_rfl) (by kernel_rfl)
theorem qIT (a1:ByteArray) (r:Scan×Bool) (hm:qBG a1=some r):CtX Tryz.prog globs 54 0 0 [.one (cs a1)] [] (AW r) (IA r):=by
 unfold qBG at hm;refine q_E f54 58 λE=>?_;refine s_vn [] 0 ⟨[(0,vc (cs a1)),(2,vp 0 0)],[(0,bx 25 [.emp,.emp])]⟩ ?_;obtain⟨v2,h3,hm⟩:=qE hm;refine s_vu [qc 1 [13] 1 (qD9 a1 v2 h3)] 1 [0] [(4,vp 2 0)] [] [(1,bx 172 (qJ v2)),(2,bx 129 [.bptr 1 0 0])] (s_va 3 [(5,vc (.fn 108 [.bptr 2 0 0]))] ?_);refine s_vu [] 3 [] [(6,vp 3 0)] [] [(3,bx 25 [.emp,.emp])] (q_sq ?_);obtain⟨v4,h5,hm⟩:=qE hm
 refine s_vu [qd 1 (dex (cen [(2,0),(1,0)] [0,0] 2 2 (TR 24 v2 v4) (UO 24 v2 v4) [16] [2,1])) (zI (K:=(kx E 58 0)) ⟨[(16,vc (.fn 108 [.bptr 2 0 0]))],[(2,bx 129 [.bptr 1 0 0]),(1,bx 172 (qJ v2))]⟩ (opAt (rg f54 124) 1) [(2,0),(1,0)] [0,0] 2 o0 rfl (FC 24 v2 v4 h5) (.inl rfl) (by kernel_rfl))] 4 [] [(17,vo 4 0 1 v4.1.length),(18,vi (v4.1.length:Int)),(19,vi 0)] [1] [(1,bx 172 [cs v2.s,ci v4.2.1,ci v4.2.2]),(4,ro 0 3 1 v4.1.length (rf qK v4.1))] (q_fu [.ownB 3 0 5 45 2 (rf qN [])] [] [] [3] [(3,bx 25 [.own 5 0 2 0,.emp]),(5,ro 0 45 2 0 (rf qN []))] o0 ?_);obtain⟨u22,h21,hm⟩:=qE hm
 refine zZ (nd f54 500) 0 (by kernel_rfl) FUEL (λo=>CM o.1 o.2) (λv st=>RetQ Tryz.prog f54 (AW v) (IA v) .ret st) u22 (q_hl (FG v2 v4 0 ([]:List Ring) 0 v4.2.1 v4.2.2) (qE4 E v2 v4 FUEL 0 ([]:List Ring) 0 v4.2.1 v4.2.2 u22 rfl h21)) ?_ ?_
 ·rintro v23 rfl st hr;obtain rfl:=oi hm;exact hr
 ·rintro o20 rfl;replace hm:_=some r:=hm;obtain⟨v24,h25,hm⟩:=qE hm;obtain⟨v26,h27,hm⟩:=qE hm
  refine s_vu [qd 1 (dex (cen [(2,0),(1,0)] [0,0] 4 2 (TR 448 o20.2 v24) (UO 448 o20.2 v24) [42] [2,1])) (zI (K:=(kx E 58 0)) ⟨[(42,vc (.fn 108 [.bptr 2 0 0]))],[(2,bx 129 [.bptr 1 0 0]),(1,bx 172 (qJ o20.2))]⟩ (opAt (rg f54 126) 1) [(2,0),(1,0)] [0,0] 4 o0 rfl (FC 448 o20.2 v24 h25) (.inl rfl) (by kernel_rfl)),qd 2 (dex (cen [] [] 7 0 (AT v26) (KC v26) [43] [6])) (zI (K:=(kx E 58 0)) (b:=false) ⟨[(43,vo 6 0 1 v24.1.length)],[(6,ro 0 3 1 v24.1.length (rf qK v24.1))]⟩ (opAt (rg f54 126) 2) [] [] 7 (o1 (kr v24.1.length)) rfl (qEr v24.1 v26 h27) (.inr ⟨(by kernel_rfl),qEV v26⟩) (by kernel_rfl))] 6 [5] [(11,vo 7 0 7 v26.1.length),(12,vb v26.2)] [1] [(1,bx 172 [cs o20.2.s,ci v24.2.1,ci v24.2.2]),(7,ro 0 68 7 v26.1.length (rf qO v26.1))] ?_
  refine q_sq (q_jn (qGa o20 v26) (λp=>EB o20 v26 p=some r) ?_ ?_)
  ·rintro x31 hm;refine q_cq hm (λhm=>?_) (λhm=>?_)
   ·refine s_vu [] 8 [6,11,53] [(3,vb false)] [3,5,7] [] (q_fu [.ownB 0 0 8 45 2 (rf qN [])] [] [] [0] [(0,bx 25 [.own 8 0 2 0,.emp]),(8,ro 0 45 2 0 (rf qN []))] o0 ?_);refine q_fu [.ownB 0 1 9 68 7 (rf qO [])] [] [] [0] [(0,bx 25 [.own 8 0 2 0,.own 9 0 7 0]),(9,ro 0 68 7 0 (rf qO []))] o0 (q_fu [.len 8 (([]:List Ring).length)] [] [] [0,8] [(0,bx 25 [.own 8 0 2 (([]:List Ring).length),.own 9 0 7 0]),(8,ro 0 45 2 (([]:List Ring).length) (rf qN []))] (o1 (And.intro (show 0=([]:List Ring).length from rfl) (show 0=([]:List Ring).length from rfl))) ?_)
    refine q_fu [.len 9 (([]:List qL).length)] [] [] [0,9] [(0,bx 25 [.own 8 0 2 (([]:List Ring).length),.own 9 0 7 (([]:List qL).length)]),(9,ro 0 68 7 (([]:List qL).length) (rf qO []))] (o1 (And.intro (show 0=([]:List qL).length from rfl) (show 0=([]:List qL).length from rfl))) ?_;obtain rfl:=oi hm;refine q_sw 8 0 (q_sw 9 1 ?_);exact q_rt q_rm
   ·refine q_sk (s_vu [] 8 [11,53] [] [3] [(3,bx 25 [.own 5 0 2 o20.1.length,.own 7 0 7 v26.1.length])] ?_);refine s_vu [] 8 [6] [(3,vb true)] [0,3] [(0,bx 25 [.own 5 0 2 o20.1.length,.own 7 0 7 v26.1.length])] ?_;obtain rfl:=oi hm;refine q_sw 5 0 (q_sw 7 1 ?_);exact q_rt q_rm
  ·rcases bif_c hm with⟨b28,hm⟩|⟨b28,hm⟩
   ·exact q_vu [qf 2 b28] 8 [4,12] [(53,vb true)] [1,2] [] (q_J (true) hm)
   ·obtain⟨v29,h30,hm⟩:=qE hm;exact q_vu [qf 2 b28,qd 4 (dex (cen [(1,0)] [0] 7 1 (EV (qF.mk o20.2.s v24.2.1 v24.2.2) v29) (EX (qF.mk o20.2.s v24.2.1 v24.2.2) v29) [49,50] [1])) (zI (K:=(kx E 58 0)) ⟨[(49,vb false),(50,vp 1 0)],[(1,bx 172 [cs o20.2.s,ci v24.2.1,ci v24.2.2])]⟩ (opAt (rg f54 508) 4) [(1,0)] [0] 7 o0 rfl (qDh (qF.mk o20.2.s v24.2.1 v24.2.2) v29 h30) (.inl rfl) (by kernel_rfl))] 8 [4,12] [(53,vb (v29 !=0))] [1,2] [] (q_J (v29 !=0) hm)
def qIN (r:Scan×Int):V:= .tup [.agg [.own 0 0 2 r.1.Rings.length,.own 1 0 7 r.1.Defects.length],.one (ci r.2)]
def qI7 (r:Scan×Int):List (Nat×(Nat×O)):=[(0,ro 0 45 2 r.1.Rings.length (rf qN r.1.Rings)),(1,ro 0 68 7 r.1.Defects.length (rf qO r.1.Defects))]
theorem qHJ (a1:ByteArray) (r:Scan×Int) (hm:PG a1=some r):CtX Tryz.prog globs 21 0 0 [.one (cs a1)] [] (qIN r) (qI7 r):=by
 unfold PG at hm;refine q_E f21 22 λE=>?_;refine s_vn [] 0 ⟨[(0,vc (cs a1)),(2,vp 0 0)],[(0,bx 25 [.emp,.emp])]⟩ ?_;obtain⟨v2,h3,hm⟩:=qE hm;refine s_vu [qc 1 [8] 1 (qIT a1 v2 h3)] 1 [0] [(4,vp 3 0),(5,vb v2.2)] [] [(1,ro 0 45 2 v2.1.Rings.length (rf qN v2.1.Rings)),(2,ro 0 68 7 v2.1.Defects.length (rf qO v2.1.Defects)),(3,bx 25 [.own 1 0 2 v2.1.Rings.length,.own 2 0 7 v2.1.Defects.length])] (q_sq ?_);refine s_vv [] 4 [5] [(13,vb (!v2.2))] (q_cq hm (λhm=>?_) (λhm=>?_))
 ·refine s_vu [] 4 [4,13] [(3,vi 5)] [1,2,3] [] (q_fu [.ownB 0 0 4 45 2 (rf qN [])] [] [] [0] [(0,bx 25 [.own 4 0 2 0,.emp]),(4,ro 0 45 2 0 (rf qN []))] o0 ?_);refine q_fu [.ownB 0 1 5 68 7 (rf qO [])] [] [] [0] [(0,bx 25 [.own 4 0 2 0,.own 5 0 7 0]),(5,ro 0 68 7 0 (rf qO []))] o0 (q_fu [.len 4 (([]:List Ring).length)] [] [] [0,4] [(0,bx 25 [.own 4 0 2 (([]:List Ring).length),.own 5 0 7 0]),(4,ro 0 45 2 (([]:List Ring).length) (rf qN []))] (o1 (And.intro (show 0=([]:List Ring).length from rfl) (show 0=([]:List Ring).length from rfl))) ?_)
  refine q_fu [.len 5 (([]:List qL).length)] [] [] [0,5] [(0,bx 25 [.own 4 0 2 (([]:List Ring).length),.own 5 0 7 (([]:List qL).length)]),(5,ro 0 68 7 (([]:List qL).length) (rf qO []))] (o1 (And.intro (show 0=([]:List qL).length from rfl) (show 0=([]:List qL).length from rfl))) ?_;obtain rfl:=oi hm;refine q_sw 4 0 (q_sw 5 1 ?_);exact q_rt q_rm
 ·refine q_sk (q_sq ?_);obtain⟨v5,h6,hm⟩:=qE hm;refine s_vv [qd 1 (dex (cen [] [] 4 0 (XP v5) (QO v5) [15] [1,2])) (zI (K:=(kx E 22 0)) (b:=false) ⟨[(15,va [.own 1 0 2 v2.1.Rings.length,.own 2 0 7 v2.1.Defects.length])],[(1,ro 0 45 2 v2.1.Rings.length (rf qN v2.1.Rings)),(2,ro 0 68 7 v2.1.Defects.length (rf qO v2.1.Defects))]⟩ (opAt (rg f21 60) 1) [] [] 4 (o1 (And.intro (kr v2.1.Rings.length) (kr v2.1.Defects.length))) rfl (KT (Scan.mk v2.1.Rings v2.1.Defects) v5 h6) (.inr ⟨(by kernel_rfl),qKt v5⟩) (by kernel_rfl))] 4 [13] [(6,vi v5)] (s_va 4 [(18,vb (v5 !=0))] ?_)
  refine q_cq hm (λhm=>?_) (λhm=>?_)
  ·refine s_vu [] 4 [4,6,18] [(3,vi v5)] [1,2,3] [] (q_fu [.ownB 0 0 4 45 2 (rf qN [])] [] [] [0] [(0,bx 25 [.own 4 0 2 0,.emp]),(4,ro 0 45 2 0 (rf qN []))] o0 ?_);refine q_fu [.ownB 0 1 5 68 7 (rf qO [])] [] [] [0] [(0,bx 25 [.own 4 0 2 0,.own 5 0 7 0]),(5,ro 0 68 7 0 (rf qO []))] o0 (q_fu [.len 4 (([]:List Ring).length)] [] [] [0,4] [(0,bx 25 [.own 4 0 2 (([]:List Ring).length),.own 5 0 7 0]),(4,ro 0 45 2 (([]:List Ring).length) (rf qN []))] (o1 (And.intro (show 0=([]:List Ring).length from rfl) (show 0=([]:List Ring).length from rfl))) ?_)
   refine q_fu [.len 5 (([]:List qL).length)] [] [] [0,5] [(0,bx 25 [.own 4 0 2 (([]:List Ring).length),.own 5 0 7 (([]:List qL).length)]),(5,ro 0 68 7 (([]:List qL).length) (rf qO []))] (o1 (And.intro (show 0=([]:List qL).length from rfl) (show 0=([]:List qL).length from rfl))) ?_;obtain rfl:=oi hm;refine q_sw 4 0 (q_sw 5 1 ?_);exact q_rt q_rm
  ·refine q_sk (s_vu [] 4 [4,6,18] [(3,vi 0)] [0,3] [(0,bx 25 [.own 1 0 2 v2.1.Rings.length,.own 2 0 7 v2.1.Defects.length])] ?_);obtain rfl:=oi hm;refine q_sw 1 0 (q_sw 2 1 ?_);exact q_rt q_rm
def WP (r:Bool):V:=vb r
def WT (r:Bool):List (Nat×(Nat×O)):=[]
def ZD (a1:List qD) (a2:List qD) (x4:Int):St:=
 ⟨[(0,vc (tl qG dd a1)),(1,vc (tl qG dd a2)),(12,vi (a1.length:Int)),(13,vi x4)],[]⟩
def KX :St:=
 ⟨[],[]⟩
theorem SV (E:Env 0) (a1:List qD) (a2:List qD):∀(n:Nat) (x4:Int) (res:Bool⊕Unit),ZZ a1 a2 n x4=some res->HL (kx E 26 0) (nd f59 116) (jJ 0 (λo=>KX) (λv st=>RetQ Tryz.prog f59 (WP v) (WT v) .ret st) res) n (ZD a1 a2 x4):=by
 intro n
 induction n with
 |zero=>
  intro x4 res hm;cases hm
 |succ n ih=>
  intro x4 res hm;refine qU (s_va 0 [(14,vb (decide (x4<(a1.length:Int))))] ?_);refine q_sq (q_cq hm (λhm=>?_) (λhm=>?_))
  ·refine q_sk (q_sq ?_);refine q_bk 1 (s_vv [] 0 [14] [(5,vi x4)] ?_);obtain⟨g6,hm⟩:=qH hm;obtain⟨g7,hm⟩:=qH hm;refine s_du [qi 2 g6,qi 6 g7] [0,0,3,7,0,0,48,112,255] 0 [5] [(24,vb (!((((((a1.getD x4.toNat dd).P).X)==(((a2.getD x4.toNat dd).P).X))&&(((((a1.getD x4.toNat dd).P).Y)==(((a2.getD x4.toNat dd).P).Y))&&true))&&((((a1.getD x4.toNat dd).Ok)==((a2.getD x4.toNat dd).Ok))&&true))))] [] [] (q_cq hm (λhm=>?_) (λhm=>?_))
   ·refine s_vn [] 0 ⟨[(4,vb false)],[]⟩ ?_;obtain rfl:=oi hm;refine q_rt (zR false ?_);exact q_rm
   ·refine q_sk (q_vv [] 0 [13,24] [(13,vi (w64 (x4+1)))] ?_);exact q_hl (ZD a1 a2 (w64 (x4+1))) (ih (w64 (x4+1)) _ hm)
  ·refine q_ex 0 ?_;obtain rfl:=oi hm;exact q_l1 ()
theorem AQ (a1:List qD) (a2:List qD) (r:Bool) (hm:XJ a1 a2=some r):CtX Tryz.prog globs 59 0 0 [.one (tl qG dd a1),.one (tl qG dd a2)] [] (WP r) (WT r):=by
 unfold XJ at hm;refine q_E f59 26 λE=>?_;refine s_vn [] 0 ⟨[(0,vc (tl qG dd a1)),(1,vc (tl qG dd a2))],[]⟩ (q_sq ?_);refine s_va 0 [(10,vb ((a1.length:Int) !=(a2.length:Int)))] (q_cq hm (λhm=>?_) (λhm=>?_))
 ·refine s_vn [] 0 ⟨[(4,vb false)],[]⟩ ?_;obtain rfl:=oi hm;exact q_rt q_rm
 ·refine q_sk (q_sq ?_);refine s_vv [] 0 [10] [(12,vi (a1.length:Int)),(13,vi 0)] ?_;obtain⟨u11,h10,hm⟩:=qE hm;refine zZ (nd f59 116) 0 (by kernel_rfl) FUEL (λo=>KX) (λv st=>RetQ Tryz.prog f59 (WP v) (WT v) .ret st) u11 (q_hl (ZD a1 a2 0) (SV E a1 a2 FUEL 0 u11 h10)) ?_ ?_
  ·rintro v12 rfl st hr;obtain rfl:=oi hm;exact hr
  ·rintro o9 rfl;replace hm:_=some r:=hm;refine s_vn [] 0 ⟨[(4,vb true)],[]⟩ ?_;obtain rfl:=oi hm;exact q_rt q_rm
open Go.Proofs Go.Proofs.Tryz
def qIG (r:Bool):V:=vb r
def qI1 (r:Bool):List (Nat×(Nat×O)):=[]
def qFp (x6:Bool):St:=
 ⟨[(4,vb x6)],[]⟩
theorem qHA (a1:Ring) (a2:Ring) (r:Bool) (hm:qAK a1 a2=some r):CtX Tryz.prog globs 58 0 0 [.agg (qN a1),.agg (qN a2)] [] (qIG r) (qI1 r):=by
 unfold qAK at hm;refine q_E f58 17 λE=>?_;refine s_vn [] 0 ⟨[(2,vp 0 0),(3,vp 1 0)],[(0,bx 45 (qN a1)),(1,bx 45 (qN a2))]⟩ (q_jn (qFp) (λp=>FL p=some r) ?_ ?_)
 ·rintro x6 hm;obtain rfl:=oi hm;exact q_rt q_rm
 ·rcases bif_c hm with⟨b3,hm⟩|⟨b3,hm⟩
  ·obtain⟨v4,h5,hm⟩:=qE hm;exact q_vn [qf 5 b3,qk 10 [10,12,14] 2 ⟨[(10,vb true),(12,vc (tl qG dd a1.Read)),(14,vc (tl qG dd a2.Read))],[]⟩ (AQ a1.Read a2.Read v4 h5)] 2 ⟨[(4,vb v4)],[]⟩ (q_J (v4) hm)
  ·exact q_vn [qf 5 b3] 2 ⟨[(4,vb false)],[]⟩ (q_J (false) hm)
def WA (r:Bool):V:=vb r
def WH (r:Bool):List (Nat×(Nat×O)):=[]
def QN (a1:List Ring) (a2:List Ring) (x4:Int):St:=
 ⟨[(1,vc (tl qN dd a2)),(2,vc (.fn 58 [])),(15,vc (tl qN dd a1)),(16,vi (a1.length:Int)),(17,vi x4)],[]⟩
def XQ :St:=
 ⟨[],[]⟩
theorem LH (E:Env 0) (a1:List Ring) (a2:List Ring):∀(n:Nat) (x4:Int) (res:Bool⊕Unit),ZM a1 a2 n x4=some res->HL (kx E 32 0) (nd f60 116) (jJ 0 (λo=>XQ) (λv st=>RetQ Tryz.prog f60 (WA v) (WH v) .ret st) res) n (QN a1 a2 x4):=by
 intro n
 induction n with
 |zero=>
  intro x4 res hm;cases hm
 |succ n ih=>
  intro x4 res hm;refine qU (s_va 0 [(18,vb (decide (x4<(a1.length:Int))))] ?_);refine q_sq (q_cq hm (λhm=>?_) (λhm=>?_))
  ·refine q_sk (q_sq ?_);refine q_bk 1 ?_;obtain⟨g6,hm⟩:=qH hm;refine s_vu [qi 1 g6] 0 [18] [(7,vi x4),(8,vp 0 0)] [] [(0,bx 45 (qN (a1.getD x4.toNat dd)))] ?_;obtain⟨g7,hm⟩:=qH hm;refine s_vu [qi 2 g7] 1 [7] [(9,vp 1 0)] [] [(1,bx 45 (qN (a2.getD x4.toNat dd)))] ?_;obtain⟨v8,h9,hm⟩:=qE hm
   refine s_vu [qk 3 [26,27,28] 2 ⟨[(26,vc (.fn 58 [])),(27,va [ci ((a1.getD x4.toNat dd).Z),tl qG dd ((a1.getD x4.toNat dd).Read)]),(28,va [ci ((a2.getD x4.toNat dd).Z),tl qG dd ((a2.getD x4.toNat dd).Read)])],[]⟩ (qHA (a1.getD x4.toNat dd) (a2.getD x4.toNat dd) v8 h9)] 2 [8,9] [(30,vb (!v8))] [0,1] [] (q_cq hm (λhm=>?_) (λhm=>?_))
   ·refine s_vn [] 2 ⟨[(6,vb false)],[]⟩ ?_;obtain rfl:=oi hm;refine q_rt (zR false ?_);exact q_rm
   ·refine q_sk (q_vv [] 2 [17,30] [(17,vi (w64 (x4+1)))] ?_);exact q_hl (QN a1 a2 (w64 (x4+1))) (ih (w64 (x4+1)) _ hm)
  ·refine q_ex 0 ?_;obtain rfl:=oi hm;exact q_l1 ()
theorem PZ (a1:List Ring) (a2:List Ring) (r:Bool) (hm:YG a1 a2=some r):CtX Tryz.prog globs 60 0 0 [.one (tl qN dd a1),.one (tl qN dd a2),.one (.fn 58 [])] [] (WA r) (WH r):=by
 unfold YG at hm;refine q_E f60 32 λE=>?_;refine s_vn [] 0 ⟨[(0,vc (tl qN dd a1)),(1,vc (tl qN dd a2)),(2,vc (.fn 58 []))],[]⟩ (q_sq ?_);refine s_va 0 [(14,vb ((a1.length:Int) !=(a2.length:Int)))] (q_cq hm (λhm=>?_) (λhm=>?_))
 ·refine s_vn [] 0 ⟨[(6,vb false)],[]⟩ ?_;obtain rfl:=oi hm;exact q_rt q_rm
 ·refine q_sk (q_sq ?_);refine s_vv [] 0 [0,14] [(15,vc (tl qN dd a1)),(16,vi (a1.length:Int)),(17,vi 0)] ?_;obtain⟨u13,h12,hm⟩:=qE hm;refine zZ (nd f60 116) 0 (by kernel_rfl) FUEL (λo=>XQ) (λv st=>RetQ Tryz.prog f60 (WA v) (WH v) .ret st) u13 (q_hl (QN a1 a2 0) (LH E a1 a2 FUEL 0 u13 h12)) ?_ ?_
  ·rintro v14 rfl st hr;obtain rfl:=oi hm;exact hr
  ·rintro o11 rfl;replace hm:_=some r:=hm;refine s_vn [] 0 ⟨[(6,vb true)],[]⟩ ?_;obtain rfl:=oi hm;exact q_rt q_rm
def YD (r:Bool):V:=vb r
def YJ (r:Bool):List (Nat×(Nat×O)):=[]
def ZO (a1:List qL) (a2:List qL) (x4:Int):St:=
 ⟨[(0,vc (tl qO dd a1)),(1,vc (tl qO dd a2)),(12,vi (a1.length:Int)),(13,vi x4)],[]⟩
def PY :St:=
 ⟨[],[]⟩
theorem EE (E:Env 0) (a1:List qL) (a2:List qL):∀(n:Nat) (x4:Int) (res:Bool⊕Unit),WQ a1 a2 n x4=some res->HL (kx E 26 0) (nd f61 116) (jJ 0 (λo=>PY) (λv st=>RetQ Tryz.prog f61 (YD v) (YJ v) .ret st) res) n (ZO a1 a2 x4):=by
 intro n
 induction n with
 |zero=>
  intro x4 res hm;cases hm
 |succ n ih=>
  intro x4 res hm;refine qU (s_va 0 [(14,vb (decide (x4<(a1.length:Int))))] ?_);refine q_sq (q_cq hm (λhm=>?_) (λhm=>?_))
  ·refine q_sk (q_sq ?_);refine q_bk 1 (s_vv [] 0 [14] [(5,vi x4)] ?_);obtain⟨g6,hm⟩:=qH hm;obtain⟨g7,hm⟩:=qH hm
   refine s_du [qi 2 g6,qi 6 g7] [0,0,3,7,0,0,48,112,255] 0 [5] [(24,vb (!((((a1.getD x4.toNat dd).Kind)==((a2.getD x4.toNat dd).Kind))&&((((((((a1.getD x4.toNat dd).Box).X).A)==((((a2.getD x4.toNat dd).Box).X).A))&&((((((a1.getD x4.toNat dd).Box).X).B)==((((a2.getD x4.toNat dd).Box).X).B))&&true))&&(((((((a1.getD x4.toNat dd).Box).Y).A)==((((a2.getD x4.toNat dd).Box).Y).A))&&((((((a1.getD x4.toNat dd).Box).Y).B)==((((a2.getD x4.toNat dd).Box).Y).B))&&true))&&(((((((a1.getD x4.toNat dd).Box).Z).A)==((((a2.getD x4.toNat dd).Box).Z).A))&&((((((a1.getD x4.toNat dd).Box).Z).B)==((((a2.getD x4.toNat dd).Box).Z).B))&&true))&&true)))&&true))))] [] [] (q_cq hm (λhm=>?_) (λhm=>?_))
   ·refine s_vn [] 0 ⟨[(4,vb false)],[]⟩ ?_;obtain rfl:=oi hm;refine q_rt (zR false ?_);exact q_rm
   ·refine q_sk (q_vv [] 0 [13,24] [(13,vi (w64 (x4+1)))] ?_);exact q_hl (ZO a1 a2 (w64 (x4+1))) (ih (w64 (x4+1)) _ hm)
  ·refine q_ex 0 ?_;obtain rfl:=oi hm;exact q_l1 ()
theorem OT (a1:List qL) (a2:List qL) (r:Bool) (hm:KG a1 a2=some r):CtX Tryz.prog globs 61 0 0 [.one (tl qO dd a1),.one (tl qO dd a2)] [] (YD r) (YJ r):=by
 unfold KG at hm;refine q_E f61 26 λE=>?_;refine s_vn [] 0 ⟨[(0,vc (tl qO dd a1)),(1,vc (tl qO dd a2))],[]⟩ (q_sq ?_);refine s_va 0 [(10,vb ((a1.length:Int) !=(a2.length:Int)))] (q_cq hm (λhm=>?_) (λhm=>?_))
 ·refine s_vn [] 0 ⟨[(4,vb false)],[]⟩ ?_;obtain rfl:=oi hm;exact q_rt q_rm
 ·refine q_sk (q_sq ?_);refine s_vv [] 0 [10] [(12,vi (a1.length:Int)),(13,vi 0)] ?_;obtain⟨u11,h10,hm⟩:=qE hm;refine zZ (nd f61 116) 0 (by kernel_rfl) FUEL (λo=>PY) (λv st=>RetQ Tryz.prog f61 (YD v) (YJ v) .ret st) u11 (q_hl (ZO a1 a2 0) (EE E a1 a2 FUEL 0 u11 h10)) ?_ ?_
  ·rintro v12 rfl st hr;obtain rfl:=oi hm;exact hr
  ·rintro o9 rfl;replace hm:_=some r:=hm;refine s_vn [] 0 ⟨[(4,vb true)],[]⟩ ?_;obtain rfl:=oi hm;exact q_rt q_rm
open Go.Proofs Go.Proofs.Tryz
def qLD (r:Bool):V:=vb r
def qLG (r:Bool):List (Nat×(Nat×O)):=[]
def qHt (x8:Bool):St:=
 ⟨[(4,vb x8)],[]⟩
theorem qKU (a1:Scan) (a2:Scan) (r:Bool) (hm:SC a1 a2=some r):CtX Tryz.prog globs 24 0 0 [.agg (qZ a1),.agg (qZ a2)] [] (qLD r) (qLG r):=by
 unfold SC at hm;refine q_E f24 19 λE=>?_;refine s_vn [] 0 ⟨[(2,vp 0 0),(3,vp 1 0)],[(0,bx 25 (qZ a1)),(1,bx 25 (qZ a2))]⟩ (s_va 2 [(5,vc (.fn 58 []))] ?_);refine q_jn (qHt) (λp=>AP p=some r) ?_ ?_
 ·rintro x8 hm;obtain rfl:=oi hm;exact q_rt q_rm
 ·obtain⟨v3,h4,hm⟩:=qE hm;rcases bif_c hm with⟨b5,hm⟩|⟨b5,hm⟩
  ·obtain⟨v6,h7,hm⟩:=qE hm;exact q_vn [qc 5 [7,9,10] 2 (PZ a1.Rings a2.Rings v3 h4),qf 6 b5,qk 11 [12,14,16] 2 ⟨[(12,vb true),(14,vc (tl qO dd a1.Defects)),(16,vc (tl qO dd a2.Defects))],[]⟩ (OT a1.Defects a2.Defects v6 h7)] 2 ⟨[(4,vb v6)],[]⟩ (q_J (v6) hm)
  ·exact q_vn [qc 5 [7,9,10] 2 (PZ a1.Rings a2.Rings v3 h4),qf 6 b5] 2 ⟨[(4,vb false)],[]⟩ (q_J (false) hm)
def qLL (r:Int):V:=vc (.val (.int .u64 r))
def qLA (r:Int):List (Nat×(Nat×O)):=[]
theorem qJ2 (a1:Span) (r:Int) (hm:qC6 a1=some r):CtX Tryz.prog globs 176 0 0 [.agg (qI a1)] [] (qLL r) (qLA r):=by
 unfold qC6 at hm;refine q_E f176 15 λE=>?_;refine s_vn [] 0 ⟨[(1,vp 0 0)],[(0,bx 64 (qI a1))]⟩ (q_sq ?_);refine s_va 1 [(7,vb (decide (a1.A≥a1.B)))] (q_cq hm (λhm=>?_) (λhm=>?_))
 ·refine s_vn [] 1 ⟨[(2,vc (.val (.int .u64 0)))],[]⟩ ?_;obtain rfl:=oi hm;exact q_rt q_rm
 ·refine q_sk (s_vn [] 1 ⟨[(2,vc (.val (.int .u64 (IntKind.u64.wrap ((IntKind.u64.wrap (a1.B))-(IntKind.u64.wrap (a1.A)))))))],[]⟩ ?_);obtain rfl:=oi hm;exact q_rt q_rm
def qHd (r:Int):V:=vi r
def qHh (r:Int):List (Nat×(Nat×O)):=[]
theorem qFL (a1:Int) (r:Int) (hm:IK a1=some r):CtX Tryz.prog globs 175 0 0 [.one (.val (.int .u64 a1))] [] (qHd r) (qHh r):=by
 unfold IK at hm;refine q_E f175 6 λE=>?_;refine s_vn [] 0 ⟨[(0,vc (.val (.int .u64 a1)))],[]⟩ (s_vn [] 0 ⟨[(2,vi (w64 (imin a1 9223372036854775807)))],[]⟩ ?_);obtain rfl:=oi hm;exact q_rt q_rm
open Go.Proofs Go.Proofs.Tryz
def qMG (r:Int):V:=vi r
def qMD (r:Int):List (Nat×(Nat×O)):=[]
theorem qLs (a1:Span) (r:Int) (hm:qFj a1=some r):CtX Tryz.prog globs 144 0 0 [.agg (qI a1)] [] (qMG r) (qMD r):=by
 unfold qFj at hm;refine q_E f144 6 λE=>?_;refine s_vn [] 0 ⟨[(1,vp 0 0)],[(0,bx 64 (qI a1))]⟩ ?_;obtain⟨v2,h3,hm⟩:=qE hm;obtain⟨v4,h5,hm⟩:=qE hm;refine s_vn [qc 1 [3] 1 (qJ2 a1 v2 h3),qc 2 [4] 1 (qFL v2 v4 h5)] 1 ⟨[(2,vi v4)],[]⟩ ?_;obtain rfl:=oi hm;exact q_rt q_rm
def qHK (r:Int):V:=vi r
def qHb (r:Int):List (Nat×(Nat×O)):=[]
def UY (v2:qC) (x4:Int) (x5:Int):St:=
 ⟨[(3,vi x4),(8,vc (tl qI dd v2.Rows)),(9,vi (v2.Rows.length:Int)),(10,vi x5)],[]⟩
def EU (x10:Int):St:=
 ⟨[(3,vi x10)],[]⟩
theorem qDm (E:Env 0) (v2:qC):∀(n:Nat) (x4:Int) (x5:Int) (res:Int),FA v2 n x4 x5=some res->HL (kx E 21 0) (nd f89 116) (zW 0 EU res) n (UY v2 x4 x5):=by
 intro n
 induction n with
 |zero=>
  intro x4 x5 res hm;cases hm
 |succ n ih=>
  intro x4 x5 res hm;refine qU (s_va 1 [(11,vb (decide (x5<(v2.Rows.length:Int))))] ?_);refine q_sq (q_cq hm (λhm=>?_) (λhm=>?_))
  ·refine q_sk (q_sq ?_);refine q_bk 1 ?_;obtain⟨g7,hm⟩:=qH hm;refine s_vu [qi 0 g7] 1 [11] [(5,vp 1 0)] [] [(1,bx 64 (qI (v2.Rows.getD x5.toNat dd)))] ?_;obtain⟨v8,h9,hm⟩:=qE hm;refine q_vu [qc 2 [15] 2 (qLs (v2.Rows.getD x5.toNat dd) v8 h9)] 2 [3,5] [(3,vi (w64 (x4+v8)))] [1] [] (q_vv [] 2 [10] [(10,vi (w64 (x5+1)))] ?_);exact q_hl (UY v2 (w64 (x4+v8)) (w64 (x5+1))) (ih (w64 (x4+v8)) (w64 (x5+1)) _ hm)
  ·refine q_ex 0 ?_;obtain rfl:=oi hm;exact q_l0
theorem qGn (a1:qC) (r:Int) (hm:AY a1=some r):CtX Tryz.prog globs 89 0 0 [.agg (qM a1)] [] (qHK r) (qHb r):=by
 unfold AY at hm;refine q_E f89 21 λE=>?_;refine s_vn [] 0 ⟨[(1,vp 0 0)],[(0,bx 48 (qM a1))]⟩ (s_va 1 [(3,vi 0)] ?_);refine q_sq ?_;obtain⟨v2,h3,hm⟩:=qE hm;refine s_vu [qc 1 [6] 1 (DI a1 v2 h3)] 1 [1] [(8,vc (tl qI dd v2.Rows)),(9,vi (v2.Rows.length:Int)),(10,vi 0)] [0] [] ?_;obtain⟨o11,h12,hm⟩:=qE hm;refine zU (nd f89 116) 0 (by kernel_rfl) FUEL EU o11 (q_hl (UY v2 0 0) (qDm E v2 FUEL 0 0 o11 h12)) (s_vn [] 1 ⟨[(2,vi (w64 (10*o11)))],[]⟩ ?_);obtain rfl:=oi hm;exact q_rt q_rm
end Saw
end Go.SL

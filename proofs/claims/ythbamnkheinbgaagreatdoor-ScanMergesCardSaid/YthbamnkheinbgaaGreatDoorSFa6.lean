import Derived.Test.YthbamnkheinbgaaGreatDoorSBase
import Derived.Test.YthbamnkheinbgaaGreatDoorSFa5
import Derived.Test.YthbamnkheinbgaaGreatDoorSFa4
import Derived.Test.YthbamnkheinbgaaGreatDoorSFa3
import Derived.Test.YthbamnkheinbgaaGreatDoorSFa1
set_option linter.unusedVariables false
set_option linter.unusedSimpArgs false
namespace Go.SL
namespace Saw
open Go.Proofs Go.Proofs.Tryz
set_option maxHeartbeats 4000000
set_option maxRecDepth 100000
def HA (r:Scan×Bool):V:= .tup [.agg [.own 0 0 2 r.1.Rings.length,.own 1 0 7 r.1.Defects.length],.one (cb r.2)]
def HK (r:Scan×Bool):List (Nat×(Nat×O)):=[(0,ro 0 45 2 r.1.Rings.length (rf qH r.1.Rings)),(1,ro 0 68 7 r.1.Defects.length (rf qD r.1.Defects))]
def PB :St:=
 ⟨[(2,vp 0 0),(4,vp 2 0),(5,vc (.fn 108 [.bptr 2 0 0])),(6,vp 3 0)],[(0,bx 25 [.emp,.emp]),(2,bx 129 [.bptr 1 0 0])]⟩
def US (v2:qI) (v4:(List Int)×Int×Int) (x6:Int) (l7:List Ring) (l7n:Nat) (x8:Int) (x9:Int):St:=
 (PB).up [] [(17,vo 4 0 1 v4.1.length),(18,vi (v4.1.length:Int)),(19,vi x6)] [] [(1,bx 172 [cs v2.s,ci x8,ci x9]),(3,bx 25 [.own 5 0 2 l7n,.emp]),(4,ro 0 3 1 v4.1.length (rf qN v4.1)),(5,ro 0 45 2 l7n (rf qH l7))]
def SC (l18:List Ring) (x19:qI):St:=
 (PB).up [] [] [] [(1,bx 172 (qM x19)),(3,bx 25 [.own 5 0 2 l18.length,.emp]),(5,ro 0 45 2 l18.length (rf qH l18))]
def qC4 (o20:(List Ring)×qI) (v26:(List qA)×Bool) (x31:Bool):St:=
 (PB).up [4,5] [(11,vo 7 0 7 v26.1.length),(53,vb x31)] [2] [(3,bx 25 [.own 5 0 2 o20.1.length,.emp]),(5,ro 0 45 2 o20.1.length (rf qH o20.1)),(7,ro 0 68 7 v26.1.length (rf qD v26.1))]
theorem qCk (E:Env 0) (v2:qI) (v4:(List Int)×Int×Int):∀(n:Nat) (x6:Int) (l7:List Ring) (l7n:Nat) (x8:Int) (x9:Int) (res:(Scan×Bool)⊕((List Ring)×qI)),l7.length=l7n->BU v2 v4 n x6 l7 x8 x9=some res->HL (kx E 58 0) (nd f54 500) (zR 0 (λo=>SC o.1 o.2) (λv st=>RetQ Tryz.prog f54 (HA v) (HK v) .ret st) res) n (US v2 v4 x6 l7 l7n x8 x9):=by
 intro n
 induction n with
 |zero=>
  intro x6 l7 l7n x8 x9 res hl0 hm;cases hm
 |succ n ih=>
  intro x6 l7 l7n x8 x9 res hl0 hm;subst hl0;refine qQ (s_va 6 [(20,vb (decide (x6<(v4.1.length:Int))))] ?_);refine q_sq (q_cq hm (λhm=>?_) (λhm=>?_))
  ·refine q_sk (q_sq ?_);refine q_bk 1 ?_;obtain⟨g11,hm⟩:=qJ hm;refine s_vv [qi 0 g11,qd 1 dN (qY (zF g11))] 6 [20] [(8,vi (v4.1.getD x6.toNat dd))] ?_;obtain⟨v12,h13,hm⟩:=qG hm;obtain⟨v14,h15,hm⟩:=qG hm
   refine s_vu [qd 1 (dex (cen [(2,0),(1,0)] [0,0] 4 2 (KE 96 (qI.mk v2.s x8 x9) v12) (KJ 96 (qI.mk v2.s x8 x9) v12) [24] [2,1])) (zG (K:=(kx E 58 0)) ⟨[(24,vc (.fn 108 [.bptr 2 0 0]))],[(2,bx 129 [.bptr 1 0 0]),(1,bx 172 [cs v2.s,ci x8,ci x9])]⟩ (opAt (rg f54 32050) 1) [(2,0),(1,0)] [0,0] 4 o0 rfl (VW 96 (qI.mk v2.s x8 x9) v12 h13) (.inl rfl) (by kernel_rfl)),qd 2 (dex (cen [] [] 7 0 (WC v14) (jI v14) [25] [6])) (zG (K:=(kx E 58 0)) (b:=false) ⟨[(25,vo 6 0 1 v12.1.length)],[(6,ro 0 3 1 v12.1.length (rf qN v12.1))]⟩ (opAt (rg f54 32050) 2) [] [] 7 (o1 (kg v12.1.length)) rfl (qAP v12.1 v14 h15) (.inr ⟨(by kernel_rfl),qBJ v14⟩) (by kernel_rfl))] 6 [] [(9,vo 7 0 3 v14.1.length),(10,vb v14.2)] [1] [(1,bx 172 [cs ((qI.mk v2.s x8 x9).s),ci v12.2.1,ci v12.2.2]),(7,ro 0 73 3 v14.1.length (rf qF v14.1))] ?_
   refine q_sq (s_vv [] 8 [10] [(30,vb (!v14.2))] ?_);refine q_cq hm (λhm=>?_) (λhm=>?_)
   ·refine s_vn [] 8 ⟨[(2,vp 0 0),(3,vb false)],[(0,bx 25 [.emp,.emp])]⟩ (q_fu [.ownB 0 0 8 45 2 (rf qH [])] [] [] [0] [(0,bx 25 [.own 8 0 2 0,.emp]),(8,ro 0 45 2 0 (rf qH []))] o0 ?_);refine q_fu [.ownB 0 1 9 68 7 (rf qD [])] [] [] [0] [(0,bx 25 [.own 8 0 2 0,.own 9 0 7 0]),(9,ro 0 68 7 0 (rf qD []))] o0 (q_fu [.len 8 (([]:List Ring).length)] [] [] [0,8] [(0,bx 25 [.own 8 0 2 (([]:List Ring).length),.own 9 0 7 0]),(8,ro 0 45 2 (([]:List Ring).length) (rf qH []))] (o1 (And.intro (show 0=([]:List Ring).length from rfl) (show 0=([]:List Ring).length from rfl))) ?_)
    refine q_fu [.len 9 (([]:List qA).length)] [] [] [0,9] [(0,bx 25 [.own 8 0 2 (([]:List Ring).length),.own 9 0 7 (([]:List qA).length)]),(9,ro 0 68 7 (([]:List qA).length) (rf qD []))] (o1 (And.intro (show 0=([]:List qA).length from rfl) (show 0=([]:List qA).length from rfl))) ?_;obtain rfl:=oi hm;refine q_sw 8 0 (q_sw 9 1 ?_);refine q_rt (qW ((Scan.mk ([]:List Ring) ([]:List qA)),false) ?_);exact q_rm
   ·refine q_sk ?_;obtain⟨g17,hm⟩:=qJ hm
    refine q_vu [qd 5 (dpr [.frz 7] (drw 8 0 (rf qH [(Ring.mk (v4.1.getD x6.toNat dd) v14.1)]))) (And.intro (kg v14.1.length) (And.intro (kg v14.1.length) (kg v14.1.length))),qd 5 dN (litP qH dd 2 (λ_=>rfl) ([(Ring.mk (v4.1.getD x6.toNat dd) v14.1)]:List Ring) 1 rfl),qd 6 (drw 5 1 (rf qH (l7++[(Ring.mk (v4.1.getD x6.toNat dd) v14.1)]))) (apP qH dd l7 ([(Ring.mk (v4.1.getD x6.toNat dd) v14.1)]:List Ring) l7.length 1 2 32 (1<=1) (kg _) rfl rfl (λ_=>rfl) (zK g17))] 8 [8,9,30] [] [3,5,7] [(3,bx 25 [.own 5 1 2 (l7.length+1),.emp]),(5,ro 1 45 2 (l7.length+1) (rf qH (l7++[(Ring.mk (v4.1.getD x6.toNat dd) v14.1)])))] (q_vv [] 9 [19] [(19,vi (w64 (x6+1)))] ?_)
    exact q_hl (US v2 v4 (w64 (x6+1)) (l7++[(Ring.mk (v4.1.getD x6.toNat dd) v14.1)]) (l7.length+1) v12.2.1 v12.2.2) (ih (w64 (x6+1)) (l7++[(Ring.mk (v4.1.getD x6.toNat dd) v14.1)]) (l7.length+1) v12.2.1 v12.2.2 _ (zN rfl rfl) hm)
  ·refine q_ex 0 ?_;obtain rfl:=oi hm;exact L1_mk (l7,(qI.mk v2.s x8 x9)) (by kernel_rfl) (by kernel_rfl)
theorem qFP (a1:ByteArray) (r:Scan×Bool) (hm:OT a1=some r):CtX Tryz.prog globs 54 0 0 [.one (cs a1)] [] (HA r) (HK r):=by
 unfold OT at hm;refine q_E f54 58 λE=>?_;refine s_vn [] 0 ⟨[(0,vc (cs a1)),(2,vp 0 0)],[(0,bx 25 [.emp,.emp])]⟩ ?_;obtain⟨v2,h3,hm⟩:=qG hm;refine s_vu [qc 1 [13] 1 (qBS a1 v2 h3)] 1 [0] [(4,vp 2 0)] [] [(1,bx 172 (qM v2)),(2,bx 129 [.bptr 1 0 0])] (s_va 3 [(5,vc (.fn 108 [.bptr 2 0 0]))] ?_);refine s_vu [] 3 [] [(6,vp 3 0)] [] [(3,bx 25 [.emp,.emp])] (q_sq ?_);obtain⟨v4,h5,hm⟩:=qG hm
 refine s_vu [qd 1 (dex (cen [(2,0),(1,0)] [0,0] 2 2 (KE 24 v2 v4) (KJ 24 v2 v4) [16] [2,1])) (zG (K:=(kx E 58 0)) ⟨[(16,vc (.fn 108 [.bptr 2 0 0]))],[(2,bx 129 [.bptr 1 0 0]),(1,bx 172 (qM v2))]⟩ (opAt (rg f54 124) 1) [(2,0),(1,0)] [0,0] 2 o0 rfl (VW 24 v2 v4 h5) (.inl rfl) (by kernel_rfl))] 4 [] [(17,vo 4 0 1 v4.1.length),(18,vi (v4.1.length:Int)),(19,vi 0)] [1] [(1,bx 172 [cs v2.s,ci v4.2.1,ci v4.2.2]),(4,ro 0 3 1 v4.1.length (rf qN v4.1))] (q_fu [.ownB 3 0 5 45 2 (rf qH [])] [] [] [3] [(3,bx 25 [.own 5 0 2 0,.emp]),(5,ro 0 45 2 0 (rf qH []))] o0 ?_);obtain⟨u22,h21,hm⟩:=qG hm
 refine zC (nd f54 500) 0 (by kernel_rfl) FUEL (λo=>SC o.1 o.2) (λv st=>RetQ Tryz.prog f54 (HA v) (HK v) .ret st) u22 (q_hl (US v2 v4 0 ([]:List Ring) 0 v4.2.1 v4.2.2) (qCk E v2 v4 FUEL 0 ([]:List Ring) 0 v4.2.1 v4.2.2 u22 rfl h21)) ?_ ?_
 ·rintro v23 rfl st hr;obtain rfl:=oi hm;exact hr
 ·rintro o20 rfl;replace hm:_=some r:=hm;obtain⟨v24,h25,hm⟩:=qG hm;obtain⟨v26,h27,hm⟩:=qG hm
  refine s_vu [qd 1 (dex (cen [(2,0),(1,0)] [0,0] 4 2 (KE 448 o20.2 v24) (KJ 448 o20.2 v24) [42] [2,1])) (zG (K:=(kx E 58 0)) ⟨[(42,vc (.fn 108 [.bptr 2 0 0]))],[(2,bx 129 [.bptr 1 0 0]),(1,bx 172 (qM o20.2))]⟩ (opAt (rg f54 126) 1) [(2,0),(1,0)] [0,0] 4 o0 rfl (VW 448 o20.2 v24 h25) (.inl rfl) (by kernel_rfl)),qd 2 (dex (cen [] [] 7 0 (LH v26) (JG v26) [43] [6])) (zG (K:=(kx E 58 0)) (b:=false) ⟨[(43,vo 6 0 1 v24.1.length)],[(6,ro 0 3 1 v24.1.length (rf qN v24.1))]⟩ (opAt (rg f54 126) 2) [] [] 7 (o1 (kg v24.1.length)) rfl (qBx v24.1 v26 h27) (.inr ⟨(by kernel_rfl),qCL v26⟩) (by kernel_rfl))] 6 [5] [(11,vo 7 0 7 v26.1.length),(12,vb v26.2)] [1] [(1,bx 172 [cs o20.2.s,ci v24.2.1,ci v24.2.2]),(7,ro 0 68 7 v26.1.length (rf qD v26.1))] ?_
  refine q_sq (q_jn (qC4 o20 v26) (λp=>NQ o20 v26 p=some r) ?_ ?_)
  ·rintro x31 hm;refine q_cq hm (λhm=>?_) (λhm=>?_)
   ·refine s_vu [] 8 [6,11,53] [(3,vb false)] [3,5,7] [] (q_fu [.ownB 0 0 8 45 2 (rf qH [])] [] [] [0] [(0,bx 25 [.own 8 0 2 0,.emp]),(8,ro 0 45 2 0 (rf qH []))] o0 ?_);refine q_fu [.ownB 0 1 9 68 7 (rf qD [])] [] [] [0] [(0,bx 25 [.own 8 0 2 0,.own 9 0 7 0]),(9,ro 0 68 7 0 (rf qD []))] o0 (q_fu [.len 8 (([]:List Ring).length)] [] [] [0,8] [(0,bx 25 [.own 8 0 2 (([]:List Ring).length),.own 9 0 7 0]),(8,ro 0 45 2 (([]:List Ring).length) (rf qH []))] (o1 (And.intro (show 0=([]:List Ring).length from rfl) (show 0=([]:List Ring).length from rfl))) ?_)
    refine q_fu [.len 9 (([]:List qA).length)] [] [] [0,9] [(0,bx 25 [.own 8 0 2 (([]:List Ring).length),.own 9 0 7 (([]:List qA).length)]),(9,ro 0 68 7 (([]:List qA).length) (rf qD []))] (o1 (And.intro (show 0=([]:List qA).length from rfl) (show 0=([]:List qA).length from rfl))) ?_;obtain rfl:=oi hm;refine q_sw 8 0 (q_sw 9 1 ?_);exact q_rt q_rm
   ·refine q_sk (s_vu [] 8 [11,53] [] [3] [(3,bx 25 [.own 5 0 2 o20.1.length,.own 7 0 7 v26.1.length])] ?_);refine s_vu [] 8 [6] [(3,vb true)] [0,3] [(0,bx 25 [.own 5 0 2 o20.1.length,.own 7 0 7 v26.1.length])] ?_;obtain rfl:=oi hm;refine q_sw 5 0 (q_sw 7 1 ?_);exact q_rt q_rm
  ·rcases bif_c hm with⟨b28,hm⟩|⟨b28,hm⟩
   ·exact q_vu [qf 2 b28] 8 [4,12] [(53,vb true)] [1,2] [] (q_J (true) hm)
   ·obtain⟨v29,h30,hm⟩:=qG hm;exact q_vu [qf 2 b28,qd 4 (dex (cen [(1,0)] [0] 7 1 (FC (qI.mk o20.2.s v24.2.1 v24.2.2) v29) (NU (qI.mk o20.2.s v24.2.1 v24.2.2) v29) [49,50] [1])) (zG (K:=(kx E 58 0)) ⟨[(49,vb false),(50,vp 1 0)],[(1,bx 172 [cs o20.2.s,ci v24.2.1,ci v24.2.2])]⟩ (opAt (rg f54 508) 4) [(1,0)] [0] 7 o0 rfl (qBb (qI.mk o20.2.s v24.2.1 v24.2.2) v29 h30) (.inl rfl) (by kernel_rfl))] 8 [4,12] [(53,vb (v29 !=0))] [1,2] [] (q_J (v29 !=0) hm)
def qFA (r:Scan×Int):V:= .tup [.agg [.own 0 0 2 r.1.Rings.length,.own 1 0 7 r.1.Defects.length],.one (ci r.2)]
def qFW (r:Scan×Int):List (Nat×(Nat×O)):=[(0,ro 0 45 2 r.1.Rings.length (rf qH r.1.Rings)),(1,ro 0 68 7 r.1.Defects.length (rf qD r.1.Defects))]
theorem qEo (a1:ByteArray) (r:Scan×Int) (hm:YE a1=some r):CtX Tryz.prog globs 21 0 0 [.one (cs a1)] [] (qFA r) (qFW r):=by
 unfold YE at hm;refine q_E f21 22 λE=>?_;refine s_vn [] 0 ⟨[(0,vc (cs a1)),(2,vp 0 0)],[(0,bx 25 [.emp,.emp])]⟩ ?_;obtain⟨v2,h3,hm⟩:=qG hm;refine s_vu [qc 1 [8] 1 (qFP a1 v2 h3)] 1 [0] [(4,vp 3 0),(5,vb v2.2)] [] [(1,ro 0 45 2 v2.1.Rings.length (rf qH v2.1.Rings)),(2,ro 0 68 7 v2.1.Defects.length (rf qD v2.1.Defects)),(3,bx 25 [.own 1 0 2 v2.1.Rings.length,.own 2 0 7 v2.1.Defects.length])] (q_sq ?_);refine s_vv [] 4 [5] [(13,vb (!v2.2))] (q_cq hm (λhm=>?_) (λhm=>?_))
 ·refine s_vu [] 4 [4,13] [(3,vi 5)] [1,2,3] [] (q_fu [.ownB 0 0 4 45 2 (rf qH [])] [] [] [0] [(0,bx 25 [.own 4 0 2 0,.emp]),(4,ro 0 45 2 0 (rf qH []))] o0 ?_);refine q_fu [.ownB 0 1 5 68 7 (rf qD [])] [] [] [0] [(0,bx 25 [.own 4 0 2 0,.own 5 0 7 0]),(5,ro 0 68 7 0 (rf qD []))] o0 (q_fu [.len 4 (([]:List Ring).length)] [] [] [0,4] [(0,bx 25 [.own 4 0 2 (([]:List Ring).length),.own 5 0 7 0]),(4,ro 0 45 2 (([]:List Ring).length) (rf qH []))] (o1 (And.intro (show 0=([]:List Ring).length from rfl) (show 0=([]:List Ring).length from rfl))) ?_)
  refine q_fu [.len 5 (([]:List qA).length)] [] [] [0,5] [(0,bx 25 [.own 4 0 2 (([]:List Ring).length),.own 5 0 7 (([]:List qA).length)]),(5,ro 0 68 7 (([]:List qA).length) (rf qD []))] (o1 (And.intro (show 0=([]:List qA).length from rfl) (show 0=([]:List qA).length from rfl))) ?_;obtain rfl:=oi hm;refine q_sw 4 0 (q_sw 5 1 ?_);exact q_rt q_rm
 ·refine q_sk (q_sq ?_);obtain⟨v5,h6,hm⟩:=qG hm;refine s_vv [qd 1 (dex (cen [] [] 4 0 (WG v5) (yC v5) [15] [1,2])) (zG (K:=(kx E 22 0)) (b:=false) ⟨[(15,va [.own 1 0 2 v2.1.Rings.length,.own 2 0 7 v2.1.Defects.length])],[(1,ro 0 45 2 v2.1.Rings.length (rf qH v2.1.Rings)),(2,ro 0 68 7 v2.1.Defects.length (rf qD v2.1.Defects))]⟩ (opAt (rg f21 60) 1) [] [] 4 (o1 (And.intro (kg v2.1.Rings.length) (kg v2.1.Defects.length))) rfl (ZC (Scan.mk v2.1.Rings v2.1.Defects) v5 h6) (.inr ⟨(by kernel_rfl),qG2 v5⟩) (by kernel_rfl))] 4 [13] [(6,vi v5)] (s_va 4 [(18,vb (v5 !=0))] ?_)
  refine q_cq hm (λhm=>?_) (λhm=>?_)
  ·refine s_vu [] 4 [4,6,18] [(3,vi v5)] [1,2,3] [] (q_fu [.ownB 0 0 4 45 2 (rf qH [])] [] [] [0] [(0,bx 25 [.own 4 0 2 0,.emp]),(4,ro 0 45 2 0 (rf qH []))] o0 ?_);refine q_fu [.ownB 0 1 5 68 7 (rf qD [])] [] [] [0] [(0,bx 25 [.own 4 0 2 0,.own 5 0 7 0]),(5,ro 0 68 7 0 (rf qD []))] o0 (q_fu [.len 4 (([]:List Ring).length)] [] [] [0,4] [(0,bx 25 [.own 4 0 2 (([]:List Ring).length),.own 5 0 7 0]),(4,ro 0 45 2 (([]:List Ring).length) (rf qH []))] (o1 (And.intro (show 0=([]:List Ring).length from rfl) (show 0=([]:List Ring).length from rfl))) ?_)
   refine q_fu [.len 5 (([]:List qA).length)] [] [] [0,5] [(0,bx 25 [.own 4 0 2 (([]:List Ring).length),.own 5 0 7 (([]:List qA).length)]),(5,ro 0 68 7 (([]:List qA).length) (rf qD []))] (o1 (And.intro (show 0=([]:List qA).length from rfl) (show 0=([]:List qA).length from rfl))) ?_;obtain rfl:=oi hm;refine q_sw 4 0 (q_sw 5 1 ?_);exact q_rt q_rm
  ·refine q_sk (s_vu [] 4 [4,6,18] [(3,vi 0)] [0,3] [(0,bx 25 [.own 1 0 2 v2.1.Rings.length,.own 2 0 7 v2.1.Defects.length])] ?_);obtain rfl:=oi hm;refine q_sw 1 0 (q_sw 2 1 ?_);exact q_rt q_rm
def QU (r:Bool):V:=vb r
def QY (r:Bool):List (Nat×(Nat×O)):=[]
def yH (a1:List qC) (a2:List qC) (x4:Int):St:=
 ⟨[(0,vc (tl qF dd a1)),(1,vc (tl qF dd a2)),(12,vi (a1.length:Int)),(13,vi x4)],[]⟩
def JS :St:=
 ⟨[],[]⟩
theorem BN (E:Env 0) (a1:List qC) (a2:List qC):∀(n:Nat) (x4:Int) (res:Bool⊕Unit),QP a1 a2 n x4=some res->HL (kx E 26 0) (nd f59 116) (zR 0 (λo=>JS) (λv st=>RetQ Tryz.prog f59 (QU v) (QY v) .ret st) res) n (yH a1 a2 x4):=by
 intro n
 induction n with
 |zero=>
  intro x4 res hm;cases hm
 |succ n ih=>
  intro x4 res hm;refine qQ (s_va 0 [(14,vb (decide (x4<(a1.length:Int))))] ?_);refine q_sq (q_cq hm (λhm=>?_) (λhm=>?_))
  ·refine q_sk (q_sq ?_);refine q_bk 1 (s_vv [] 0 [14] [(5,vi x4)] ?_);obtain⟨g6,hm⟩:=qJ hm;obtain⟨g7,hm⟩:=qJ hm;refine s_du [qi 2 g6,qi 6 g7] [0,0,3,7,0,0,48,112,255] 0 [5] [(24,vb (!((((((a1.getD x4.toNat dd).P).X)==(((a2.getD x4.toNat dd).P).X))&&(((((a1.getD x4.toNat dd).P).Y)==(((a2.getD x4.toNat dd).P).Y))&&true))&&((((a1.getD x4.toNat dd).Ok)==((a2.getD x4.toNat dd).Ok))&&true))))] [] [] (q_cq hm (λhm=>?_) (λhm=>?_))
   ·refine s_vn [] 0 ⟨[(4,vb false)],[]⟩ ?_;obtain rfl:=oi hm;refine q_rt (qW false ?_);exact q_rm
   ·refine q_sk (q_vv [] 0 [13,24] [(13,vi (w64 (x4+1)))] ?_);exact q_hl (yH a1 a2 (w64 (x4+1))) (ih (w64 (x4+1)) _ hm)
  ·refine q_ex 0 ?_;obtain rfl:=oi hm;exact q_l1 ()
theorem MB (a1:List qC) (a2:List qC) (r:Bool) (hm:WF a1 a2=some r):CtX Tryz.prog globs 59 0 0 [.one (tl qF dd a1),.one (tl qF dd a2)] [] (QU r) (QY r):=by
 unfold WF at hm;refine q_E f59 26 λE=>?_;refine s_vn [] 0 ⟨[(0,vc (tl qF dd a1)),(1,vc (tl qF dd a2))],[]⟩ (q_sq ?_);refine s_va 0 [(10,vb ((a1.length:Int) !=(a2.length:Int)))] (q_cq hm (λhm=>?_) (λhm=>?_))
 ·refine s_vn [] 0 ⟨[(4,vb false)],[]⟩ ?_;obtain rfl:=oi hm;exact q_rt q_rm
 ·refine q_sk (q_sq ?_);refine s_vv [] 0 [10] [(12,vi (a1.length:Int)),(13,vi 0)] ?_;obtain⟨u11,h10,hm⟩:=qG hm;refine zC (nd f59 116) 0 (by kernel_rfl) FUEL (λo=>JS) (λv st=>RetQ Tryz.prog f59 (QU v) (QY v) .ret st) u11 (q_hl (yH a1 a2 0) (BN E a1 a2 FUEL 0 u11 h10)) ?_ ?_
  ·rintro v12 rfl st hr;obtain rfl:=oi hm;exact hr
  ·rintro o9 rfl;replace hm:_=some r:=hm;refine s_vn [] 0 ⟨[(4,vb true)],[]⟩ ?_;obtain rfl:=oi hm;exact q_rt q_rm
open Go.Proofs Go.Proofs.Tryz
def qFH (r:Bool):V:=vb r
def qF0 (r:Bool):List (Nat×(Nat×O)):=[]
def qCx (x6:Bool):St:=
 ⟨[(4,vb x6)],[]⟩
theorem qD7 (a1:Ring) (a2:Ring) (r:Bool) (hm:EU a1 a2=some r):CtX Tryz.prog globs 58 0 0 [.agg (qH a1),.agg (qH a2)] [] (qFH r) (qF0 r):=by
 unfold EU at hm;refine q_E f58 17 λE=>?_;refine s_vn [] 0 ⟨[(2,vp 0 0),(3,vp 1 0)],[(0,bx 45 (qH a1)),(1,bx 45 (qH a2))]⟩ (q_jn (qCx) (λp=>GA p=some r) ?_ ?_)
 ·rintro x6 hm;obtain rfl:=oi hm;exact q_rt q_rm
 ·rcases bif_c hm with⟨b3,hm⟩|⟨b3,hm⟩
  ·obtain⟨v4,h5,hm⟩:=qG hm;exact q_vn [qf 5 b3,qk 10 [10,12,14] 2 ⟨[(10,vb true),(12,vc (tl qF dd a1.Read)),(14,vc (tl qF dd a2.Read))],[]⟩ (MB a1.Read a2.Read v4 h5)] 2 ⟨[(4,vb v4)],[]⟩ (q_J (v4) hm)
  ·exact q_vn [qf 5 b3] 2 ⟨[(4,vb false)],[]⟩ (q_J (false) hm)
def QI (r:Bool):V:=vb r
def QK (r:Bool):List (Nat×(Nat×O)):=[]
def jX (a1:List Ring) (a2:List Ring) (x4:Int):St:=
 ⟨[(1,vc (tl qH dd a2)),(2,vc (.fn 58 [])),(15,vc (tl qH dd a1)),(16,vi (a1.length:Int)),(17,vi x4)],[]⟩
def WX :St:=
 ⟨[],[]⟩
theorem GV (E:Env 0) (a1:List Ring) (a2:List Ring):∀(n:Nat) (x4:Int) (res:Bool⊕Unit),yY a1 a2 n x4=some res->HL (kx E 32 0) (nd f60 116) (zR 0 (λo=>WX) (λv st=>RetQ Tryz.prog f60 (QI v) (QK v) .ret st) res) n (jX a1 a2 x4):=by
 intro n
 induction n with
 |zero=>
  intro x4 res hm;cases hm
 |succ n ih=>
  intro x4 res hm;refine qQ (s_va 0 [(18,vb (decide (x4<(a1.length:Int))))] ?_);refine q_sq (q_cq hm (λhm=>?_) (λhm=>?_))
  ·refine q_sk (q_sq ?_);refine q_bk 1 ?_;obtain⟨g6,hm⟩:=qJ hm;refine s_vu [qi 1 g6] 0 [18] [(7,vi x4),(8,vp 0 0)] [] [(0,bx 45 (qH (a1.getD x4.toNat dd)))] ?_;obtain⟨g7,hm⟩:=qJ hm;refine s_vu [qi 2 g7] 1 [7] [(9,vp 1 0)] [] [(1,bx 45 (qH (a2.getD x4.toNat dd)))] ?_;obtain⟨v8,h9,hm⟩:=qG hm
   refine s_vu [qk 3 [26,27,28] 2 ⟨[(26,vc (.fn 58 [])),(27,va [ci ((a1.getD x4.toNat dd).Z),tl qF dd ((a1.getD x4.toNat dd).Read)]),(28,va [ci ((a2.getD x4.toNat dd).Z),tl qF dd ((a2.getD x4.toNat dd).Read)])],[]⟩ (qD7 (a1.getD x4.toNat dd) (a2.getD x4.toNat dd) v8 h9)] 2 [8,9] [(30,vb (!v8))] [0,1] [] (q_cq hm (λhm=>?_) (λhm=>?_))
   ·refine s_vn [] 2 ⟨[(6,vb false)],[]⟩ ?_;obtain rfl:=oi hm;refine q_rt (qW false ?_);exact q_rm
   ·refine q_sk (q_vv [] 2 [17,30] [(17,vi (w64 (x4+1)))] ?_);exact q_hl (jX a1 a2 (w64 (x4+1))) (ih (w64 (x4+1)) _ hm)
  ·refine q_ex 0 ?_;obtain rfl:=oi hm;exact q_l1 ()
theorem XA (a1:List Ring) (a2:List Ring) (r:Bool) (hm:ZX a1 a2=some r):CtX Tryz.prog globs 60 0 0 [.one (tl qH dd a1),.one (tl qH dd a2),.one (.fn 58 [])] [] (QI r) (QK r):=by
 unfold ZX at hm;refine q_E f60 32 λE=>?_;refine s_vn [] 0 ⟨[(0,vc (tl qH dd a1)),(1,vc (tl qH dd a2)),(2,vc (.fn 58 []))],[]⟩ (q_sq ?_);refine s_va 0 [(14,vb ((a1.length:Int) !=(a2.length:Int)))] (q_cq hm (λhm=>?_) (λhm=>?_))
 ·refine s_vn [] 0 ⟨[(6,vb false)],[]⟩ ?_;obtain rfl:=oi hm;exact q_rt q_rm
 ·refine q_sk (q_sq ?_);refine s_vv [] 0 [0,14] [(15,vc (tl qH dd a1)),(16,vi (a1.length:Int)),(17,vi 0)] ?_;obtain⟨u13,h12,hm⟩:=qG hm;refine zC (nd f60 116) 0 (by kernel_rfl) FUEL (λo=>WX) (λv st=>RetQ Tryz.prog f60 (QI v) (QK v) .ret st) u13 (q_hl (jX a1 a2 0) (GV E a1 a2 FUEL 0 u13 h12)) ?_ ?_
  ·rintro v14 rfl st hr;obtain rfl:=oi hm;exact hr
  ·rintro o11 rfl;replace hm:_=some r:=hm;refine s_vn [] 0 ⟨[(6,vb true)],[]⟩ ?_;obtain rfl:=oi hm;exact q_rt q_rm
def ZU (r:Bool):V:=vb r
def ZY (r:Bool):List (Nat×(Nat×O)):=[]
def yT (a1:List qA) (a2:List qA) (x4:Int):St:=
 ⟨[(0,vc (tl qD dd a1)),(1,vc (tl qD dd a2)),(12,vi (a1.length:Int)),(13,vi x4)],[]⟩
def YW :St:=
 ⟨[],[]⟩
theorem BX (E:Env 0) (a1:List qA) (a2:List qA):∀(n:Nat) (x4:Int) (res:Bool⊕Unit),QX a1 a2 n x4=some res->HL (kx E 26 0) (nd f61 116) (zR 0 (λo=>YW) (λv st=>RetQ Tryz.prog f61 (ZU v) (ZY v) .ret st) res) n (yT a1 a2 x4):=by
 intro n
 induction n with
 |zero=>
  intro x4 res hm;cases hm
 |succ n ih=>
  intro x4 res hm;refine qQ (s_va 0 [(14,vb (decide (x4<(a1.length:Int))))] ?_);refine q_sq (q_cq hm (λhm=>?_) (λhm=>?_))
  ·refine q_sk (q_sq ?_);refine q_bk 1 (s_vv [] 0 [14] [(5,vi x4)] ?_);obtain⟨g6,hm⟩:=qJ hm;obtain⟨g7,hm⟩:=qJ hm
   refine s_du [qi 2 g6,qi 6 g7] [0,0,3,7,0,0,48,112,255] 0 [5] [(24,vb (!((((a1.getD x4.toNat dd).Kind)==((a2.getD x4.toNat dd).Kind))&&((((((((a1.getD x4.toNat dd).Box).X).A)==((((a2.getD x4.toNat dd).Box).X).A))&&((((((a1.getD x4.toNat dd).Box).X).B)==((((a2.getD x4.toNat dd).Box).X).B))&&true))&&(((((((a1.getD x4.toNat dd).Box).Y).A)==((((a2.getD x4.toNat dd).Box).Y).A))&&((((((a1.getD x4.toNat dd).Box).Y).B)==((((a2.getD x4.toNat dd).Box).Y).B))&&true))&&(((((((a1.getD x4.toNat dd).Box).Z).A)==((((a2.getD x4.toNat dd).Box).Z).A))&&((((((a1.getD x4.toNat dd).Box).Z).B)==((((a2.getD x4.toNat dd).Box).Z).B))&&true))&&true)))&&true))))] [] [] (q_cq hm (λhm=>?_) (λhm=>?_))
   ·refine s_vn [] 0 ⟨[(4,vb false)],[]⟩ ?_;obtain rfl:=oi hm;refine q_rt (qW false ?_);exact q_rm
   ·refine q_sk (q_vv [] 0 [13,24] [(13,vi (w64 (x4+1)))] ?_);exact q_hl (yT a1 a2 (w64 (x4+1))) (ih (w64 (x4+1)) _ hm)
  ·refine q_ex 0 ?_;obtain rfl:=oi hm;exact q_l1 ()
theorem HN (a1:List qA) (a2:List qA) (r:Bool) (hm:JF a1 a2=some r):CtX Tryz.prog globs 61 0 0 [.one (tl qD dd a1),.one (tl qD dd a2)] [] (ZU r) (ZY r):=by
 unfold JF at hm;refine q_E f61 26 λE=>?_;refine s_vn [] 0 ⟨[(0,vc (tl qD dd a1)),(1,vc (tl qD dd a2))],[]⟩ (q_sq ?_);refine s_va 0 [(10,vb ((a1.length:Int) !=(a2.length:Int)))] (q_cq hm (λhm=>?_) (λhm=>?_))
 ·refine s_vn [] 0 ⟨[(4,vb false)],[]⟩ ?_;obtain rfl:=oi hm;exact q_rt q_rm
 ·refine q_sk (q_sq ?_);refine s_vv [] 0 [10] [(12,vi (a1.length:Int)),(13,vi 0)] ?_;obtain⟨u11,h10,hm⟩:=qG hm;refine zC (nd f61 116) 0 (by kernel_rfl) FUEL (λo=>YW) (λv st=>RetQ Tryz.prog f61 (ZU v) (ZY v) .ret st) u11 (q_hl (yT a1 a2 0) (BX E a1 a2 FUEL 0 u11 h10)) ?_ ?_
  ·rintro v12 rfl st hr;obtain rfl:=oi hm;exact hr
  ·rintro o9 rfl;replace hm:_=some r:=hm;refine s_vn [] 0 ⟨[(4,vb true)],[]⟩ ?_;obtain rfl:=oi hm;exact q_rt q_rm
open Go.Proofs Go.Proofs.Tryz
def qHL (r:Bool):V:=vb r
def qHT (r:Bool):List (Nat×(Nat×O)):=[]
def qEn (x8:Bool):St:=
 ⟨[(4,vb x8)],[]⟩
theorem qG5 (a1:Scan) (a2:Scan) (r:Bool) (hm:BI a1 a2=some r):CtX Tryz.prog globs 24 0 0 [.agg (qR a1),.agg (qR a2)] [] (qHL r) (qHT r):=by
 unfold BI at hm;refine q_E f24 19 λE=>?_;refine s_vn [] 0 ⟨[(2,vp 0 0),(3,vp 1 0)],[(0,bx 25 (qR a1)),(1,bx 25 (qR a2))]⟩ (s_va 2 [(5,vc (.fn 58 []))] ?_);refine q_jn (qEn) (λp=>MA p=some r) ?_ ?_
 ·rintro x8 hm;obtain rfl:=oi hm;exact q_rt q_rm
 ·obtain⟨v3,h4,hm⟩:=qG hm;rcases bif_c hm with⟨b5,hm⟩|⟨b5,hm⟩
  ·obtain⟨v6,h7,hm⟩:=qG hm;exact q_vn [qc 5 [7,9,10] 2 (XA a1.Rings a2.Rings v3 h4),qf 6 b5,qk 11 [12,14,16] 2 ⟨[(12,vb true),(14,vc (tl qD dd a1.Defects)),(16,vc (tl qD dd a2.Defects))],[]⟩ (HN a1.Defects a2.Defects v6 h7)] 2 ⟨[(4,vb v6)],[]⟩ (q_J (v6) hm)
  ·exact q_vn [qc 5 [7,9,10] 2 (XA a1.Rings a2.Rings v3 h4),qf 6 b5] 2 ⟨[(4,vb false)],[]⟩ (q_J (false) hm)
def qHK (r:Int):V:=vc (.val (.int .u64 r))
def qHS (r:Int):List (Nat×(Nat×O)):=[]
theorem qG7 (a1:Span) (r:Int) (hm:qAy a1=some r):CtX Tryz.prog globs 176 0 0 [.agg (qL a1)] [] (qHK r) (qHS r):=by
 unfold qAy at hm;refine q_E f176 15 λE=>?_;refine s_vn [] 0 ⟨[(1,vp 0 0)],[(0,bx 64 (qL a1))]⟩ (q_sq ?_);refine s_va 1 [(7,vb (decide (a1.A≥a1.B)))] (q_cq hm (λhm=>?_) (λhm=>?_))
 ·refine s_vn [] 1 ⟨[(2,vc (.val (.int .u64 0)))],[]⟩ ?_;obtain rfl:=oi hm;exact q_rt q_rm
 ·refine q_sk (s_vn [] 1 ⟨[(2,vc (.val (.int .u64 (IntKind.u64.wrap ((IntKind.u64.wrap (a1.B))-(IntKind.u64.wrap (a1.A)))))))],[]⟩ ?_);obtain rfl:=oi hm;exact q_rt q_rm
def qEb (r:Int):V:=vi r
def qEc (r:Int):List (Nat×(Nat×O)):=[]
theorem qCZ (a1:Int) (r:Int) (hm:FX a1=some r):CtX Tryz.prog globs 175 0 0 [.one (.val (.int .u64 a1))] [] (qEb r) (qEc r):=by
 unfold FX at hm;refine q_E f175 6 λE=>?_;refine s_vn [] 0 ⟨[(0,vc (.val (.int .u64 a1)))],[]⟩ (s_vn [] 0 ⟨[(2,vi (w64 (imin a1 9223372036854775807)))],[]⟩ ?_);obtain rfl:=oi hm;exact q_rt q_rm
open Go.Proofs Go.Proofs.Tryz
def qIL (r:Int):V:=vi r
def qIG (r:Int):List (Nat×(Nat×O)):=[]
theorem qH4 (a1:Span) (r:Int) (hm:qCc a1=some r):CtX Tryz.prog globs 144 0 0 [.agg (qL a1)] [] (qIL r) (qIG r):=by
 unfold qCc at hm;refine q_E f144 6 λE=>?_;refine s_vn [] 0 ⟨[(1,vp 0 0)],[(0,bx 64 (qL a1))]⟩ ?_;obtain⟨v2,h3,hm⟩:=qG hm;obtain⟨v4,h5,hm⟩:=qG hm;refine s_vn [qc 1 [3] 1 (qG7 a1 v2 h3),qc 2 [4] 1 (qCZ v2 v4 h5)] 1 ⟨[(2,vi v4)],[]⟩ ?_;obtain rfl:=oi hm;exact q_rt q_rm
def qD9 (r:Int):V:=vi r
def qEy (r:Int):List (Nat×(Nat×O)):=[]
def PC (v2:qK) (x4:Int) (x5:Int):St:=
 ⟨[(3,vi x4),(8,vc (tl qL dd v2.Rows)),(9,vi (v2.Rows.length:Int)),(10,vi x5)],[]⟩
def NZ (x10:Int):St:=
 ⟨[(3,vi x10)],[]⟩
theorem qAu (E:Env 0) (v2:qK):∀(n:Nat) (x4:Int) (x5:Int) (res:Int),VN v2 n x4 x5=some res->HL (kx E 21 0) (nd f89 116) (zL 0 NZ res) n (PC v2 x4 x5):=by
 intro n
 induction n with
 |zero=>
  intro x4 x5 res hm;cases hm
 |succ n ih=>
  intro x4 x5 res hm;refine qQ (s_va 1 [(11,vb (decide (x5<(v2.Rows.length:Int))))] ?_);refine q_sq (q_cq hm (λhm=>?_) (λhm=>?_))
  ·refine q_sk (q_sq ?_);refine q_bk 1 ?_;obtain⟨g7,hm⟩:=qJ hm;refine s_vu [qi 0 g7] 1 [11] [(5,vp 1 0)] [] [(1,bx 64 (qL (v2.Rows.getD x5.toNat dd)))] ?_;obtain⟨v8,h9,hm⟩:=qG hm;refine q_vu [qc 2 [15] 2 (qH4 (v2.Rows.getD x5.toNat dd) v8 h9)] 2 [3,5] [(3,vi (w64 (x4+v8)))] [1] [] (q_vv [] 2 [10] [(10,vi (w64 (x5+1)))] ?_);exact q_hl (PC v2 (w64 (x4+v8)) (w64 (x5+1))) (ih (w64 (x4+v8)) (w64 (x5+1)) _ hm)
  ·refine q_ex 0 ?_;obtain rfl:=oi hm;exact q_l0
theorem qC9 (a1:qK) (r:Int) (hm:LJ a1=some r):CtX Tryz.prog globs 89 0 0 [.agg (qP a1)] [] (qD9 r) (qEy r):=by
 unfold LJ at hm;refine q_E f89 21 λE=>?_;refine s_vn [] 0 ⟨[(1,vp 0 0)],[(0,bx 48 (qP a1))]⟩ (s_va 1 [(3,vi 0)] ?_);refine q_sq ?_;obtain⟨v2,h3,hm⟩:=qG hm;refine s_vu [qc 1 [6] 1 (TB a1 v2 h3)] 1 [1] [(8,vc (tl qL dd v2.Rows)),(9,vi (v2.Rows.length:Int)),(10,vi 0)] [0] [] ?_;obtain⟨o11,h12,hm⟩:=qG hm;refine zI (nd f89 116) 0 (by kernel_rfl) FUEL NZ o11 (q_hl (PC v2 0 0) (qAu E v2 FUEL 0 0 o11 h12)) (s_vn [] 1 ⟨[(2,vi (w64 (10*o11)))],[]⟩ ?_);obtain rfl:=oi hm;exact q_rt q_rm
def BS (r:Int):V:=vi r
def NO (r:Int):List (Nat×(Nat×O)):=[]
def qCQ (a1:List qT) (x4:Int) (x5:Int) (x13:Bool):St:=
 ⟨[(3,vi x4),(5,vp 0 0),(13,vc (tl qV dd a1)),(14,vi (a1.length:Int)),(15,vi x5),(39,vb x13)],[(0,bx 50 (qV (a1.getD x5.toNat dd)))]⟩
def RZ (a1:List qT) (x4:Int) (x5:Int):St:=
 ⟨[(3,vi x4),(13,vc (tl qV dd a1)),(14,vi (a1.length:Int)),(15,vi x5)],[]⟩
def HE :St:=
 ⟨[],[]⟩
theorem qBq (E:Env 0) (a1:List qT):∀(n:Nat) (x4:Int) (x5:Int) (res:Int⊕Unit),WH a1 n x4 x5=some res->HL (kx E 45 0) (nd f26 500) (zR 0 (λo=>HE) (λv st=>RetQ Tryz.prog f26 (BS v) (NO v) .ret st) res) n (RZ a1 x4 x5):=by
 intro n
 induction n with
 |zero=>
  intro x4 x5 res hm;cases hm
 |succ n ih=>
  intro x4 x5 res hm;refine qQ (s_va 0 [(16,vb (decide (x5<(a1.length:Int))))] ?_);refine q_sq (q_cq hm (λhm=>?_) (λhm=>?_))
  ·refine q_sk (q_sq ?_);refine q_bk 1 ?_;obtain⟨g7,hm⟩:=qJ hm;refine s_vu [qi 0 g7] 0 [16] [(5,vp 0 0)] [] [(0,bx 50 (qV (a1.getD x5.toNat dd)))] (q_sq ?_);obtain⟨v8,h9,hm⟩:=qG hm;refine s_vv [qc 2 [20] 1 (MS ((a1.getD x5.toNat dd).Sec) v8 h9)] 1 [] [(6,vi v8)] (s_va 1 [(23,vb (v8 !=0))] ?_);refine q_cq hm (λhm=>?_) (λhm=>?_)
   ·refine s_vn [] 1 ⟨[(2,vi v8)],[]⟩ ?_;obtain rfl:=oi hm;refine q_rt (qW v8 ?_);exact q_rm
   ·refine q_sk (q_sq ?_);refine s_vv [] 1 [6,23] [(29,vb ((((((a1.getD x5.toNat dd).Sec).Rows).length:Nat):Int)==0))] (q_cq hm (λhm=>?_) (λhm=>?_))
    ·refine s_vn [] 1 ⟨[(2,vi 18)],[]⟩ ?_;obtain rfl:=oi hm;refine q_rt (qW 18 ?_);exact q_rm
    ·refine q_sk (q_sq ?_);refine q_jn (qCQ a1 x4 x5) (λp=>GU a1 x4 x5 (WH a1 n) p=some res) ?_ ?_
     ·rintro x13 hm;refine q_cq hm (λhm=>?_) (λhm=>?_)
      ·refine s_vn [] 1 ⟨[(2,vi 9)],[]⟩ ?_;obtain rfl:=oi hm;refine q_rt (qW 9 ?_);exact q_rm
      ·refine q_sk (q_vu [] 1 [3,5,39] [(3,vi (w64 (x4+((a1.getD x5.toNat dd).Len))))] [0] [] ?_);exact q_vv [] 1 [15] [(15,vi (w64 (x5+1)))] (q_hl (RZ a1 (w64 (x4+((a1.getD x5.toNat dd).Len))) (w64 (x5+1))) (ih (w64 (x4+((a1.getD x5.toNat dd).Len))) (w64 (x5+1)) _ hm))
     ·rcases bif_c hm with⟨b12,hm⟩|⟨b12,hm⟩
      ·exact q_vv [qf 3 b12] 1 [29] [(39,vb true)] (q_J (true) hm)
      ·exact q_vv [qf 3 b12] 1 [29] [(39,vb (decide (((a1.getD x5.toNat dd).Len)>(w64 (20000-x4)))))] (q_J (decide (((a1.getD x5.toNat dd).Len)>(w64 (20000-x4)))) hm)
  ·refine q_ex 0 ?_;obtain rfl:=oi hm;exact q_l1 ()
theorem qEE (a1:List qT) (r:Int) (hm:EW a1=some r):CtX Tryz.prog globs 26 0 0 [.one (tl qV dd a1)] [] (BS r) (NO r):=by
 unfold EW at hm;refine q_E f26 45 λE=>?_;refine s_vn [] 0 ⟨[(0,vc (tl qV dd a1))],[]⟩ (q_sq ?_);refine s_va 0 [(9,vb ((a1.length:Int)==0))] (q_cq hm (λhm=>?_) (λhm=>?_))
 ·refine s_vn [] 0 ⟨[(2,vi 3)],[]⟩ ?_;obtain rfl:=oi hm;exact q_rt q_rm
 ·refine q_sk (q_sq ?_);refine s_vv [] 0 [9] [(12,vb (decide ((a1.length:Int)>24)))] (q_cq hm (λhm=>?_) (λhm=>?_))
  ·refine s_vn [] 0 ⟨[(2,vi 4)],[]⟩ ?_;obtain rfl:=oi hm;exact q_rt q_rm
  ·refine q_sk (s_vv [] 0 [12] [(3,vi 0)] ?_);refine q_sq (s_vv [] 0 [0] [(13,vc (tl qV dd a1)),(14,vi (a1.length:Int)),(15,vi 0)] ?_);obtain⟨u17,h16,hm⟩:=qG hm;refine zC (nd f26 500) 0 (by kernel_rfl) FUEL (λo=>HE) (λv st=>RetQ Tryz.prog f26 (BS v) (NO v) .ret st) u17 (q_hl (RZ a1 0 0) (qBq E a1 FUEL 0 0 u17 h16)) ?_ ?_
   ·rintro v18 rfl st hr;obtain rfl:=oi hm;exact hr
   ·rintro o15 rfl;replace hm:_=some r:=hm;refine s_vn [] 0 ⟨[(2,vi 0)],[]⟩ ?_;obtain rfl:=oi hm;exact q_rt q_rm
open Go.Proofs Go.Proofs.Tryz
def qFx (r:(List qT)):V:=vc (tl qV dd r)
def qFU (r:(List qT)):List (Nat×(Nat×O)):=[]
theorem qEw (a1:List qT) (r:(List qT)) (hm:ES a1=some r):CtX Tryz.prog globs 63 0 0 [.one (tl qV dd a1)] [] (qFx r) (qFU r):=by
 unfold ES at hm;refine q_E f63 7 λE=>?_;refine s_vn [] 0 ⟨[(0,vc (tl qV dd a1))],[]⟩ (q_sq ?_);obtain⟨v2,h3,hm⟩:=qG hm;refine s_vv [qc 1 [3] 0 (qEE a1 v2 h3)] 0 [] [(5,vb (v2 !=0))] (q_cq hm (λhm=>?_) (λhm=>?_))
 ·refine s_vn [] 0 ⟨[(2,vc (.emp))],[]⟩ (q_fn [.own 2 0 50 3 (rf qV [])] ⟨[(2,vo 0 0 3 0)],[(0,ro 0 50 3 0 (rf qV []))]⟩ o0 ?_);refine q_fn [.len 0 (([]:List qT).length),.frz 0] ⟨[(2,vc (tl qV dd ([]:List qT)))],[]⟩ (o1 (And.intro (And.intro (show 0=([]:List qT).length from rfl) (show 0=([]:List qT).length from rfl)) (kg (([]:List qT).length)))) ?_;obtain rfl:=oi hm;exact q_rt q_rm
 ·refine q_sk (s_vn [] 0 ⟨[(2,vc (tl qV dd a1))],[]⟩ ?_);obtain rfl:=oi hm;exact q_rt q_rm
def qEz (r:Int):V:=vi r
def qED (r:Int):List (Nat×(Nat×O)):=[]
def KY (v2:(List qT)) (x4:Int) (x5:Int):St:=
 ⟨[(3,vi x4),(7,vc (tl qV dd v2)),(8,vi (v2.length:Int)),(9,vi x5)],[]⟩
def NW (x10:Int):St:=
 ⟨[(3,vi x10)],[]⟩
theorem qAU (E:Env 0) (v2:(List qT)):∀(n:Nat) (x4:Int) (x5:Int) (res:Int),VQ v2 n x4 x5=some res->HL (kx E 23 0) (nd f43 116) (zL 0 NW res) n (KY v2 x4 x5):=by
 intro n
 induction n with
 |zero=>
  intro x4 x5 res hm;cases hm
 |succ n ih=>
  intro x4 x5 res hm;refine qQ (s_va 0 [(10,vb (decide (x5<(v2.length:Int))))] ?_);refine q_sq (q_cq hm (λhm=>?_) (λhm=>?_))
  ·refine q_sk (q_sq ?_);refine q_bk 1 ?_;obtain⟨g7,hm⟩:=qJ hm;refine s_vu [qi 0 g7] 0 [10] [(5,vp 0 0)] [] [(0,bx 50 (qV (v2.getD x5.toNat dd)))] ?_;obtain⟨v8,h9,hm⟩:=qG hm;refine q_du [qc 5 [17] 1 (qC9 ((v2.getD x5.toNat dd).Sec) v8 h9)] [0,0,2,0,8,24,62,127,255] 1 [3,5] [(3,vi (w64 (x4+(w64 (((v2.getD x5.toNat dd).Len)*v8)))))] [0] [] (q_vv [] 1 [9] [(9,vi (w64 (x5+1)))] ?_);exact q_hl (KY v2 (w64 (x4+(w64 (((v2.getD x5.toNat dd).Len)*v8)))) (w64 (x5+1))) (ih (w64 (x4+(w64 (((v2.getD x5.toNat dd).Len)*v8)))) (w64 (x5+1)) _ hm)
  ·refine q_ex 0 ?_;obtain rfl:=oi hm;exact q_l0
theorem qC0 (a1:List qT) (r:Int) (hm:VE a1=some r):CtX Tryz.prog globs 43 0 0 [.one (tl qV dd a1)] [] (qEz r) (qED r):=by
 unfold VE at hm;refine q_E f43 23 λE=>?_;refine s_vn [] 0 ⟨[(0,vc (tl qV dd a1))],[]⟩ (s_va 0 [(3,vi 0)] ?_);refine q_sq ?_;obtain⟨v2,h3,hm⟩:=qG hm;refine s_vv [qc 1 [6] 0 (qEw a1 v2 h3)] 0 [0] [(7,vc (tl qV dd v2)),(8,vi (v2.length:Int)),(9,vi 0)] ?_;obtain⟨o11,h12,hm⟩:=qG hm;refine zI (nd f43 116) 0 (by kernel_rfl) FUEL NW o11 (q_hl (KY v2 0 0) (qAU E v2 FUEL 0 0 o11 h12)) (s_vn [] 0 ⟨[(2,vi o11)],[]⟩ ?_);obtain rfl:=oi hm;exact q_rt q_rm
def qGs (r:Ring×Int):V:= .tup [.agg [ci r.1.Z,.own 0 0 3 r.1.Read.length],.one (ci r.2)]
def qHC (r:Ring×Int):List (Nat×(Nat×O)):=[(0,ro 0 73 3 r.1.Read.length (rf qF r.1.Read))]
def SG (a1:Ring) (a2:Ring) (v12:Ring) (x14:Int) (l21:List qC) (l21n:Nat):St:=
 ⟨[(3,vp 1 0),(4,vp 2 0),(8,vp 4 0),(41,vc (tl qF dd a1.Read)),(42,vi (a1.Read.length:Int)),(43,vi x14)],[(1,bx 45 (qH a2)),(2,bx 45 [ci 0,.emp]),(3,ro 0 73 3 l21n (rf qF l21)),(4,bx 45 [ci v12.Z,.own 3 0 3 l21n])]⟩
def VX (a1:Ring) (a2:Ring) (v12:Ring) (x14:Int) (l15:List qC) (l15n:Nat):St:=
 ⟨[(3,vp 1 0),(4,vp 2 0),(8,vp 4 0),(41,vc (tl qF dd a1.Read)),(42,vi (a1.Read.length:Int)),(43,vi x14)],[(1,bx 45 (qH a2)),(2,bx 45 [ci 0,.emp]),(3,ro 0 73 3 l15n (rf qF l15)),(4,bx 45 [ci v12.Z,.own 3 0 3 l15n])]⟩
def SZ (v12:Ring) (l22:List qC):St:=
 ⟨[(4,vp 2 0),(8,vp 4 0)],[(2,bx 45 [ci 0,.emp]),(3,ro 0 73 3 l22.length (rf qF l22)),(4,bx 45 [ci v12.Z,.own 3 0 3 l22.length])]⟩
def qC3 (a1:Ring) (a2:Ring) (x10:Bool):St:=
 ⟨[(2,vp 0 0),(3,vp 1 0),(4,vp 2 0),(36,vb x10)],[(0,bx 45 (qH a1)),(1,bx 45 (qH a2)),(2,bx 45 [ci 0,.emp])]⟩
theorem qCd (E:Env 0) (a1:Ring) (a2:Ring) (v12:Ring):∀(n:Nat) (x14:Int) (l15:List qC) (l15n:Nat) (res:(List qC)),l15.length=l15n->zW a1 a2 n x14 l15=some res->HL (kx E 62 0) (nd f67 1012) (zL 0 (λo=>SZ v12 o) res) n (VX a1 a2 v12 x14 l15 l15n):=by
 intro n
 induction n with
 |zero=>
  intro x14 l15 l15n res hl0 hm;cases hm
 |succ n ih=>
  intro x14 l15 l15n res hl0 hm;subst hl0;refine qQ (s_va 5 [(44,vb (decide (x14<(a1.Read.length:Int))))] ?_);refine q_sq (q_cq hm (λhm=>?_) (λhm=>?_))
  ·refine q_sk (q_jn (ι:=(List qC)×Nat) (λp=>SG a1 a2 v12 x14 p.1 p.2) (λp=>p.1.length=p.2/\JL x14 (zW a1 a2 n) p.1=some res) ?_ ?_)
   ·rintro⟨l21,l21n⟩ ⟨el21,hm⟩;replace el21:l21.length=l21n:=el21;subst el21;show H _ (SG a1 a2 v12 x14 l21 l21.length) _ _;exact q_vv [] 6 [43] [(43,vi (w64 (x14+1)))] (q_hl (VX a1 a2 v12 (w64 (x14+1)) l21 l21.length) (ih (w64 (x14+1)) l21 l21.length _ rfl hm))
   ·refine q_bk 1 ?_;obtain⟨g17,hm⟩:=qJ hm;refine s_vu [qi 1 g17] 5 [44] [(9,vi x14),(10,vp 5 0)] [] [(5,bx 73 (qF (a1.Read.getD x14.toNat dd)))] (s_vu [] 6 [10] [(50,vb (!((a1.Read.getD x14.toNat dd).Ok)))] [5] [] ?_);refine q_cq hm (λhm=>?_) (λhm=>?_)
    ·obtain⟨g19,hm⟩:=qJ hm;obtain⟨g20,hm⟩:=qJ hm;exact q_du [qi 6 g19,qi 8 g20,qd 9 (drw 0 0 (rf qF (l15.set x14.toNat (a2.Read.getD x14.toNat dd)))) (stP qF dd (a2.Read.getD x14.toNat dd) l15 l15.length x14.toNat 0 [ci (((a2.Read.getD x14.toNat dd).P).X),ci (((a2.Read.getD x14.toNat dd).P).Y),cb ((a2.Read.getD x14.toNat dd).Ok)] rfl (qY (zF g20)) rfl)] [0,1,0,0,8,0,56,120,255,511] 6 [9,50] [] [3] [(3,ro 0 73 3 l15.length (rf qF (l15.set x14.toNat (a2.Read.getD x14.toNat dd))))] (q_J ((l15.set x14.toNat (a2.Read.getD x14.toNat dd)),l15.length) ⟨(ZA rfl),hm⟩)
    ·exact q_sk (q_J (l15,l15.length) ⟨rfl,hm⟩)
  ·refine q_ex 0 ?_;obtain rfl:=oi hm;exact q_l0
theorem qFJ (a1:Ring) (a2:Ring) (r:Ring×Int) (hm:jW a1 a2=some r):CtX Tryz.prog globs 67 0 0 [.agg (qH a1),.agg (qH a2)] [] (qGs r) (qHC r):=by
 unfold jW at hm;refine q_E f67 62 λE=>?_;refine s_vn [] 0 ⟨[(2,vp 0 0),(3,vp 1 0),(4,vp 2 0)],[(0,bx 45 (qH a1)),(1,bx 45 (qH a2)),(2,bx 45 [ci 0,.emp])]⟩ (q_sq ?_);obtain⟨v3,h4,hm⟩:=qG hm;refine s_vv [qc 1 [11] 3 (JK a1 v3 h4)] 3 [] [(6,vi v3)] (s_va 3 [(14,vb (v3 !=0))] ?_);refine q_cq hm (λhm=>?_) (λhm=>?_)
 ·refine s_vu [] 3 [2,3,6,14] [(5,vi v3)] [0,1] [] (q_fu [.ownB 2 1 3 73 3 (rf qF [])] [] [] [2] [(2,bx 45 [ci 0,.own 3 0 3 0]),(3,ro 0 73 3 0 (rf qF []))] o0 ?_);refine q_fu [.len 3 (([]:List qC).length)] [] [] [2,3] [(2,bx 45 [ci 0,.own 3 0 3 (([]:List qC).length)]),(3,ro 0 73 3 (([]:List qC).length) (rf qF []))] (o1 (And.intro (show 0=([]:List qC).length from rfl) (show 0=([]:List qC).length from rfl))) ?_;obtain rfl:=oi hm;exact q_sw 3 0 (q_rt q_rm)
 ·refine q_sk (q_sq ?_);obtain⟨v6,h7,hm⟩:=qG hm;refine s_vv [qc 1 [17] 3 (JK a2 v6 h7)] 3 [6,14] [(7,vi v6)] (s_va 3 [(20,vb (v6 !=0))] ?_);refine q_cq hm (λhm=>?_) (λhm=>?_)
  ·refine s_vu [] 3 [2,3,7,20] [(5,vi v6)] [0,1] [] (q_fu [.ownB 2 1 3 73 3 (rf qF [])] [] [] [2] [(2,bx 45 [ci 0,.own 3 0 3 0]),(3,ro 0 73 3 0 (rf qF []))] o0 ?_);refine q_fu [.len 3 (([]:List qC).length)] [] [] [2,3] [(2,bx 45 [ci 0,.own 3 0 3 (([]:List qC).length)]),(3,ro 0 73 3 (([]:List qC).length) (rf qF []))] (o1 (And.intro (show 0=([]:List qC).length from rfl) (show 0=([]:List qC).length from rfl))) ?_;obtain rfl:=oi hm;exact q_sw 3 0 (q_rt q_rm)
  ·refine q_sk (q_sq ?_);refine q_jn (qC3 a1 a2) (λp=>QZ a1 a2 p=some r) ?_ ?_
   ·rintro x10 hm;refine q_cq hm (λhm=>?_) (λhm=>?_)
    ·refine s_vu [] 3 [2,3,36] [(5,vi 19)] [0,1] [] (q_fu [.ownB 2 1 3 73 3 (rf qF [])] [] [] [2] [(2,bx 45 [ci 0,.own 3 0 3 0]),(3,ro 0 73 3 0 (rf qF []))] o0 ?_);refine q_fu [.len 3 (([]:List qC).length)] [] [] [2,3] [(2,bx 45 [ci 0,.own 3 0 3 (([]:List qC).length)]),(3,ro 0 73 3 (([]:List qC).length) (rf qF []))] (o1 (And.intro (show 0=([]:List qC).length from rfl) (show 0=([]:List qC).length from rfl))) ?_;obtain rfl:=oi hm;exact q_sw 3 0 (q_rt q_rm)
    ·refine q_sk ?_;obtain⟨v12,h13,hm⟩:=qG hm;refine s_vu [qc 1 [38] 3 (CT a1 v12 h13)] 3 [36] [(8,vp 4 0)] [] [(3,ro 0 73 3 v12.Read.length (rf qF v12.Read)),(4,bx 45 [ci v12.Z,.own 3 0 3 v12.Read.length])] (q_sq ?_);refine s_vu [] 5 [2] [(41,vc (tl qF dd a1.Read)),(42,vi (a1.Read.length:Int)),(43,vi 0)] [0] [] ?_;obtain⟨o23,h24,hm⟩:=qG hm
     refine zI (nd f67 1012) 0 (by kernel_rfl) FUEL (λo=>SZ v12 o) o23 (q_hl (VX a1 a2 v12 0 v12.Read v12.Read.length) (qCd E a1 a2 v12 FUEL 0 v12.Read v12.Read.length o23 rfl h24)) (s_vu [] 5 [8] [(5,vi 0)] [2,4] [(2,bx 45 [ci v12.Z,.own 3 0 3 o23.length])] ?_);obtain rfl:=oi hm;exact q_sw 3 0 (q_rt q_rm)
   ·rcases bif_c hm with⟨b9,hm⟩|⟨b9,hm⟩
    ·exact q_vv [qf 5 b9] 3 [7,20] [(36,vb true)] (q_J (true) hm)
    ·exact q_vv [qf 5 b9] 3 [7,20] [(36,vb ((a1.Read.length:Int) !=(a2.Read.length:Int)))] (q_J ((a1.Read.length:Int) !=(a2.Read.length:Int)) hm)
end Saw
end Go.SL

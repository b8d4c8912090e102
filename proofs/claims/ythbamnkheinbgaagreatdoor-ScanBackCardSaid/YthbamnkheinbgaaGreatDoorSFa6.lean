import Derived.Test.YthbamnkheinbgaaGreatDoorSBase
import Derived.Test.YthbamnkheinbgaaGreatDoorSFa5
import Derived.Test.YthbamnkheinbgaaGreatDoorSFa4
import Derived.Test.YthbamnkheinbgaaGreatDoorSFa3
set_option linter.unusedVariables false
set_option linter.unusedSimpArgs false
namespace Go.SL
namespace Saw
open Go.Proofs Go.Proofs.Tryz
set_option maxHeartbeats 4000000
set_option maxRecDepth 100000
def FM (r:Scan×Bool):V:= .tup [.agg [.own 0 0 2 r.1.Rings.length,.own 1 0 7 r.1.Defects.length],.one (cb r.2)]
def FD (r:Scan×Bool):List (Nat×(Nat×O)):=[(0,ro 0 45 2 r.1.Rings.length (rf qO r.1.Rings)),(1,ro 0 68 7 r.1.Defects.length (rf qM r.1.Defects))]
def KU :St:=
 ⟨[(2,vp 0 0),(4,vp 2 0),(5,vc (.fn 108 [.bptr 2 0 0])),(6,vp 3 0)],[(0,bx 25 [.emp,.emp]),(2,bx 129 [.bptr 1 0 0])]⟩
def UG (v2:qD) (v4:(List Int)×Int×Int) (x6:Int) (l7:List Ring) (l7n:Nat) (x8:Int) (x9:Int):St:=
 (KU).up [] [(17,vo 4 0 1 v4.1.length),(18,vi (v4.1.length:Int)),(19,vi x6)] [] [(1,bx 172 [cs v2.s,ci x8,ci x9]),(3,bx 25 [.own 5 0 2 l7n,.emp]),(4,ro 0 3 1 v4.1.length (rf qL v4.1)),(5,ro 0 45 2 l7n (rf qO l7))]
def LX (l18:List Ring) (x19:qD):St:=
 (KU).up [] [] [] [(1,bx 172 (qK x19)),(3,bx 25 [.own 5 0 2 l18.length,.emp]),(5,ro 0 45 2 l18.length (rf qO l18))]
def qCM (o20:(List Ring)×qD) (v26:(List qI)×Bool) (x31:Bool):St:=
 (KU).up [4,5] [(11,vo 7 0 7 v26.1.length),(53,vb x31)] [2] [(3,bx 25 [.own 5 0 2 o20.1.length,.emp]),(5,ro 0 45 2 o20.1.length (rf qO o20.1)),(7,ro 0 68 7 v26.1.length (rf qM v26.1))]
theorem qBm (E:Env 0) (v2:qD) (v4:(List Int)×Int×Int):∀(n:Nat) (x6:Int) (l7:List Ring) (l7n:Nat) (x8:Int) (x9:Int) (res:(Scan×Bool)⊕((List Ring)×qD)),l7.length=l7n->ZN v2 v4 n x6 l7 x8 x9=some res->HL (kx E 58 0) (nd f54 500) (yS 0 (λo=>LX o.1 o.2) (λv st=>RetQ Tryz.prog f54 (FM v) (FD v) .ret st) res) n (UG v2 v4 x6 l7 l7n x8 x9):=by
 intro n
 induction n with
 |zero=>
  intro x6 l7 l7n x8 x9 res hl0 hm;cases hm
 |succ n ih=>
  intro x6 l7 l7n x8 x9 res hl0 hm;subst hl0;refine qT (s_va 6 [(20,vb (decide (x6<(v4.1.length:Int))))] ?_);refine q_sq (q_cq hm (λhm=>?_) (λhm=>?_))
  ·refine q_sk (q_sq ?_);refine q_bk 1 ?_;obtain⟨g11,hm⟩:=qJ hm;refine s_vv [qi 0 g11,qd 1 dN (toNat_lt (zJ g11))] 6 [20] [(8,vi (v4.1.getD x6.toNat dd))] ?_;obtain⟨v12,h13,hm⟩:=qE hm;obtain⟨v14,h15,hm⟩:=qE hm
   refine s_vu [qd 1 (dex (cen [(2,0),(1,0)] [0,0] 4 2 (KE 96 (qD.mk v2.s x8 x9) v12) (KL 96 (qD.mk v2.s x8 x9) v12) [24] [2,1])) (zG (K:=(kx E 58 0)) ⟨[(24,vc (.fn 108 [.bptr 2 0 0]))],[(2,bx 129 [.bptr 1 0 0]),(1,bx 172 [cs v2.s,ci x8,ci x9])]⟩ (opAt (rg f54 32050) 1) [(2,0),(1,0)] [0,0] 4 o0 rfl (TN 96 (qD.mk v2.s x8 x9) v12 h13) (.inl rfl) (by kernel_rfl)),qd 2 (dex (cen [] [] 7 0 (WJ v14) (jR v14) [25] [6])) (zG (K:=(kx E 58 0)) (b:=false) ⟨[(25,vo 6 0 1 v12.1.length)],[(6,ro 0 3 1 v12.1.length (rf qL v12.1))]⟩ (opAt (rg f54 32050) 2) [] [] 7 (o1 (kr v12.1.length)) rfl (CU v12.1 v14 h15) (.inr ⟨(by kernel_rfl),qAG v14⟩) (by kernel_rfl))] 6 [] [(9,vo 7 0 3 v14.1.length),(10,vb v14.2)] [1] [(1,bx 172 [cs ((qD.mk v2.s x8 x9).s),ci v12.2.1,ci v12.2.2]),(7,ro 0 73 3 v14.1.length (rf qF v14.1))] ?_
   refine q_sq (s_vv [] 8 [10] [(30,vb (!v14.2))] ?_);refine q_cq hm (λhm=>?_) (λhm=>?_)
   ·refine s_vn [] 8 ⟨[(2,vp 0 0),(3,vb false)],[(0,bx 25 [.emp,.emp])]⟩ (q_fu [.ownB 0 0 8 45 2 (rf qO [])] [] [] [0] [(0,bx 25 [.own 8 0 2 0,.emp]),(8,ro 0 45 2 0 (rf qO []))] o0 ?_);refine q_fu [.ownB 0 1 9 68 7 (rf qM [])] [] [] [0] [(0,bx 25 [.own 8 0 2 0,.own 9 0 7 0]),(9,ro 0 68 7 0 (rf qM []))] o0 (q_fu [.len 8 (([]:List Ring).length)] [] [] [0,8] [(0,bx 25 [.own 8 0 2 (([]:List Ring).length),.own 9 0 7 0]),(8,ro 0 45 2 (([]:List Ring).length) (rf qO []))] (o1 (And.intro (show 0=([]:List Ring).length from rfl) (show 0=([]:List Ring).length from rfl))) ?_)
    refine q_fu [.len 9 (([]:List qI).length)] [] [] [0,9] [(0,bx 25 [.own 8 0 2 (([]:List Ring).length),.own 9 0 7 (([]:List qI).length)]),(9,ro 0 68 7 (([]:List qI).length) (rf qM []))] (o1 (And.intro (show 0=([]:List qI).length from rfl) (show 0=([]:List qI).length from rfl))) ?_;obtain rfl:=oi hm;refine q_sw 8 0 (q_sw 9 1 ?_);refine q_rt (zU ((Scan.mk ([]:List Ring) ([]:List qI)),false) ?_);exact q_rm
   ·refine q_sk ?_;obtain⟨g17,hm⟩:=qJ hm
    refine q_vu [qd 5 (dpr [.frz 7] (drw 8 0 (rf qO [(Ring.mk (v4.1.getD x6.toNat dd) v14.1)]))) (And.intro (kr v14.1.length) (And.intro (kr v14.1.length) (kr v14.1.length))),qd 5 dN (litP qO dd 2 (λ_=>rfl) ([(Ring.mk (v4.1.getD x6.toNat dd) v14.1)]:List Ring) 1 rfl),qd 6 (drw 5 1 (rf qO (l7++[(Ring.mk (v4.1.getD x6.toNat dd) v14.1)]))) (apP qO dd l7 ([(Ring.mk (v4.1.getD x6.toNat dd) v14.1)]:List Ring) l7.length 1 2 32 (1<=1) (kr _) rfl rfl (λ_=>rfl) (zW g17))] 8 [8,9,30] [] [3,5,7] [(3,bx 25 [.own 5 1 2 (l7.length+1),.emp]),(5,ro 1 45 2 (l7.length+1) (rf qO (l7++[(Ring.mk (v4.1.getD x6.toNat dd) v14.1)])))] (q_vv [] 9 [19] [(19,vi (w64 (x6+1)))] ?_)
    exact q_hl (UG v2 v4 (w64 (x6+1)) (l7++[(Ring.mk (v4.1.getD x6.toNat dd) v14.1)]) (l7.length+1) v12.2.1 v12.2.2) (ih (w64 (x6+1)) (l7++[(Ring.mk (v4.1.getD x6.toNat dd) v14.1)]) (l7.length+1) v12.2.1 v12.2.2 _ (wK rfl rfl) hm)
  ·refine q_ex 0 ?_;obtain rfl:=oi hm;exact L1_mk (l7,(qD.mk v2.s x8 x9)) (by kernel_rfl) (by kernel_rfl)
theorem qEv (a1:ByteArray) (r:Scan×Bool) (hm:UK a1=some r):CtX Tryz.prog globs 54 0 0 [.one (cs a1)] [] (FM r) (FD r):=by
 unfold UK at hm;refine q_E f54 58 λE=>?_;refine s_vn [] 0 ⟨[(0,vc (cs a1)),(2,vp 0 0)],[(0,bx 25 [.emp,.emp])]⟩ ?_;obtain⟨v2,h3,hm⟩:=qE hm;refine s_vu [qc 1 [13] 1 (qAK a1 v2 h3)] 1 [0] [(4,vp 2 0)] [] [(1,bx 172 (qK v2)),(2,bx 129 [.bptr 1 0 0])] (s_va 3 [(5,vc (.fn 108 [.bptr 2 0 0]))] ?_);refine s_vu [] 3 [] [(6,vp 3 0)] [] [(3,bx 25 [.emp,.emp])] (q_sq ?_);obtain⟨v4,h5,hm⟩:=qE hm
 refine s_vu [qd 1 (dex (cen [(2,0),(1,0)] [0,0] 2 2 (KE 24 v2 v4) (KL 24 v2 v4) [16] [2,1])) (zG (K:=(kx E 58 0)) ⟨[(16,vc (.fn 108 [.bptr 2 0 0]))],[(2,bx 129 [.bptr 1 0 0]),(1,bx 172 (qK v2))]⟩ (opAt (rg f54 124) 1) [(2,0),(1,0)] [0,0] 2 o0 rfl (TN 24 v2 v4 h5) (.inl rfl) (by kernel_rfl))] 4 [] [(17,vo 4 0 1 v4.1.length),(18,vi (v4.1.length:Int)),(19,vi 0)] [1] [(1,bx 172 [cs v2.s,ci v4.2.1,ci v4.2.2]),(4,ro 0 3 1 v4.1.length (rf qL v4.1))] (q_fu [.ownB 3 0 5 45 2 (rf qO [])] [] [] [3] [(3,bx 25 [.own 5 0 2 0,.emp]),(5,ro 0 45 2 0 (rf qO []))] o0 ?_);obtain⟨u22,h21,hm⟩:=qE hm
 refine wL (nd f54 500) 0 (by kernel_rfl) FUEL (λo=>LX o.1 o.2) (λv st=>RetQ Tryz.prog f54 (FM v) (FD v) .ret st) u22 (q_hl (UG v2 v4 0 ([]:List Ring) 0 v4.2.1 v4.2.2) (qBm E v2 v4 FUEL 0 ([]:List Ring) 0 v4.2.1 v4.2.2 u22 rfl h21)) ?_ ?_
 ·rintro v23 rfl st hr;obtain rfl:=oi hm;exact hr
 ·rintro o20 rfl;replace hm:_=some r:=hm;obtain⟨v24,h25,hm⟩:=qE hm;obtain⟨v26,h27,hm⟩:=qE hm
  refine s_vu [qd 1 (dex (cen [(2,0),(1,0)] [0,0] 4 2 (KE 448 o20.2 v24) (KL 448 o20.2 v24) [42] [2,1])) (zG (K:=(kx E 58 0)) ⟨[(42,vc (.fn 108 [.bptr 2 0 0]))],[(2,bx 129 [.bptr 1 0 0]),(1,bx 172 (qK o20.2))]⟩ (opAt (rg f54 126) 1) [(2,0),(1,0)] [0,0] 4 o0 rfl (TN 448 o20.2 v24 h25) (.inl rfl) (by kernel_rfl)),qd 2 (dex (cen [] [] 7 0 (FO v26) (JU v26) [43] [6])) (zG (K:=(kx E 58 0)) (b:=false) ⟨[(43,vo 6 0 1 v24.1.length)],[(6,ro 0 3 1 v24.1.length (rf qL v24.1))]⟩ (opAt (rg f54 126) 2) [] [] 7 (o1 (kr v24.1.length)) rfl (qAN v24.1 v26 h27) (.inr ⟨(by kernel_rfl),qBC v26⟩) (by kernel_rfl))] 6 [5] [(11,vo 7 0 7 v26.1.length),(12,vb v26.2)] [1] [(1,bx 172 [cs o20.2.s,ci v24.2.1,ci v24.2.2]),(7,ro 0 68 7 v26.1.length (rf qM v26.1))] ?_
  refine q_sq (q_jn (qCM o20 v26) (λp=>DZ o20 v26 p=some r) ?_ ?_)
  ·rintro x31 hm;refine q_cq hm (λhm=>?_) (λhm=>?_)
   ·refine s_vu [] 8 [6,11,53] [(3,vb false)] [3,5,7] [] (q_fu [.ownB 0 0 8 45 2 (rf qO [])] [] [] [0] [(0,bx 25 [.own 8 0 2 0,.emp]),(8,ro 0 45 2 0 (rf qO []))] o0 ?_);refine q_fu [.ownB 0 1 9 68 7 (rf qM [])] [] [] [0] [(0,bx 25 [.own 8 0 2 0,.own 9 0 7 0]),(9,ro 0 68 7 0 (rf qM []))] o0 (q_fu [.len 8 (([]:List Ring).length)] [] [] [0,8] [(0,bx 25 [.own 8 0 2 (([]:List Ring).length),.own 9 0 7 0]),(8,ro 0 45 2 (([]:List Ring).length) (rf qO []))] (o1 (And.intro (show 0=([]:List Ring).length from rfl) (show 0=([]:List Ring).length from rfl))) ?_)
    refine q_fu [.len 9 (([]:List qI).length)] [] [] [0,9] [(0,bx 25 [.own 8 0 2 (([]:List Ring).length),.own 9 0 7 (([]:List qI).length)]),(9,ro 0 68 7 (([]:List qI).length) (rf qM []))] (o1 (And.intro (show 0=([]:List qI).length from rfl) (show 0=([]:List qI).length from rfl))) ?_;obtain rfl:=oi hm;refine q_sw 8 0 (q_sw 9 1 ?_);exact q_rt q_rm
   ·refine q_sk (s_vu [] 8 [11,53] [] [3] [(3,bx 25 [.own 5 0 2 o20.1.length,.own 7 0 7 v26.1.length])] ?_);refine s_vu [] 8 [6] [(3,vb true)] [0,3] [(0,bx 25 [.own 5 0 2 o20.1.length,.own 7 0 7 v26.1.length])] ?_;obtain rfl:=oi hm;refine q_sw 5 0 (q_sw 7 1 ?_);exact q_rt q_rm
  ·rcases bif_c hm with⟨b28,hm⟩|⟨b28,hm⟩
   ·exact q_vu [qf 2 b28] 8 [4,12] [(53,vb true)] [1,2] [] (q_J (true) hm)
   ·obtain⟨v29,h30,hm⟩:=qE hm;exact q_vu [qf 2 b28,qd 4 (dex (cen [(1,0)] [0] 7 1 (BX (qD.mk o20.2.s v24.2.1 v24.2.2) v29) (BT (qD.mk o20.2.s v24.2.1 v24.2.2) v29) [49,50] [1])) (zG (K:=(kx E 58 0)) ⟨[(49,vb false),(50,vp 1 0)],[(1,bx 172 [cs o20.2.s,ci v24.2.1,ci v24.2.2])]⟩ (opAt (rg f54 508) 4) [(1,0)] [0] 7 o0 rfl (qAc (qD.mk o20.2.s v24.2.1 v24.2.2) v29 h30) (.inl rfl) (by kernel_rfl))] 8 [4,12] [(53,vb (v29 !=0))] [1,2] [] (q_J (v29 !=0) hm)
def qEo (r:Scan×Int):V:= .tup [.agg [.own 0 0 2 r.1.Rings.length,.own 1 0 7 r.1.Defects.length],.one (ci r.2)]
def qEt (r:Scan×Int):List (Nat×(Nat×O)):=[(0,ro 0 45 2 r.1.Rings.length (rf qO r.1.Rings)),(1,ro 0 68 7 r.1.Defects.length (rf qM r.1.Defects))]
theorem VL (a1:ByteArray) (r:Scan×Int) (hm:jG a1=some r):CtX Tryz.prog globs 21 0 0 [.one (cs a1)] [] (qEo r) (qEt r):=by
 unfold jG at hm;refine q_E f21 22 λE=>?_;refine s_vn [] 0 ⟨[(0,vc (cs a1)),(2,vp 0 0)],[(0,bx 25 [.emp,.emp])]⟩ ?_;obtain⟨v2,h3,hm⟩:=qE hm;refine s_vu [qc 1 [8] 1 (qEv a1 v2 h3)] 1 [0] [(4,vp 3 0),(5,vb v2.2)] [] [(1,ro 0 45 2 v2.1.Rings.length (rf qO v2.1.Rings)),(2,ro 0 68 7 v2.1.Defects.length (rf qM v2.1.Defects)),(3,bx 25 [.own 1 0 2 v2.1.Rings.length,.own 2 0 7 v2.1.Defects.length])] (q_sq ?_);refine s_vv [] 4 [5] [(13,vb (!v2.2))] (q_cq hm (λhm=>?_) (λhm=>?_))
 ·refine s_vu [] 4 [4,13] [(3,vi 5)] [1,2,3] [] (q_fu [.ownB 0 0 4 45 2 (rf qO [])] [] [] [0] [(0,bx 25 [.own 4 0 2 0,.emp]),(4,ro 0 45 2 0 (rf qO []))] o0 ?_);refine q_fu [.ownB 0 1 5 68 7 (rf qM [])] [] [] [0] [(0,bx 25 [.own 4 0 2 0,.own 5 0 7 0]),(5,ro 0 68 7 0 (rf qM []))] o0 (q_fu [.len 4 (([]:List Ring).length)] [] [] [0,4] [(0,bx 25 [.own 4 0 2 (([]:List Ring).length),.own 5 0 7 0]),(4,ro 0 45 2 (([]:List Ring).length) (rf qO []))] (o1 (And.intro (show 0=([]:List Ring).length from rfl) (show 0=([]:List Ring).length from rfl))) ?_)
  refine q_fu [.len 5 (([]:List qI).length)] [] [] [0,5] [(0,bx 25 [.own 4 0 2 (([]:List Ring).length),.own 5 0 7 (([]:List qI).length)]),(5,ro 0 68 7 (([]:List qI).length) (rf qM []))] (o1 (And.intro (show 0=([]:List qI).length from rfl) (show 0=([]:List qI).length from rfl))) ?_;obtain rfl:=oi hm;refine q_sw 4 0 (q_sw 5 1 ?_);exact q_rt q_rm
 ·refine q_sk (q_sq ?_);obtain⟨v5,h6,hm⟩:=qE hm;refine s_vv [qd 1 (dex (cen [] [] 4 0 (WP v5) (yO v5) [15] [1,2])) (zG (K:=(kx E 22 0)) (b:=false) ⟨[(15,va [.own 1 0 2 v2.1.Rings.length,.own 2 0 7 v2.1.Defects.length])],[(1,ro 0 45 2 v2.1.Rings.length (rf qO v2.1.Rings)),(2,ro 0 68 7 v2.1.Defects.length (rf qM v2.1.Defects))]⟩ (opAt (rg f21 60) 1) [] [] 4 (o1 (And.intro (kr v2.1.Rings.length) (kr v2.1.Defects.length))) rfl (YK (Scan.mk v2.1.Rings v2.1.Defects) v5 h6) (.inr ⟨(by kernel_rfl),qFv v5⟩) (by kernel_rfl))] 4 [13] [(6,vi v5)] (s_va 4 [(18,vb (v5 !=0))] ?_)
  refine q_cq hm (λhm=>?_) (λhm=>?_)
  ·refine s_vu [] 4 [4,6,18] [(3,vi v5)] [1,2,3] [] (q_fu [.ownB 0 0 4 45 2 (rf qO [])] [] [] [0] [(0,bx 25 [.own 4 0 2 0,.emp]),(4,ro 0 45 2 0 (rf qO []))] o0 ?_);refine q_fu [.ownB 0 1 5 68 7 (rf qM [])] [] [] [0] [(0,bx 25 [.own 4 0 2 0,.own 5 0 7 0]),(5,ro 0 68 7 0 (rf qM []))] o0 (q_fu [.len 4 (([]:List Ring).length)] [] [] [0,4] [(0,bx 25 [.own 4 0 2 (([]:List Ring).length),.own 5 0 7 0]),(4,ro 0 45 2 (([]:List Ring).length) (rf qO []))] (o1 (And.intro (show 0=([]:List Ring).length from rfl) (show 0=([]:List Ring).length from rfl))) ?_)
   refine q_fu [.len 5 (([]:List qI).length)] [] [] [0,5] [(0,bx 25 [.own 4 0 2 (([]:List Ring).length),.own 5 0 7 (([]:List qI).length)]),(5,ro 0 68 7 (([]:List qI).length) (rf qM []))] (o1 (And.intro (show 0=([]:List qI).length from rfl) (show 0=([]:List qI).length from rfl))) ?_;obtain rfl:=oi hm;refine q_sw 4 0 (q_sw 5 1 ?_);exact q_rt q_rm
  ·refine q_sk (s_vu [] 4 [4,6,18] [(3,vi 0)] [0,3] [(0,bx 25 [.own 1 0 2 v2.1.Rings.length,.own 2 0 7 v2.1.Defects.length])] ?_);obtain rfl:=oi hm;refine q_sw 1 0 (q_sw 2 1 ?_);exact q_rt q_rm
def ZL (r:Bool):V:=vb r
def ZK (r:Bool):List (Nat×(Nat×O)):=[]
def QD (a1:List qC) (a2:List qC) (x4:Int):St:=
 ⟨[(0,vc (tl qF dd a1)),(1,vc (tl qF dd a2)),(12,vi (a1.length:Int)),(13,vi x4)],[]⟩
def JX :St:=
 ⟨[],[]⟩
theorem GW (E:Env 0) (a1:List qC) (a2:List qC):∀(n:Nat) (x4:Int) (res:Bool⊕Unit),zK a1 a2 n x4=some res->HL (kx E 26 0) (nd f59 116) (yS 0 (λo=>JX) (λv st=>RetQ Tryz.prog f59 (ZL v) (ZK v) .ret st) res) n (QD a1 a2 x4):=by
 intro n
 induction n with
 |zero=>
  intro x4 res hm;cases hm
 |succ n ih=>
  intro x4 res hm;refine qT (s_va 0 [(14,vb (decide (x4<(a1.length:Int))))] ?_);refine q_sq (q_cq hm (λhm=>?_) (λhm=>?_))
  ·refine q_sk (q_sq ?_);refine q_bk 1 (s_vv [] 0 [14] [(5,vi x4)] ?_);obtain⟨g6,hm⟩:=qJ hm;obtain⟨g7,hm⟩:=qJ hm;refine s_du [qi 2 g6,qi 6 g7] [0,0,3,7,0,0,48,112,255] 0 [5] [(24,vb (!((((((a1.getD x4.toNat dd).P).X)==(((a2.getD x4.toNat dd).P).X))&&(((((a1.getD x4.toNat dd).P).Y)==(((a2.getD x4.toNat dd).P).Y))&&true))&&((((a1.getD x4.toNat dd).Ok)==((a2.getD x4.toNat dd).Ok))&&true))))] [] [] (q_cq hm (λhm=>?_) (λhm=>?_))
   ·refine s_vn [] 0 ⟨[(4,vb false)],[]⟩ ?_;obtain rfl:=oi hm;refine q_rt (zU false ?_);exact q_rm
   ·refine q_sk (q_vv [] 0 [13,24] [(13,vi (w64 (x4+1)))] ?_);exact q_hl (QD a1 a2 (w64 (x4+1))) (ih (w64 (x4+1)) _ hm)
  ·refine q_ex 0 ?_;obtain rfl:=oi hm;exact q_l1 ()
theorem NU (a1:List qC) (a2:List qC) (r:Bool) (hm:wX a1 a2=some r):CtX Tryz.prog globs 59 0 0 [.one (tl qF dd a1),.one (tl qF dd a2)] [] (ZL r) (ZK r):=by
 unfold wX at hm;refine q_E f59 26 λE=>?_;refine s_vn [] 0 ⟨[(0,vc (tl qF dd a1)),(1,vc (tl qF dd a2))],[]⟩ (q_sq ?_);refine s_va 0 [(10,vb ((a1.length:Int) !=(a2.length:Int)))] (q_cq hm (λhm=>?_) (λhm=>?_))
 ·refine s_vn [] 0 ⟨[(4,vb false)],[]⟩ ?_;obtain rfl:=oi hm;exact q_rt q_rm
 ·refine q_sk (q_sq ?_);refine s_vv [] 0 [10] [(12,vi (a1.length:Int)),(13,vi 0)] ?_;obtain⟨u11,h10,hm⟩:=qE hm;refine wL (nd f59 116) 0 (by kernel_rfl) FUEL (λo=>JX) (λv st=>RetQ Tryz.prog f59 (ZL v) (ZK v) .ret st) u11 (q_hl (QD a1 a2 0) (GW E a1 a2 FUEL 0 u11 h10)) ?_ ?_
  ·rintro v12 rfl st hr;obtain rfl:=oi hm;exact hr
  ·rintro o9 rfl;replace hm:_=some r:=hm;refine s_vn [] 0 ⟨[(4,vb true)],[]⟩ ?_;obtain rfl:=oi hm;exact q_rt q_rm
open Go.Proofs Go.Proofs.Tryz
def qEu (r:Bool):V:=vb r
def qEN (r:Bool):List (Nat×(Nat×O)):=[]
def qBG (x6:Bool):St:=
 ⟨[(4,vb x6)],[]⟩
theorem qDm (a1:Ring) (a2:Ring) (r:Bool) (hm:GL a1 a2=some r):CtX Tryz.prog globs 58 0 0 [.agg (qO a1),.agg (qO a2)] [] (qEu r) (qEN r):=by
 unfold GL at hm;refine q_E f58 17 λE=>?_;refine s_vn [] 0 ⟨[(2,vp 0 0),(3,vp 1 0)],[(0,bx 45 (qO a1)),(1,bx 45 (qO a2))]⟩ (q_jn (qBG) (λp=>KD p=some r) ?_ ?_)
 ·rintro x6 hm;obtain rfl:=oi hm;exact q_rt q_rm
 ·rcases bif_c hm with⟨b3,hm⟩|⟨b3,hm⟩
  ·obtain⟨v4,h5,hm⟩:=qE hm;exact q_vn [qf 5 b3,qk 10 [10,12,14] 2 ⟨[(10,vb true),(12,vc (tl qF dd a1.Read)),(14,vc (tl qF dd a2.Read))],[]⟩ (NU a1.Read a2.Read v4 h5)] 2 ⟨[(4,vb v4)],[]⟩ (q_J (v4) hm)
  ·exact q_vn [qf 5 b3] 2 ⟨[(4,vb false)],[]⟩ (q_J (false) hm)
def QV (r:Bool):V:=vb r
def ZF (r:Bool):List (Nat×(Nat×O)):=[]
def yL (a1:List Ring) (a2:List Ring) (x4:Int):St:=
 ⟨[(1,vc (tl qO dd a2)),(2,vc (.fn 58 [])),(15,vc (tl qO dd a1)),(16,vi (a1.length:Int)),(17,vi x4)],[]⟩
def JC :St:=
 ⟨[],[]⟩
theorem GD (E:Env 0) (a1:List Ring) (a2:List Ring):∀(n:Nat) (x4:Int) (res:Bool⊕Unit),zH a1 a2 n x4=some res->HL (kx E 32 0) (nd f60 116) (yS 0 (λo=>JC) (λv st=>RetQ Tryz.prog f60 (QV v) (ZF v) .ret st) res) n (yL a1 a2 x4):=by
 intro n
 induction n with
 |zero=>
  intro x4 res hm;cases hm
 |succ n ih=>
  intro x4 res hm;refine qT (s_va 0 [(18,vb (decide (x4<(a1.length:Int))))] ?_);refine q_sq (q_cq hm (λhm=>?_) (λhm=>?_))
  ·refine q_sk (q_sq ?_);refine q_bk 1 ?_;obtain⟨g6,hm⟩:=qJ hm;refine s_vu [qi 1 g6] 0 [18] [(7,vi x4),(8,vp 0 0)] [] [(0,bx 45 (qO (a1.getD x4.toNat dd)))] ?_;obtain⟨g7,hm⟩:=qJ hm;refine s_vu [qi 2 g7] 1 [7] [(9,vp 1 0)] [] [(1,bx 45 (qO (a2.getD x4.toNat dd)))] ?_;obtain⟨v8,h9,hm⟩:=qE hm
   refine s_vu [qk 3 [26,27,28] 2 ⟨[(26,vc (.fn 58 [])),(27,va [ci ((a1.getD x4.toNat dd).Z),tl qF dd ((a1.getD x4.toNat dd).Read)]),(28,va [ci ((a2.getD x4.toNat dd).Z),tl qF dd ((a2.getD x4.toNat dd).Read)])],[]⟩ (qDm (a1.getD x4.toNat dd) (a2.getD x4.toNat dd) v8 h9)] 2 [8,9] [(30,vb (!v8))] [0,1] [] (q_cq hm (λhm=>?_) (λhm=>?_))
   ·refine s_vn [] 2 ⟨[(6,vb false)],[]⟩ ?_;obtain rfl:=oi hm;refine q_rt (zU false ?_);exact q_rm
   ·refine q_sk (q_vv [] 2 [17,30] [(17,vi (w64 (x4+1)))] ?_);exact q_hl (yL a1 a2 (w64 (x4+1))) (ih (w64 (x4+1)) _ hm)
  ·refine q_ex 0 ?_;obtain rfl:=oi hm;exact q_l1 ()
theorem XD (a1:List Ring) (a2:List Ring) (r:Bool) (hm:yH a1 a2=some r):CtX Tryz.prog globs 60 0 0 [.one (tl qO dd a1),.one (tl qO dd a2),.one (.fn 58 [])] [] (QV r) (ZF r):=by
 unfold yH at hm;refine q_E f60 32 λE=>?_;refine s_vn [] 0 ⟨[(0,vc (tl qO dd a1)),(1,vc (tl qO dd a2)),(2,vc (.fn 58 []))],[]⟩ (q_sq ?_);refine s_va 0 [(14,vb ((a1.length:Int) !=(a2.length:Int)))] (q_cq hm (λhm=>?_) (λhm=>?_))
 ·refine s_vn [] 0 ⟨[(6,vb false)],[]⟩ ?_;obtain rfl:=oi hm;exact q_rt q_rm
 ·refine q_sk (q_sq ?_);refine s_vv [] 0 [0,14] [(15,vc (tl qO dd a1)),(16,vi (a1.length:Int)),(17,vi 0)] ?_;obtain⟨u13,h12,hm⟩:=qE hm;refine wL (nd f60 116) 0 (by kernel_rfl) FUEL (λo=>JC) (λv st=>RetQ Tryz.prog f60 (QV v) (ZF v) .ret st) u13 (q_hl (yL a1 a2 0) (GD E a1 a2 FUEL 0 u13 h12)) ?_ ?_
  ·rintro v14 rfl st hr;obtain rfl:=oi hm;exact hr
  ·rintro o11 rfl;replace hm:_=some r:=hm;refine s_vn [] 0 ⟨[(6,vb true)],[]⟩ ?_;obtain rfl:=oi hm;exact q_rt q_rm
def WE (r:Bool):V:=vb r
def WG (r:Bool):List (Nat×(Nat×O)):=[]
def QM (a1:List qI) (a2:List qI) (x4:Int):St:=
 ⟨[(0,vc (tl qM dd a1)),(1,vc (tl qM dd a2)),(12,vi (a1.length:Int)),(13,vi x4)],[]⟩
def XF :St:=
 ⟨[],[]⟩
theorem BF (E:Env 0) (a1:List qI) (a2:List qI):∀(n:Nat) (x4:Int) (res:Bool⊕Unit),zN a1 a2 n x4=some res->HL (kx E 26 0) (nd f61 116) (yS 0 (λo=>XF) (λv st=>RetQ Tryz.prog f61 (WE v) (WG v) .ret st) res) n (QM a1 a2 x4):=by
 intro n
 induction n with
 |zero=>
  intro x4 res hm;cases hm
 |succ n ih=>
  intro x4 res hm;refine qT (s_va 0 [(14,vb (decide (x4<(a1.length:Int))))] ?_);refine q_sq (q_cq hm (λhm=>?_) (λhm=>?_))
  ·refine q_sk (q_sq ?_);refine q_bk 1 (s_vv [] 0 [14] [(5,vi x4)] ?_);obtain⟨g6,hm⟩:=qJ hm;obtain⟨g7,hm⟩:=qJ hm
   refine s_du [qi 2 g6,qi 6 g7] [0,0,3,7,0,0,48,112,255] 0 [5] [(24,vb (!((((a1.getD x4.toNat dd).Kind)==((a2.getD x4.toNat dd).Kind))&&((((((((a1.getD x4.toNat dd).Box).X).A)==((((a2.getD x4.toNat dd).Box).X).A))&&((((((a1.getD x4.toNat dd).Box).X).B)==((((a2.getD x4.toNat dd).Box).X).B))&&true))&&(((((((a1.getD x4.toNat dd).Box).Y).A)==((((a2.getD x4.toNat dd).Box).Y).A))&&((((((a1.getD x4.toNat dd).Box).Y).B)==((((a2.getD x4.toNat dd).Box).Y).B))&&true))&&(((((((a1.getD x4.toNat dd).Box).Z).A)==((((a2.getD x4.toNat dd).Box).Z).A))&&((((((a1.getD x4.toNat dd).Box).Z).B)==((((a2.getD x4.toNat dd).Box).Z).B))&&true))&&true)))&&true))))] [] [] (q_cq hm (λhm=>?_) (λhm=>?_))
   ·refine s_vn [] 0 ⟨[(4,vb false)],[]⟩ ?_;obtain rfl:=oi hm;refine q_rt (zU false ?_);exact q_rm
   ·refine q_sk (q_vv [] 0 [13,24] [(13,vi (w64 (x4+1)))] ?_);exact q_hl (QM a1 a2 (w64 (x4+1))) (ih (w64 (x4+1)) _ hm)
  ·refine q_ex 0 ?_;obtain rfl:=oi hm;exact q_l1 ()
theorem LL (a1:List qI) (a2:List qI) (r:Bool) (hm:jJ a1 a2=some r):CtX Tryz.prog globs 61 0 0 [.one (tl qM dd a1),.one (tl qM dd a2)] [] (WE r) (WG r):=by
 unfold jJ at hm;refine q_E f61 26 λE=>?_;refine s_vn [] 0 ⟨[(0,vc (tl qM dd a1)),(1,vc (tl qM dd a2))],[]⟩ (q_sq ?_);refine s_va 0 [(10,vb ((a1.length:Int) !=(a2.length:Int)))] (q_cq hm (λhm=>?_) (λhm=>?_))
 ·refine s_vn [] 0 ⟨[(4,vb false)],[]⟩ ?_;obtain rfl:=oi hm;exact q_rt q_rm
 ·refine q_sk (q_sq ?_);refine s_vv [] 0 [10] [(12,vi (a1.length:Int)),(13,vi 0)] ?_;obtain⟨u11,h10,hm⟩:=qE hm;refine wL (nd f61 116) 0 (by kernel_rfl) FUEL (λo=>XF) (λv st=>RetQ Tryz.prog f61 (WE v) (WG v) .ret st) u11 (q_hl (QM a1 a2 0) (BF E a1 a2 FUEL 0 u11 h10)) ?_ ?_
  ·rintro v12 rfl st hr;obtain rfl:=oi hm;exact hr
  ·rintro o9 rfl;replace hm:_=some r:=hm;refine s_vn [] 0 ⟨[(4,vb true)],[]⟩ ?_;obtain rfl:=oi hm;exact q_rt q_rm
open Go.Proofs Go.Proofs.Tryz
def qA8 (r:Bool):V:=vb r
def GR (r:Bool):List (Nat×(Nat×O)):=[]
theorem qGH (r:Bool):QI (GR r):=by
 intro i k o h;unfold GR at h;cases h
def qDv (x8:Bool):St:=
 ⟨[(4,vb x8)],[]⟩
theorem qAd (a1:Scan) (a2:Scan) (r:Bool) (hm:JF a1 a2=some r):CtX Tryz.prog globs 24 0 0 [.agg (zA a1),.agg (zA a2)] [] (qA8 r) (GR r):=by
 unfold JF at hm;refine q_E f24 19 λE=>?_;refine s_vn [] 0 ⟨[(2,vp 0 0),(3,vp 1 0)],[(0,bx 25 (zA a1)),(1,bx 25 (zA a2))]⟩ (s_va 2 [(5,vc (.fn 58 []))] ?_);refine q_jn (qDv) (λp=>TG p=some r) ?_ ?_
 ·rintro x8 hm;obtain rfl:=oi hm;exact q_rt q_rm
 ·obtain⟨v3,h4,hm⟩:=qE hm;rcases bif_c hm with⟨b5,hm⟩|⟨b5,hm⟩
  ·obtain⟨v6,h7,hm⟩:=qE hm;exact q_vn [qc 5 [7,9,10] 2 (XD a1.Rings a2.Rings v3 h4),qf 6 b5,qk 11 [12,14,16] 2 ⟨[(12,vb true),(14,vc (tl qM dd a1.Defects)),(16,vc (tl qM dd a2.Defects))],[]⟩ (LL a1.Defects a2.Defects v6 h7)] 2 ⟨[(4,vb v6)],[]⟩ (q_J (v6) hm)
  ·exact q_vn [qc 5 [7,9,10] 2 (XD a1.Rings a2.Rings v3 h4),qf 6 b5] 2 ⟨[(4,vb false)],[]⟩ (q_J (false) hm)
def qGY (r:Int):V:=vc (.val (.int .u64 r))
def qGZ (r:Int):List (Nat×(Nat×O)):=[]
theorem qFP (a1:Span) (r:Int) (hm:OG a1=some r):CtX Tryz.prog globs 176 0 0 [.agg (qH a1)] [] (qGY r) (qGZ r):=by
 unfold OG at hm;refine q_E f176 15 λE=>?_;refine s_vn [] 0 ⟨[(1,vp 0 0)],[(0,bx 64 (qH a1))]⟩ (q_sq ?_);refine s_va 1 [(7,vb (decide (a1.A≥a1.B)))] (q_cq hm (λhm=>?_) (λhm=>?_))
 ·refine s_vn [] 1 ⟨[(2,vc (.val (.int .u64 0)))],[]⟩ ?_;obtain rfl:=oi hm;exact q_rt q_rm
 ·refine q_sk (s_vn [] 1 ⟨[(2,vc (.val (.int .u64 (IntKind.u64.wrap ((IntKind.u64.wrap (a1.B))-(IntKind.u64.wrap (a1.A)))))))],[]⟩ ?_);obtain rfl:=oi hm;exact q_rt q_rm
def qC3 (r:Int):V:=vi r
def qC8 (r:Int):List (Nat×(Nat×O)):=[]
theorem qCu (a1:Int) (r:Int) (hm:NR a1=some r):CtX Tryz.prog globs 175 0 0 [.one (.val (.int .u64 a1))] [] (qC3 r) (qC8 r):=by
 unfold NR at hm;refine q_E f175 6 λE=>?_;refine s_vn [] 0 ⟨[(0,vc (.val (.int .u64 a1)))],[]⟩ (s_vn [] 0 ⟨[(2,vi (w64 (imin a1 9223372036854775807)))],[]⟩ ?_);obtain rfl:=oi hm;exact q_rt q_rm
open Go.Proofs Go.Proofs.Tryz
def qHS (r:Int):V:=vi r
def qHF (r:Int):List (Nat×(Nat×O)):=[]
theorem qGS (a1:Span) (r:Int) (hm:qBR a1=some r):CtX Tryz.prog globs 144 0 0 [.agg (qH a1)] [] (qHS r) (qHF r):=by
 unfold qBR at hm;refine q_E f144 6 λE=>?_;refine s_vn [] 0 ⟨[(1,vp 0 0)],[(0,bx 64 (qH a1))]⟩ ?_;obtain⟨v2,h3,hm⟩:=qE hm;obtain⟨v4,h5,hm⟩:=qE hm;refine s_vn [qc 1 [3] 1 (qFP a1 v2 h3),qc 2 [4] 1 (qCu v2 v4 h5)] 1 ⟨[(2,vi v4)],[]⟩ ?_;obtain rfl:=oi hm;exact q_rt q_rm
def qC5 (r:Int):V:=vi r
def qDl (r:Int):List (Nat×(Nat×O)):=[]
def KX (v2:qG) (x4:Int) (x5:Int):St:=
 ⟨[(3,vi x4),(8,vc (tl qH dd v2.Rows)),(9,vi (v2.Rows.length:Int)),(10,vi x5)],[]⟩
def BY (x10:Int):St:=
 ⟨[(3,vi x10)],[]⟩
theorem OM (E:Env 0) (v2:qG):∀(n:Nat) (x4:Int) (x5:Int) (res:Int),UP v2 n x4 x5=some res->HL (kx E 21 0) (nd f89 116) (zT 0 BY res) n (KX v2 x4 x5):=by
 intro n
 induction n with
 |zero=>
  intro x4 x5 res hm;cases hm
 |succ n ih=>
  intro x4 x5 res hm;refine qT (s_va 1 [(11,vb (decide (x5<(v2.Rows.length:Int))))] ?_);refine q_sq (q_cq hm (λhm=>?_) (λhm=>?_))
  ·refine q_sk (q_sq ?_);refine q_bk 1 ?_;obtain⟨g7,hm⟩:=qJ hm;refine s_vu [qi 0 g7] 1 [11] [(5,vp 1 0)] [] [(1,bx 64 (qH (v2.Rows.getD x5.toNat dd)))] ?_;obtain⟨v8,h9,hm⟩:=qE hm;refine q_vu [qc 2 [15] 2 (qGS (v2.Rows.getD x5.toNat dd) v8 h9)] 2 [3,5] [(3,vi (w64 (x4+v8)))] [1] [] (q_vv [] 2 [10] [(10,vi (w64 (x5+1)))] ?_);exact q_hl (KX v2 (w64 (x4+v8)) (w64 (x5+1))) (ih (w64 (x4+v8)) (w64 (x5+1)) _ hm)
  ·refine q_ex 0 ?_;obtain rfl:=oi hm;exact q_l0
theorem qCn (a1:qG) (r:Int) (hm:NQ a1=some r):CtX Tryz.prog globs 89 0 0 [.agg (qQ a1)] [] (qC5 r) (qDl r):=by
 unfold NQ at hm;refine q_E f89 21 λE=>?_;refine s_vn [] 0 ⟨[(1,vp 0 0)],[(0,bx 48 (qQ a1))]⟩ (s_va 1 [(3,vi 0)] ?_);refine q_sq ?_;obtain⟨v2,h3,hm⟩:=qE hm;refine s_vu [qc 1 [6] 1 (PX a1 v2 h3)] 1 [1] [(8,vc (tl qH dd v2.Rows)),(9,vi (v2.Rows.length:Int)),(10,vi 0)] [0] [] ?_;obtain⟨o11,h12,hm⟩:=qE hm;refine zQ (nd f89 116) 0 (by kernel_rfl) FUEL BY o11 (q_hl (KX v2 0 0) (OM E v2 FUEL 0 0 o11 h12)) (s_vn [] 1 ⟨[(2,vi (w64 (10*o11)))],[]⟩ ?_);obtain rfl:=oi hm;exact q_rt q_rm
def BM (r:Int):V:=vi r
def BI (r:Int):List (Nat×(Nat×O)):=[]
def qBL (a1:List qU) (x4:Int) (x5:Int) (x13:Bool):St:=
 ⟨[(3,vi x4),(5,vp 0 0),(13,vc (tl qW dd a1)),(14,vi (a1.length:Int)),(15,vi x5),(39,vb x13)],[(0,bx 50 (qW (a1.getD x5.toNat dd)))]⟩
def PW (a1:List qU) (x4:Int) (x5:Int):St:=
 ⟨[(3,vi x4),(13,vc (tl qW dd a1)),(14,vi (a1.length:Int)),(15,vi x5)],[]⟩
def LC :St:=
 ⟨[],[]⟩
theorem qAJ (E:Env 0) (a1:List qU):∀(n:Nat) (x4:Int) (x5:Int) (res:Int⊕Unit),WL a1 n x4 x5=some res->HL (kx E 45 0) (nd f26 500) (yS 0 (λo=>LC) (λv st=>RetQ Tryz.prog f26 (BM v) (BI v) .ret st) res) n (PW a1 x4 x5):=by
 intro n
 induction n with
 |zero=>
  intro x4 x5 res hm;cases hm
 |succ n ih=>
  intro x4 x5 res hm;refine qT (s_va 0 [(16,vb (decide (x5<(a1.length:Int))))] ?_);refine q_sq (q_cq hm (λhm=>?_) (λhm=>?_))
  ·refine q_sk (q_sq ?_);refine q_bk 1 ?_;obtain⟨g7,hm⟩:=qJ hm;refine s_vu [qi 0 g7] 0 [16] [(5,vp 0 0)] [] [(0,bx 50 (qW (a1.getD x5.toNat dd)))] (q_sq ?_);obtain⟨v8,h9,hm⟩:=qE hm;refine s_vv [qc 2 [20] 1 (FK ((a1.getD x5.toNat dd).Sec) v8 h9)] 1 [] [(6,vi v8)] (s_va 1 [(23,vb (v8 !=0))] ?_);refine q_cq hm (λhm=>?_) (λhm=>?_)
   ·refine s_vn [] 1 ⟨[(2,vi v8)],[]⟩ ?_;obtain rfl:=oi hm;refine q_rt (zU v8 ?_);exact q_rm
   ·refine q_sk (q_sq ?_);refine s_vv [] 1 [6,23] [(29,vb ((((((a1.getD x5.toNat dd).Sec).Rows).length:Nat):Int)==0))] (q_cq hm (λhm=>?_) (λhm=>?_))
    ·refine s_vn [] 1 ⟨[(2,vi 18)],[]⟩ ?_;obtain rfl:=oi hm;refine q_rt (zU 18 ?_);exact q_rm
    ·refine q_sk (q_sq ?_);refine q_jn (qBL a1 x4 x5) (λp=>VB a1 x4 x5 (WL a1 n) p=some res) ?_ ?_
     ·rintro x13 hm;refine q_cq hm (λhm=>?_) (λhm=>?_)
      ·refine s_vn [] 1 ⟨[(2,vi 9)],[]⟩ ?_;obtain rfl:=oi hm;refine q_rt (zU 9 ?_);exact q_rm
      ·refine q_sk (q_vu [] 1 [3,5,39] [(3,vi (w64 (x4+((a1.getD x5.toNat dd).Len))))] [0] [] ?_);exact q_vv [] 1 [15] [(15,vi (w64 (x5+1)))] (q_hl (PW a1 (w64 (x4+((a1.getD x5.toNat dd).Len))) (w64 (x5+1))) (ih (w64 (x4+((a1.getD x5.toNat dd).Len))) (w64 (x5+1)) _ hm))
     ·rcases bif_c hm with⟨b12,hm⟩|⟨b12,hm⟩
      ·exact q_vv [qf 3 b12] 1 [29] [(39,vb true)] (q_J (true) hm)
      ·exact q_vv [qf 3 b12] 1 [29] [(39,vb (decide (((a1.getD x5.toNat dd).Len)>(w64 (20000-x4)))))] (q_J (decide (((a1.getD x5.toNat dd).Len)>(w64 (20000-x4)))) hm)
  ·refine q_ex 0 ?_;obtain rfl:=oi hm;exact q_l1 ()
theorem qC6 (a1:List qU) (r:Int) (hm:HI a1=some r):CtX Tryz.prog globs 26 0 0 [.one (tl qW dd a1)] [] (BM r) (BI r):=by
 unfold HI at hm;refine q_E f26 45 λE=>?_;refine s_vn [] 0 ⟨[(0,vc (tl qW dd a1))],[]⟩ (q_sq ?_);refine s_va 0 [(9,vb ((a1.length:Int)==0))] (q_cq hm (λhm=>?_) (λhm=>?_))
 ·refine s_vn [] 0 ⟨[(2,vi 3)],[]⟩ ?_;obtain rfl:=oi hm;exact q_rt q_rm
 ·refine q_sk (q_sq ?_);refine s_vv [] 0 [9] [(12,vb (decide ((a1.length:Int)>24)))] (q_cq hm (λhm=>?_) (λhm=>?_))
  ·refine s_vn [] 0 ⟨[(2,vi 4)],[]⟩ ?_;obtain rfl:=oi hm;exact q_rt q_rm
  ·refine q_sk (s_vv [] 0 [12] [(3,vi 0)] ?_);refine q_sq (s_vv [] 0 [0] [(13,vc (tl qW dd a1)),(14,vi (a1.length:Int)),(15,vi 0)] ?_);obtain⟨u17,h16,hm⟩:=qE hm;refine wL (nd f26 500) 0 (by kernel_rfl) FUEL (λo=>LC) (λv st=>RetQ Tryz.prog f26 (BM v) (BI v) .ret st) u17 (q_hl (PW a1 0 0) (qAJ E a1 FUEL 0 0 u17 h16)) ?_ ?_
   ·rintro v18 rfl st hr;obtain rfl:=oi hm;exact hr
   ·rintro o15 rfl;replace hm:_=some r:=hm;refine s_vn [] 0 ⟨[(2,vi 0)],[]⟩ ?_;obtain rfl:=oi hm;exact q_rt q_rm
open Go.Proofs Go.Proofs.Tryz
def qEj (r:(List qU)):V:=vc (tl qW dd r)
def qEB (r:(List qU)):List (Nat×(Nat×O)):=[]
theorem qDA (a1:List qU) (r:(List qU)) (hm:MW a1=some r):CtX Tryz.prog globs 63 0 0 [.one (tl qW dd a1)] [] (qEj r) (qEB r):=by
 unfold MW at hm;refine q_E f63 7 λE=>?_;refine s_vn [] 0 ⟨[(0,vc (tl qW dd a1))],[]⟩ (q_sq ?_);obtain⟨v2,h3,hm⟩:=qE hm;refine s_vv [qc 1 [3] 0 (qC6 a1 v2 h3)] 0 [] [(5,vb (v2 !=0))] (q_cq hm (λhm=>?_) (λhm=>?_))
 ·refine s_vn [] 0 ⟨[(2,vc (.emp))],[]⟩ (q_fn [.own 2 0 50 3 (rf qW [])] ⟨[(2,vo 0 0 3 0)],[(0,ro 0 50 3 0 (rf qW []))]⟩ o0 ?_);refine q_fn [.len 0 (([]:List qU).length),.frz 0] ⟨[(2,vc (tl qW dd ([]:List qU)))],[]⟩ (o1 (And.intro (And.intro (show 0=([]:List qU).length from rfl) (show 0=([]:List qU).length from rfl)) (kr (([]:List qU).length)))) ?_;obtain rfl:=oi hm;exact q_rt q_rm
 ·refine q_sk (s_vn [] 0 ⟨[(2,vc (tl qW dd a1))],[]⟩ ?_);obtain rfl:=oi hm;exact q_rt q_rm
def qDj (r:Int):V:=vi r
def qDa (r:Int):List (Nat×(Nat×O)):=[]
def KS (v2:(List qU)) (x4:Int) (x5:Int):St:=
 ⟨[(3,vi x4),(7,vc (tl qW dd v2)),(8,vi (v2.length:Int)),(9,vi x5)],[]⟩
def BV (x10:Int):St:=
 ⟨[(3,vi x10)],[]⟩
theorem CN (E:Env 0) (v2:(List qU)):∀(n:Nat) (x4:Int) (x5:Int) (res:Int),TI v2 n x4 x5=some res->HL (kx E 23 0) (nd f43 116) (zT 0 BV res) n (KS v2 x4 x5):=by
 intro n
 induction n with
 |zero=>
  intro x4 x5 res hm;cases hm
 |succ n ih=>
  intro x4 x5 res hm;refine qT (s_va 0 [(10,vb (decide (x5<(v2.length:Int))))] ?_);refine q_sq (q_cq hm (λhm=>?_) (λhm=>?_))
  ·refine q_sk (q_sq ?_);refine q_bk 1 ?_;obtain⟨g7,hm⟩:=qJ hm;refine s_vu [qi 0 g7] 0 [10] [(5,vp 0 0)] [] [(0,bx 50 (qW (v2.getD x5.toNat dd)))] ?_;obtain⟨v8,h9,hm⟩:=qE hm;refine q_du [qc 5 [17] 1 (qCn ((v2.getD x5.toNat dd).Sec) v8 h9)] [0,0,2,0,8,24,62,127,255] 1 [3,5] [(3,vi (w64 (x4+(w64 (((v2.getD x5.toNat dd).Len)*v8)))))] [0] [] (q_vv [] 1 [9] [(9,vi (w64 (x5+1)))] ?_);exact q_hl (KS v2 (w64 (x4+(w64 (((v2.getD x5.toNat dd).Len)*v8)))) (w64 (x5+1))) (ih (w64 (x4+(w64 (((v2.getD x5.toNat dd).Len)*v8)))) (w64 (x5+1)) _ hm)
  ·refine q_ex 0 ?_;obtain rfl:=oi hm;exact q_l0
theorem qCO (a1:List qU) (r:Int) (hm:UO a1=some r):CtX Tryz.prog globs 43 0 0 [.one (tl qW dd a1)] [] (qDj r) (qDa r):=by
 unfold UO at hm;refine q_E f43 23 λE=>?_;refine s_vn [] 0 ⟨[(0,vc (tl qW dd a1))],[]⟩ (s_va 0 [(3,vi 0)] ?_);refine q_sq ?_;obtain⟨v2,h3,hm⟩:=qE hm;refine s_vv [qc 1 [6] 0 (qDA a1 v2 h3)] 0 [0] [(7,vc (tl qW dd v2)),(8,vi (v2.length:Int)),(9,vi 0)] ?_;obtain⟨o11,h12,hm⟩:=qE hm;refine zQ (nd f43 116) 0 (by kernel_rfl) FUEL BV o11 (q_hl (KS v2 0 0) (CN E v2 FUEL 0 0 o11 h12)) (s_vn [] 0 ⟨[(2,vi o11)],[]⟩ ?_);obtain rfl:=oi hm;exact q_rt q_rm
end Saw
end Go.SL

import Derived.Test.YthbamnkheinbgaaGreatDoorSBase
import Derived.Test.YthbamnkheinbgaaGreatDoorSFa5
import Derived.Test.YthbamnkheinbgaaGreatDoorSFa4
import Derived.Test.YthbamnkheinbgaaGreatDoorSFa3
set_option linter.unusedVariables false
set_option linter.unusedSimpArgs false
namespace Go.SL
namespace Saw
open Go.Proofs Go.Proofs.Tryz
set_option maxHeartbeats 4000000
set_option maxRecDepth 100000
def BA (r:Scan×Bool):V:= .tup [.agg [.own 0 0 2 r.1.Rings.length,.own 1 0 7 r.1.Defects.length],.one (cb r.2)]
def BS (r:Scan×Bool):List (Nat×(Nat×O)):=[(0,ro 0 45 2 r.1.Rings.length (rf qM r.1.Rings)),(1,ro 0 68 7 r.1.Defects.length (rf qN r.1.Defects))]
def YZ :St:=
 ⟨[(2,vp 0 0),(4,vp 2 0),(5,vc (.fn 108 [.bptr 2 0 0])),(6,vp 3 0)],[(0,bx 25 [.emp,.emp]),(2,bx 129 [.bptr 1 0 0])]⟩
def RW (v2:qE) (v4:(List Int)×Int×Int) (x6:Int) (l7:List Ring) (l7n:Nat) (x8:Int) (x9:Int):St:=
 (YZ).up [] [(17,vo 4 0 1 v4.1.length),(18,vi (v4.1.length:Int)),(19,vi x6)] [] [(1,bx 172 [cs v2.s,ci x8,ci x9]),(3,bx 25 [.own 5 0 2 l7n,.emp]),(4,ro 0 3 1 v4.1.length (rf qL v4.1)),(5,ro 0 45 2 l7n (rf qM l7))]
def FH (l18:List Ring) (x19:qE):St:=
 (YZ).up [] [] [] [(1,bx 172 (qJ x19)),(3,bx 25 [.own 5 0 2 l18.length,.emp]),(5,ro 0 45 2 l18.length (rf qM l18))]
def qAU (o20:(List Ring)×qE) (v26:(List qK)×Bool) (x31:Bool):St:=
 (YZ).up [4,5] [(11,vo 7 0 7 v26.1.length),(53,vb x31)] [2] [(3,bx 25 [.own 5 0 2 o20.1.length,.emp]),(5,ro 0 45 2 o20.1.length (rf qM o20.1)),(7,ro 0 68 7 v26.1.length (rf qN v26.1))]
theorem qAq (E:Env 0) (v2:qE) (v4:(List Int)×Int×Int):∀(n:Nat) (x6:Int) (l7:List Ring) (l7n:Nat) (x8:Int) (x9:Int) (res:(Scan×Bool)⊕((List Ring)×qE)),l7.length=l7n->VW v2 v4 n x6 l7 x8 x9=some res->HL (kx E 58 0) (nd f54 500) (wE 0 (λo=>FH o.1 o.2) (λv st=>RetQ Tryz.prog f54 (BA v) (BS v) .ret st) res) n (RW v2 v4 x6 l7 l7n x8 x9):=by
 intro n
 induction n with
 |zero=>
  intro x6 l7 l7n x8 x9 res hl0 hm;cases hm
 |succ n ih=>
  intro x6 l7 l7n x8 x9 res hl0 hm;subst hl0;refine qR (s_va 6 [(20,vb (decide (x6<(v4.1.length:Int))))] ?_);refine q_sq (q_cq hm (λhm=>?_) (λhm=>?_))
  ·refine q_sk (q_sq ?_);refine q_bk 1 ?_;obtain⟨g11,hm⟩:=qI hm;refine s_vv [qi 0 g11,qd 1 dN (qZ (zG g11))] 6 [20] [(8,vi (v4.1.getD x6.toNat dd))] ?_;obtain⟨v12,h13,hm⟩:=qC hm;obtain⟨v14,h15,hm⟩:=qC hm
   refine s_vu [qd 1 (dex (cen [(2,0),(1,0)] [0,0] 4 2 (YQ 96 (qE.mk v2.s x8 x9) v12) (YU 96 (qE.mk v2.s x8 x9) v12) [24] [2,1])) (zF (K:=(kx E 58 0)) ⟨[(24,vc (.fn 108 [.bptr 2 0 0]))],[(2,bx 129 [.bptr 1 0 0]),(1,bx 172 [cs v2.s,ci x8,ci x9])]⟩ (opAt (rg f54 32050) 1) [(2,0),(1,0)] [0,0] 4 o0 rfl (RB 96 (qE.mk v2.s x8 x9) v12 h13) (.inl rfl) (by kernel_rfl)),qd 2 (dex (cen [] [] 7 0 (QT v14) (wT v14) [25] [6])) (zF (K:=(kx E 58 0)) (b:=false) ⟨[(25,vo 6 0 1 v12.1.length)],[(6,ro 0 3 1 v12.1.length (rf qL v12.1))]⟩ (opAt (rg f54 32050) 2) [] [] 7 (o1 (kg v12.1.length)) rfl (AS v12.1 v14 h15) (.inr ⟨(by kernel_rfl),OM v14⟩) (by kernel_rfl))] 6 [] [(9,vo 7 0 3 v14.1.length),(10,vb v14.2)] [1] [(1,bx 172 [cs ((qE.mk v2.s x8 x9).s),ci v12.2.1,ci v12.2.2]),(7,ro 0 73 3 v14.1.length (rf qF v14.1))] ?_
   refine q_sq (s_vv [] 8 [10] [(30,vb (!v14.2))] ?_);refine q_cq hm (λhm=>?_) (λhm=>?_)
   ·refine s_vn [] 8 ⟨[(2,vp 0 0),(3,vb false)],[(0,bx 25 [.emp,.emp])]⟩ (q_fu [.ownB 0 0 8 45 2 (rf qM [])] [] [] [0] [(0,bx 25 [.own 8 0 2 0,.emp]),(8,ro 0 45 2 0 (rf qM []))] o0 ?_);refine q_fu [.ownB 0 1 9 68 7 (rf qN [])] [] [] [0] [(0,bx 25 [.own 8 0 2 0,.own 9 0 7 0]),(9,ro 0 68 7 0 (rf qN []))] o0 (q_fu [.len 8 (([]:List Ring).length)] [] [] [0,8] [(0,bx 25 [.own 8 0 2 (([]:List Ring).length),.own 9 0 7 0]),(8,ro 0 45 2 (([]:List Ring).length) (rf qM []))] (o1 (And.intro (show 0=([]:List Ring).length from rfl) (show 0=([]:List Ring).length from rfl))) ?_)
    refine q_fu [.len 9 (([]:List qK).length)] [] [] [0,9] [(0,bx 25 [.own 8 0 2 (([]:List Ring).length),.own 9 0 7 (([]:List qK).length)]),(9,ro 0 68 7 (([]:List qK).length) (rf qN []))] (o1 (And.intro (show 0=([]:List qK).length from rfl) (show 0=([]:List qK).length from rfl))) ?_;obtain rfl:=oi hm;refine q_sw 8 0 (q_sw 9 1 ?_);refine q_rt (zA ((Scan.mk ([]:List Ring) ([]:List qK)),false) ?_);exact q_rm
   ·refine q_sk ?_;obtain⟨g17,hm⟩:=qI hm
    refine q_vu [qd 5 (dpr [.frz 7] (drw 8 0 (rf qM [(Ring.mk (v4.1.getD x6.toNat dd) v14.1)]))) (And.intro (kg v14.1.length) (And.intro (kg v14.1.length) (kg v14.1.length))),qd 5 dN (litP qM dd 2 (λ_=>rfl) ([(Ring.mk (v4.1.getD x6.toNat dd) v14.1)]:List Ring) 1 rfl),qd 6 (drw 5 1 (rf qM (l7++[(Ring.mk (v4.1.getD x6.toNat dd) v14.1)]))) (apP qM dd l7 ([(Ring.mk (v4.1.getD x6.toNat dd) v14.1)]:List Ring) l7.length 1 2 32 (1<=1) (kg _) rfl rfl (λ_=>rfl) (zP g17))] 8 [8,9,30] [] [3,5,7] [(3,bx 25 [.own 5 1 2 (l7.length+1),.emp]),(5,ro 1 45 2 (l7.length+1) (rf qM (l7++[(Ring.mk (v4.1.getD x6.toNat dd) v14.1)])))] (q_vv [] 9 [19] [(19,vi (w64 (x6+1)))] ?_)
    exact q_hl (RW v2 v4 (w64 (x6+1)) (l7++[(Ring.mk (v4.1.getD x6.toNat dd) v14.1)]) (l7.length+1) v12.2.1 v12.2.2) (ih (w64 (x6+1)) (l7++[(Ring.mk (v4.1.getD x6.toNat dd) v14.1)]) (l7.length+1) v12.2.1 v12.2.2 _ (zY rfl rfl) hm)
  ·refine q_ex 0 ?_;obtain rfl:=oi hm;exact L1_mk (l7,(qE.mk v2.s x8 x9)) (by kernel_rfl) (by kernel_rfl)
theorem qC0 (a1:ByteArray) (r:Scan×Bool) (hm:SJ a1=some r):CtX Tryz.prog globs 54 0 0 [.one (cs a1)] [] (BA r) (BS r):=by
 unfold SJ at hm;refine q_E f54 58 λE=>?_;refine s_vn [] 0 ⟨[(0,vc (cs a1)),(2,vp 0 0)],[(0,bx 25 [.emp,.emp])]⟩ ?_;obtain⟨v2,h3,hm⟩:=qC hm;refine s_vu [qc 1 [13] 1 (OS a1 v2 h3)] 1 [0] [(4,vp 2 0)] [] [(1,bx 172 (qJ v2)),(2,bx 129 [.bptr 1 0 0])] (s_va 3 [(5,vc (.fn 108 [.bptr 2 0 0]))] ?_);refine s_vu [] 3 [] [(6,vp 3 0)] [] [(3,bx 25 [.emp,.emp])] (q_sq ?_);obtain⟨v4,h5,hm⟩:=qC hm
 refine s_vu [qd 1 (dex (cen [(2,0),(1,0)] [0,0] 2 2 (YQ 24 v2 v4) (YU 24 v2 v4) [16] [2,1])) (zF (K:=(kx E 58 0)) ⟨[(16,vc (.fn 108 [.bptr 2 0 0]))],[(2,bx 129 [.bptr 1 0 0]),(1,bx 172 (qJ v2))]⟩ (opAt (rg f54 124) 1) [(2,0),(1,0)] [0,0] 2 o0 rfl (RB 24 v2 v4 h5) (.inl rfl) (by kernel_rfl))] 4 [] [(17,vo 4 0 1 v4.1.length),(18,vi (v4.1.length:Int)),(19,vi 0)] [1] [(1,bx 172 [cs v2.s,ci v4.2.1,ci v4.2.2]),(4,ro 0 3 1 v4.1.length (rf qL v4.1))] (q_fu [.ownB 3 0 5 45 2 (rf qM [])] [] [] [3] [(3,bx 25 [.own 5 0 2 0,.emp]),(5,ro 0 45 2 0 (rf qM []))] o0 ?_);obtain⟨u22,h21,hm⟩:=qC hm
 refine zI (nd f54 500) 0 (by kernel_rfl) FUEL (λo=>FH o.1 o.2) (λv st=>RetQ Tryz.prog f54 (BA v) (BS v) .ret st) u22 (q_hl (RW v2 v4 0 ([]:List Ring) 0 v4.2.1 v4.2.2) (qAq E v2 v4 FUEL 0 ([]:List Ring) 0 v4.2.1 v4.2.2 u22 rfl h21)) ?_ ?_
 ·rintro v23 rfl st hr;obtain rfl:=oi hm;exact hr
 ·rintro o20 rfl;replace hm:_=some r:=hm;obtain⟨v24,h25,hm⟩:=qC hm;obtain⟨v26,h27,hm⟩:=qC hm
  refine s_vu [qd 1 (dex (cen [(2,0),(1,0)] [0,0] 4 2 (YQ 448 o20.2 v24) (YU 448 o20.2 v24) [42] [2,1])) (zF (K:=(kx E 58 0)) ⟨[(42,vc (.fn 108 [.bptr 2 0 0]))],[(2,bx 129 [.bptr 1 0 0]),(1,bx 172 (qJ o20.2))]⟩ (opAt (rg f54 126) 1) [(2,0),(1,0)] [0,0] 4 o0 rfl (RB 448 o20.2 v24 h25) (.inl rfl) (by kernel_rfl)),qd 2 (dex (cen [] [] 7 0 (NI v26) (ZW v26) [43] [6])) (zF (K:=(kx E 58 0)) (b:=false) ⟨[(43,vo 6 0 1 v24.1.length)],[(6,ro 0 3 1 v24.1.length (rf qL v24.1))]⟩ (opAt (rg f54 126) 2) [] [] 7 (o1 (kg v24.1.length)) rfl (CE v24.1 v26 h27) (.inr ⟨(by kernel_rfl),qAa v26⟩) (by kernel_rfl))] 6 [5] [(11,vo 7 0 7 v26.1.length),(12,vb v26.2)] [1] [(1,bx 172 [cs o20.2.s,ci v24.2.1,ci v24.2.2]),(7,ro 0 68 7 v26.1.length (rf qN v26.1))] ?_
  refine q_sq (q_jn (qAU o20 v26) (λp=>GJ o20 v26 p=some r) ?_ ?_)
  ·rintro x31 hm;refine q_cq hm (λhm=>?_) (λhm=>?_)
   ·refine s_vu [] 8 [6,11,53] [(3,vb false)] [3,5,7] [] (q_fu [.ownB 0 0 8 45 2 (rf qM [])] [] [] [0] [(0,bx 25 [.own 8 0 2 0,.emp]),(8,ro 0 45 2 0 (rf qM []))] o0 ?_);refine q_fu [.ownB 0 1 9 68 7 (rf qN [])] [] [] [0] [(0,bx 25 [.own 8 0 2 0,.own 9 0 7 0]),(9,ro 0 68 7 0 (rf qN []))] o0 (q_fu [.len 8 (([]:List Ring).length)] [] [] [0,8] [(0,bx 25 [.own 8 0 2 (([]:List Ring).length),.own 9 0 7 0]),(8,ro 0 45 2 (([]:List Ring).length) (rf qM []))] (o1 (And.intro (show 0=([]:List Ring).length from rfl) (show 0=([]:List Ring).length from rfl))) ?_)
    refine q_fu [.len 9 (([]:List qK).length)] [] [] [0,9] [(0,bx 25 [.own 8 0 2 (([]:List Ring).length),.own 9 0 7 (([]:List qK).length)]),(9,ro 0 68 7 (([]:List qK).length) (rf qN []))] (o1 (And.intro (show 0=([]:List qK).length from rfl) (show 0=([]:List qK).length from rfl))) ?_;obtain rfl:=oi hm;refine q_sw 8 0 (q_sw 9 1 ?_);exact q_rt q_rm
   ·refine q_sk (s_vu [] 8 [11,53] [] [3] [(3,bx 25 [.own 5 0 2 o20.1.length,.own 7 0 7 v26.1.length])] ?_);refine s_vu [] 8 [6] [(3,vb true)] [0,3] [(0,bx 25 [.own 5 0 2 o20.1.length,.own 7 0 7 v26.1.length])] ?_;obtain rfl:=oi hm;refine q_sw 5 0 (q_sw 7 1 ?_);exact q_rt q_rm
  ·rcases bif_c hm with⟨b28,hm⟩|⟨b28,hm⟩
   ·exact q_vu [qf 2 b28] 8 [4,12] [(53,vb true)] [1,2] [] (q_J (true) hm)
   ·obtain⟨v29,h30,hm⟩:=qC hm;exact q_vu [qf 2 b28,qd 4 (dex (cen [(1,0)] [0] 7 1 (DB (qE.mk o20.2.s v24.2.1 v24.2.2) v29) (GY (qE.mk o20.2.s v24.2.1 v24.2.2) v29) [49,50] [1])) (zF (K:=(kx E 58 0)) ⟨[(49,vb false),(50,vp 1 0)],[(1,bx 172 [cs o20.2.s,ci v24.2.1,ci v24.2.2])]⟩ (opAt (rg f54 508) 4) [(1,0)] [0] 7 o0 rfl (AB (qE.mk o20.2.s v24.2.1 v24.2.2) v29 h30) (.inl rfl) (by kernel_rfl))] 8 [4,12] [(53,vb (v29 !=0))] [1,2] [] (q_J (v29 !=0) hm)
def qDf (r:Scan×Int):V:= .tup [.agg [.own 0 0 2 r.1.Rings.length,.own 1 0 7 r.1.Defects.length],.one (ci r.2)]
def qCU (r:Scan×Int):List (Nat×(Nat×O)):=[(0,ro 0 45 2 r.1.Rings.length (rf qM r.1.Rings)),(1,ro 0 68 7 r.1.Defects.length (rf qN r.1.Defects))]
theorem qBO (a1:ByteArray) (r:Scan×Int) (hm:WS a1=some r):CtX Tryz.prog globs 21 0 0 [.one (cs a1)] [] (qDf r) (qCU r):=by
 unfold WS at hm;refine q_E f21 22 λE=>?_;refine s_vn [] 0 ⟨[(0,vc (cs a1)),(2,vp 0 0)],[(0,bx 25 [.emp,.emp])]⟩ ?_;obtain⟨v2,h3,hm⟩:=qC hm;refine s_vu [qc 1 [8] 1 (qC0 a1 v2 h3)] 1 [0] [(4,vp 3 0),(5,vb v2.2)] [] [(1,ro 0 45 2 v2.1.Rings.length (rf qM v2.1.Rings)),(2,ro 0 68 7 v2.1.Defects.length (rf qN v2.1.Defects)),(3,bx 25 [.own 1 0 2 v2.1.Rings.length,.own 2 0 7 v2.1.Defects.length])] (q_sq ?_);refine s_vv [] 4 [5] [(13,vb (!v2.2))] (q_cq hm (λhm=>?_) (λhm=>?_))
 ·refine s_vu [] 4 [4,13] [(3,vi 5)] [1,2,3] [] (q_fu [.ownB 0 0 4 45 2 (rf qM [])] [] [] [0] [(0,bx 25 [.own 4 0 2 0,.emp]),(4,ro 0 45 2 0 (rf qM []))] o0 ?_);refine q_fu [.ownB 0 1 5 68 7 (rf qN [])] [] [] [0] [(0,bx 25 [.own 4 0 2 0,.own 5 0 7 0]),(5,ro 0 68 7 0 (rf qN []))] o0 (q_fu [.len 4 (([]:List Ring).length)] [] [] [0,4] [(0,bx 25 [.own 4 0 2 (([]:List Ring).length),.own 5 0 7 0]),(4,ro 0 45 2 (([]:List Ring).length) (rf qM []))] (o1 (And.intro (show 0=([]:List Ring).length from rfl) (show 0=([]:List Ring).length from rfl))) ?_)
  refine q_fu [.len 5 (([]:List qK).length)] [] [] [0,5] [(0,bx 25 [.own 4 0 2 (([]:List Ring).length),.own 5 0 7 (([]:List qK).length)]),(5,ro 0 68 7 (([]:List qK).length) (rf qN []))] (o1 (And.intro (show 0=([]:List qK).length from rfl) (show 0=([]:List qK).length from rfl))) ?_;obtain rfl:=oi hm;refine q_sw 4 0 (q_sw 5 1 ?_);exact q_rt q_rm
 ·refine q_sk (q_sq ?_);obtain⟨v5,h6,hm⟩:=qC hm;refine s_vv [qd 1 (dex (cen [] [] 4 0 (QZ v5) (jG v5) [15] [1,2])) (zF (K:=(kx E 22 0)) (b:=false) ⟨[(15,va [.own 1 0 2 v2.1.Rings.length,.own 2 0 7 v2.1.Defects.length])],[(1,ro 0 45 2 v2.1.Rings.length (rf qM v2.1.Rings)),(2,ro 0 68 7 v2.1.Defects.length (rf qN v2.1.Defects))]⟩ (opAt (rg f21 60) 1) [] [] 4 (o1 (And.intro (kg v2.1.Rings.length) (kg v2.1.Defects.length))) rfl (yW (Scan.mk v2.1.Rings v2.1.Defects) v5 h6) (.inr ⟨(by kernel_rfl),qEI v5⟩) (by kernel_rfl))] 4 [13] [(6,vi v5)] (s_va 4 [(18,vb (v5 !=0))] ?_)
  refine q_cq hm (λhm=>?_) (λhm=>?_)
  ·refine s_vu [] 4 [4,6,18] [(3,vi v5)] [1,2,3] [] (q_fu [.ownB 0 0 4 45 2 (rf qM [])] [] [] [0] [(0,bx 25 [.own 4 0 2 0,.emp]),(4,ro 0 45 2 0 (rf qM []))] o0 ?_);refine q_fu [.ownB 0 1 5 68 7 (rf qN [])] [] [] [0] [(0,bx 25 [.own 4 0 2 0,.own 5 0 7 0]),(5,ro 0 68 7 0 (rf qN []))] o0 (q_fu [.len 4 (([]:List Ring).length)] [] [] [0,4] [(0,bx 25 [.own 4 0 2 (([]:List Ring).length),.own 5 0 7 0]),(4,ro 0 45 2 (([]:List Ring).length) (rf qM []))] (o1 (And.intro (show 0=([]:List Ring).length from rfl) (show 0=([]:List Ring).length from rfl))) ?_)
   refine q_fu [.len 5 (([]:List qK).length)] [] [] [0,5] [(0,bx 25 [.own 4 0 2 (([]:List Ring).length),.own 5 0 7 (([]:List qK).length)]),(5,ro 0 68 7 (([]:List qK).length) (rf qN []))] (o1 (And.intro (show 0=([]:List qK).length from rfl) (show 0=([]:List qK).length from rfl))) ?_;obtain rfl:=oi hm;refine q_sw 4 0 (q_sw 5 1 ?_);exact q_rt q_rm
  ·refine q_sk (s_vu [] 4 [4,6,18] [(3,vi 0)] [0,3] [(0,bx 25 [.own 1 0 2 v2.1.Rings.length,.own 2 0 7 v2.1.Defects.length])] ?_);obtain rfl:=oi hm;refine q_sw 1 0 (q_sw 2 1 ?_);exact q_rt q_rm
def yT (r:Bool):V:=vb r
def yV (r:Bool):List (Nat×(Nat×O)):=[]
def jL (a1:List qD) (a2:List qD) (x4:Int):St:=
 ⟨[(0,vc (tl qF dd a1)),(1,vc (tl qF dd a2)),(12,vi (a1.length:Int)),(13,vi x4)],[]⟩
def WM :St:=
 ⟨[],[]⟩
theorem VL (E:Env 0) (a1:List qD) (a2:List qD):∀(n:Nat) (x4:Int) (res:Bool⊕Unit),yK a1 a2 n x4=some res->HL (kx E 26 0) (nd f59 116) (wE 0 (λo=>WM) (λv st=>RetQ Tryz.prog f59 (yT v) (yV v) .ret st) res) n (jL a1 a2 x4):=by
 intro n
 induction n with
 |zero=>
  intro x4 res hm;cases hm
 |succ n ih=>
  intro x4 res hm;refine qR (s_va 0 [(14,vb (decide (x4<(a1.length:Int))))] ?_);refine q_sq (q_cq hm (λhm=>?_) (λhm=>?_))
  ·refine q_sk (q_sq ?_);refine q_bk 1 (s_vv [] 0 [14] [(5,vi x4)] ?_);obtain⟨g6,hm⟩:=qI hm;obtain⟨g7,hm⟩:=qI hm;refine s_du [qi 2 g6,qi 6 g7] [0,0,3,7,0,0,48,112,255] 0 [5] [(24,vb (!((((((a1.getD x4.toNat dd).P).X)==(((a2.getD x4.toNat dd).P).X))&&(((((a1.getD x4.toNat dd).P).Y)==(((a2.getD x4.toNat dd).P).Y))&&true))&&((((a1.getD x4.toNat dd).Ok)==((a2.getD x4.toNat dd).Ok))&&true))))] [] [] (q_cq hm (λhm=>?_) (λhm=>?_))
   ·refine s_vn [] 0 ⟨[(4,vb false)],[]⟩ ?_;obtain rfl:=oi hm;refine q_rt (zA false ?_);exact q_rm
   ·refine q_sk (q_vv [] 0 [13,24] [(13,vi (w64 (x4+1)))] ?_);exact q_hl (jL a1 a2 (w64 (x4+1))) (ih (w64 (x4+1)) _ hm)
  ·refine q_ex 0 ?_;obtain rfl:=oi hm;exact q_l1 ()
theorem NF (a1:List qD) (a2:List qD) (r:Bool) (hm:ZD a1 a2=some r):CtX Tryz.prog globs 59 0 0 [.one (tl qF dd a1),.one (tl qF dd a2)] [] (yT r) (yV r):=by
 unfold ZD at hm;refine q_E f59 26 λE=>?_;refine s_vn [] 0 ⟨[(0,vc (tl qF dd a1)),(1,vc (tl qF dd a2))],[]⟩ (q_sq ?_);refine s_va 0 [(10,vb ((a1.length:Int) !=(a2.length:Int)))] (q_cq hm (λhm=>?_) (λhm=>?_))
 ·refine s_vn [] 0 ⟨[(4,vb false)],[]⟩ ?_;obtain rfl:=oi hm;exact q_rt q_rm
 ·refine q_sk (q_sq ?_);refine s_vv [] 0 [10] [(12,vi (a1.length:Int)),(13,vi 0)] ?_;obtain⟨u11,h10,hm⟩:=qC hm;refine zI (nd f59 116) 0 (by kernel_rfl) FUEL (λo=>WM) (λv st=>RetQ Tryz.prog f59 (yT v) (yV v) .ret st) u11 (q_hl (jL a1 a2 0) (VL E a1 a2 FUEL 0 u11 h10)) ?_ ?_
  ·rintro v12 rfl st hr;obtain rfl:=oi hm;exact hr
  ·rintro o9 rfl;replace hm:_=some r:=hm;refine s_vn [] 0 ⟨[(4,vb true)],[]⟩ ?_;obtain rfl:=oi hm;exact q_rt q_rm
open Go.Proofs Go.Proofs.Tryz
def qDn (r:Bool):V:=vb r
def qDh (r:Bool):List (Nat×(Nat×O)):=[]
def CX (x6:Bool):St:=
 ⟨[(4,vb x6)],[]⟩
theorem qBM (a1:Ring) (a2:Ring) (r:Bool) (hm:LI a1 a2=some r):CtX Tryz.prog globs 58 0 0 [.agg (qM a1),.agg (qM a2)] [] (qDn r) (qDh r):=by
 unfold LI at hm;refine q_E f58 17 λE=>?_;refine s_vn [] 0 ⟨[(2,vp 0 0),(3,vp 1 0)],[(0,bx 45 (qM a1)),(1,bx 45 (qM a2))]⟩ (q_jn (CX) (λp=>TU p=some r) ?_ ?_)
 ·rintro x6 hm;obtain rfl:=oi hm;exact q_rt q_rm
 ·rcases bif_c hm with⟨b3,hm⟩|⟨b3,hm⟩
  ·obtain⟨v4,h5,hm⟩:=qC hm;exact q_vn [qf 5 b3,qk 10 [10,12,14] 2 ⟨[(10,vb true),(12,vc (tl qF dd a1.Read)),(14,vc (tl qF dd a2.Read))],[]⟩ (NF a1.Read a2.Read v4 h5)] 2 ⟨[(4,vb v4)],[]⟩ (q_J (v4) hm)
  ·exact q_vn [qf 5 b3] 2 ⟨[(4,vb false)],[]⟩ (q_J (false) hm)
def yL (r:Bool):V:=vb r
def yE (r:Bool):List (Nat×(Nat×O)):=[]
def jH (a1:List Ring) (a2:List Ring) (x4:Int):St:=
 ⟨[(1,vc (tl qM dd a2)),(2,vc (.fn 58 [])),(15,vc (tl qM dd a1)),(16,vi (a1.length:Int)),(17,vi x4)],[]⟩
def ZM :St:=
 ⟨[],[]⟩
theorem UE (E:Env 0) (a1:List Ring) (a2:List Ring):∀(n:Nat) (x4:Int) (res:Bool⊕Unit),jT a1 a2 n x4=some res->HL (kx E 32 0) (nd f60 116) (wE 0 (λo=>ZM) (λv st=>RetQ Tryz.prog f60 (yL v) (yE v) .ret st) res) n (jH a1 a2 x4):=by
 intro n
 induction n with
 |zero=>
  intro x4 res hm;cases hm
 |succ n ih=>
  intro x4 res hm;refine qR (s_va 0 [(18,vb (decide (x4<(a1.length:Int))))] ?_);refine q_sq (q_cq hm (λhm=>?_) (λhm=>?_))
  ·refine q_sk (q_sq ?_);refine q_bk 1 ?_;obtain⟨g6,hm⟩:=qI hm;refine s_vu [qi 1 g6] 0 [18] [(7,vi x4),(8,vp 0 0)] [] [(0,bx 45 (qM (a1.getD x4.toNat dd)))] ?_;obtain⟨g7,hm⟩:=qI hm;refine s_vu [qi 2 g7] 1 [7] [(9,vp 1 0)] [] [(1,bx 45 (qM (a2.getD x4.toNat dd)))] ?_;obtain⟨v8,h9,hm⟩:=qC hm
   refine s_vu [qk 3 [26,27,28] 2 ⟨[(26,vc (.fn 58 [])),(27,va [ci ((a1.getD x4.toNat dd).Z),tl qF dd ((a1.getD x4.toNat dd).Read)]),(28,va [ci ((a2.getD x4.toNat dd).Z),tl qF dd ((a2.getD x4.toNat dd).Read)])],[]⟩ (qBM (a1.getD x4.toNat dd) (a2.getD x4.toNat dd) v8 h9)] 2 [8,9] [(30,vb (!v8))] [0,1] [] (q_cq hm (λhm=>?_) (λhm=>?_))
   ·refine s_vn [] 2 ⟨[(6,vb false)],[]⟩ ?_;obtain rfl:=oi hm;refine q_rt (zA false ?_);exact q_rm
   ·refine q_sk (q_vv [] 2 [17,30] [(17,vi (w64 (x4+1)))] ?_);exact q_hl (jH a1 a2 (w64 (x4+1))) (ih (w64 (x4+1)) _ hm)
  ·refine q_ex 0 ?_;obtain rfl:=oi hm;exact q_l1 ()
theorem JH (a1:List Ring) (a2:List Ring) (r:Bool) (hm:QO a1 a2=some r):CtX Tryz.prog globs 60 0 0 [.one (tl qM dd a1),.one (tl qM dd a2),.one (.fn 58 [])] [] (yL r) (yE r):=by
 unfold QO at hm;refine q_E f60 32 λE=>?_;refine s_vn [] 0 ⟨[(0,vc (tl qM dd a1)),(1,vc (tl qM dd a2)),(2,vc (.fn 58 []))],[]⟩ (q_sq ?_);refine s_va 0 [(14,vb ((a1.length:Int) !=(a2.length:Int)))] (q_cq hm (λhm=>?_) (λhm=>?_))
 ·refine s_vn [] 0 ⟨[(6,vb false)],[]⟩ ?_;obtain rfl:=oi hm;exact q_rt q_rm
 ·refine q_sk (q_sq ?_);refine s_vv [] 0 [0,14] [(15,vc (tl qM dd a1)),(16,vi (a1.length:Int)),(17,vi 0)] ?_;obtain⟨u13,h12,hm⟩:=qC hm;refine zI (nd f60 116) 0 (by kernel_rfl) FUEL (λo=>ZM) (λv st=>RetQ Tryz.prog f60 (yL v) (yE v) .ret st) u13 (q_hl (jH a1 a2 0) (UE E a1 a2 FUEL 0 u13 h12)) ?_ ?_
  ·rintro v14 rfl st hr;obtain rfl:=oi hm;exact hr
  ·rintro o11 rfl;replace hm:_=some r:=hm;refine s_vn [] 0 ⟨[(6,vb true)],[]⟩ ?_;obtain rfl:=oi hm;exact q_rt q_rm
def QM (r:Bool):V:=vb r
def QL (r:Bool):List (Nat×(Nat×O)):=[]
def jU (a1:List qK) (a2:List qK) (x4:Int):St:=
 ⟨[(0,vc (tl qN dd a1)),(1,vc (tl qN dd a2)),(12,vi (a1.length:Int)),(13,vi x4)],[]⟩
def JD :St:=
 ⟨[],[]⟩
theorem GE (E:Env 0) (a1:List qK) (a2:List qK):∀(n:Nat) (x4:Int) (res:Bool⊕Unit),yS a1 a2 n x4=some res->HL (kx E 26 0) (nd f61 116) (wE 0 (λo=>JD) (λv st=>RetQ Tryz.prog f61 (QM v) (QL v) .ret st) res) n (jU a1 a2 x4):=by
 intro n
 induction n with
 |zero=>
  intro x4 res hm;cases hm
 |succ n ih=>
  intro x4 res hm;refine qR (s_va 0 [(14,vb (decide (x4<(a1.length:Int))))] ?_);refine q_sq (q_cq hm (λhm=>?_) (λhm=>?_))
  ·refine q_sk (q_sq ?_);refine q_bk 1 (s_vv [] 0 [14] [(5,vi x4)] ?_);obtain⟨g6,hm⟩:=qI hm;obtain⟨g7,hm⟩:=qI hm
   refine s_du [qi 2 g6,qi 6 g7] [0,0,3,7,0,0,48,112,255] 0 [5] [(24,vb (!((((a1.getD x4.toNat dd).Kind)==((a2.getD x4.toNat dd).Kind))&&((((((((a1.getD x4.toNat dd).Box).X).A)==((((a2.getD x4.toNat dd).Box).X).A))&&((((((a1.getD x4.toNat dd).Box).X).B)==((((a2.getD x4.toNat dd).Box).X).B))&&true))&&(((((((a1.getD x4.toNat dd).Box).Y).A)==((((a2.getD x4.toNat dd).Box).Y).A))&&((((((a1.getD x4.toNat dd).Box).Y).B)==((((a2.getD x4.toNat dd).Box).Y).B))&&true))&&(((((((a1.getD x4.toNat dd).Box).Z).A)==((((a2.getD x4.toNat dd).Box).Z).A))&&((((((a1.getD x4.toNat dd).Box).Z).B)==((((a2.getD x4.toNat dd).Box).Z).B))&&true))&&true)))&&true))))] [] [] (q_cq hm (λhm=>?_) (λhm=>?_))
   ·refine s_vn [] 0 ⟨[(4,vb false)],[]⟩ ?_;obtain rfl:=oi hm;refine q_rt (zA false ?_);exact q_rm
   ·refine q_sk (q_vv [] 0 [13,24] [(13,vi (w64 (x4+1)))] ?_);exact q_hl (jU a1 a2 (w64 (x4+1))) (ih (w64 (x4+1)) _ hm)
  ·refine q_ex 0 ?_;obtain rfl:=oi hm;exact q_l1 ()
theorem NQ (a1:List qK) (a2:List qK) (r:Bool) (hm:ZO a1 a2=some r):CtX Tryz.prog globs 61 0 0 [.one (tl qN dd a1),.one (tl qN dd a2)] [] (QM r) (QL r):=by
 unfold ZO at hm;refine q_E f61 26 λE=>?_;refine s_vn [] 0 ⟨[(0,vc (tl qN dd a1)),(1,vc (tl qN dd a2))],[]⟩ (q_sq ?_);refine s_va 0 [(10,vb ((a1.length:Int) !=(a2.length:Int)))] (q_cq hm (λhm=>?_) (λhm=>?_))
 ·refine s_vn [] 0 ⟨[(4,vb false)],[]⟩ ?_;obtain rfl:=oi hm;exact q_rt q_rm
 ·refine q_sk (q_sq ?_);refine s_vv [] 0 [10] [(12,vi (a1.length:Int)),(13,vi 0)] ?_;obtain⟨u11,h10,hm⟩:=qC hm;refine zI (nd f61 116) 0 (by kernel_rfl) FUEL (λo=>JD) (λv st=>RetQ Tryz.prog f61 (QM v) (QL v) .ret st) u11 (q_hl (jU a1 a2 0) (GE E a1 a2 FUEL 0 u11 h10)) ?_ ?_
  ·rintro v12 rfl st hr;obtain rfl:=oi hm;exact hr
  ·rintro o9 rfl;replace hm:_=some r:=hm;refine s_vn [] 0 ⟨[(4,vb true)],[]⟩ ?_;obtain rfl:=oi hm;exact q_rt q_rm
open Go.Proofs Go.Proofs.Tryz
def qFf (r:Bool):V:=vb r
def qE6 (r:Bool):List (Nat×(Nat×O)):=[]
def qBT (x8:Bool):St:=
 ⟨[(4,vb x8)],[]⟩
theorem qEQ (a1:Scan) (a2:Scan) (r:Bool) (hm:UZ a1 a2=some r):CtX Tryz.prog globs 24 0 0 [.agg (qT a1),.agg (qT a2)] [] (qFf r) (qE6 r):=by
 unfold UZ at hm;refine q_E f24 19 λE=>?_;refine s_vn [] 0 ⟨[(2,vp 0 0),(3,vp 1 0)],[(0,bx 25 (qT a1)),(1,bx 25 (qT a2))]⟩ (s_va 2 [(5,vc (.fn 58 []))] ?_);refine q_jn (qBT) (λp=>NH p=some r) ?_ ?_
 ·rintro x8 hm;obtain rfl:=oi hm;exact q_rt q_rm
 ·obtain⟨v3,h4,hm⟩:=qC hm;rcases bif_c hm with⟨b5,hm⟩|⟨b5,hm⟩
  ·obtain⟨v6,h7,hm⟩:=qC hm;exact q_vn [qc 5 [7,9,10] 2 (JH a1.Rings a2.Rings v3 h4),qf 6 b5,qk 11 [12,14,16] 2 ⟨[(12,vb true),(14,vc (tl qN dd a1.Defects)),(16,vc (tl qN dd a2.Defects))],[]⟩ (NQ a1.Defects a2.Defects v6 h7)] 2 ⟨[(4,vb v6)],[]⟩ (q_J (v6) hm)
  ·exact q_vn [qc 5 [7,9,10] 2 (JH a1.Rings a2.Rings v3 h4),qf 6 b5] 2 ⟨[(4,vb false)],[]⟩ (q_J (false) hm)
def qFh (r:Int):V:=vc (.val (.int .u64 r))
def qFa (r:Int):List (Nat×(Nat×O)):=[]
theorem qEe (a1:Span) (r:Int) (hm:ET a1=some r):CtX Tryz.prog globs 176 0 0 [.agg (qH a1)] [] (qFh r) (qFa r):=by
 unfold ET at hm;refine q_E f176 15 λE=>?_;refine s_vn [] 0 ⟨[(1,vp 0 0)],[(0,bx 64 (qH a1))]⟩ (q_sq ?_);refine s_va 1 [(7,vb (decide (a1.A≥a1.B)))] (q_cq hm (λhm=>?_) (λhm=>?_))
 ·refine s_vn [] 1 ⟨[(2,vc (.val (.int .u64 0)))],[]⟩ ?_;obtain rfl:=oi hm;exact q_rt q_rm
 ·refine q_sk (s_vn [] 1 ⟨[(2,vc (.val (.int .u64 (IntKind.u64.wrap ((IntKind.u64.wrap (a1.B))-(IntKind.u64.wrap (a1.A)))))))],[]⟩ ?_);obtain rfl:=oi hm;exact q_rt q_rm
def qBV (r:Int):V:=vi r
def qB4 (r:Int):List (Nat×(Nat×O)):=[]
theorem qAY (a1:Int) (r:Int) (hm:BJ a1=some r):CtX Tryz.prog globs 175 0 0 [.one (.val (.int .u64 a1))] [] (qBV r) (qB4 r):=by
 unfold BJ at hm;refine q_E f175 6 λE=>?_;refine s_vn [] 0 ⟨[(0,vc (.val (.int .u64 a1)))],[]⟩ (s_vn [] 0 ⟨[(2,vi (w64 (imin a1 9223372036854775807)))],[]⟩ ?_);obtain rfl:=oi hm;exact q_rt q_rm
open Go.Proofs Go.Proofs.Tryz
def qF1 (r:Int):V:=vi r
def qF4 (r:Int):List (Nat×(Nat×O)):=[]
theorem qFu (a1:Span) (r:Int) (hm:qAB a1=some r):CtX Tryz.prog globs 144 0 0 [.agg (qH a1)] [] (qF1 r) (qF4 r):=by
 unfold qAB at hm;refine q_E f144 6 λE=>?_;refine s_vn [] 0 ⟨[(1,vp 0 0)],[(0,bx 64 (qH a1))]⟩ ?_;obtain⟨v2,h3,hm⟩:=qC hm;obtain⟨v4,h5,hm⟩:=qC hm;refine s_vn [qc 1 [3] 1 (qEe a1 v2 h3),qc 2 [4] 1 (qAY v2 v4 h5)] 1 ⟨[(2,vi v4)],[]⟩ ?_;obtain rfl:=oi hm;exact q_rt q_rm
def qB9 (r:Int):V:=vi r
def qCb (r:Int):List (Nat×(Nat×O)):=[]
def XG (v2:qG) (x4:Int) (x5:Int):St:=
 ⟨[(3,vi x4),(8,vc (tl qH dd v2.Rows)),(9,vi (v2.Rows.length:Int)),(10,vi x5)],[]⟩
def DA (x10:Int):St:=
 ⟨[(3,vi x10)],[]⟩
theorem AK (E:Env 0) (v2:qG):∀(n:Nat) (x4:Int) (x5:Int) (res:Int),RC v2 n x4 x5=some res->HL (kx E 21 0) (nd f89 116) (zN 0 DA res) n (XG v2 x4 x5):=by
 intro n
 induction n with
 |zero=>
  intro x4 x5 res hm;cases hm
 |succ n ih=>
  intro x4 x5 res hm;refine qR (s_va 1 [(11,vb (decide (x5<(v2.Rows.length:Int))))] ?_);refine q_sq (q_cq hm (λhm=>?_) (λhm=>?_))
  ·refine q_sk (q_sq ?_);refine q_bk 1 ?_;obtain⟨g7,hm⟩:=qI hm;refine s_vu [qi 0 g7] 1 [11] [(5,vp 1 0)] [] [(1,bx 64 (qH (v2.Rows.getD x5.toNat dd)))] ?_;obtain⟨v8,h9,hm⟩:=qC hm;refine q_vu [qc 2 [15] 2 (qFu (v2.Rows.getD x5.toNat dd) v8 h9)] 2 [3,5] [(3,vi (w64 (x4+v8)))] [1] [] (q_vv [] 2 [10] [(10,vi (w64 (x5+1)))] ?_);exact q_hl (XG v2 (w64 (x4+v8)) (w64 (x5+1))) (ih (w64 (x4+v8)) (w64 (x5+1)) _ hm)
  ·refine q_ex 0 ?_;obtain rfl:=oi hm;exact q_l0
theorem qBF (a1:qG) (r:Int) (hm:NJ a1=some r):CtX Tryz.prog globs 89 0 0 [.agg (qP a1)] [] (qB9 r) (qCb r):=by
 unfold NJ at hm;refine q_E f89 21 λE=>?_;refine s_vn [] 0 ⟨[(1,vp 0 0)],[(0,bx 48 (qP a1))]⟩ (s_va 1 [(3,vi 0)] ?_);refine q_sq ?_;obtain⟨v2,h3,hm⟩:=qC hm;refine s_vu [qc 1 [6] 1 (KW a1 v2 h3)] 1 [1] [(8,vc (tl qH dd v2.Rows)),(9,vi (v2.Rows.length:Int)),(10,vi 0)] [0] [] ?_;obtain⟨o11,h12,hm⟩:=qC hm;refine zJ (nd f89 116) 0 (by kernel_rfl) FUEL DA o11 (q_hl (XG v2 0 0) (AK E v2 FUEL 0 0 o11 h12)) (s_vn [] 1 ⟨[(2,vi (w64 (10*o11)))],[]⟩ ?_);obtain rfl:=oi hm;exact q_rt q_rm
def VY (r:Int):V:=vi r
def GB (r:Int):List (Nat×(Nat×O)):=[]
def qAp (a1:List qS) (x4:Int) (x5:Int) (x13:Bool):St:=
 ⟨[(3,vi x4),(5,vp 0 0),(13,vc (tl qV dd a1)),(14,vi (a1.length:Int)),(15,vi x5),(39,vb x13)],[(0,bx 50 (qV (a1.getD x5.toNat dd)))]⟩
def KN (a1:List qS) (x4:Int) (x5:Int):St:=
 ⟨[(3,vi x4),(13,vc (tl qV dd a1)),(14,vi (a1.length:Int)),(15,vi x5)],[]⟩
def BF :St:=
 ⟨[],[]⟩
theorem OY (E:Env 0) (a1:List qS):∀(n:Nat) (x4:Int) (x5:Int) (res:Int⊕Unit),ZE a1 n x4 x5=some res->HL (kx E 45 0) (nd f26 500) (wE 0 (λo=>BF) (λv st=>RetQ Tryz.prog f26 (VY v) (GB v) .ret st) res) n (KN a1 x4 x5):=by
 intro n
 induction n with
 |zero=>
  intro x4 x5 res hm;cases hm
 |succ n ih=>
  intro x4 x5 res hm;refine qR (s_va 0 [(16,vb (decide (x5<(a1.length:Int))))] ?_);refine q_sq (q_cq hm (λhm=>?_) (λhm=>?_))
  ·refine q_sk (q_sq ?_);refine q_bk 1 ?_;obtain⟨g7,hm⟩:=qI hm;refine s_vu [qi 0 g7] 0 [16] [(5,vp 0 0)] [] [(0,bx 50 (qV (a1.getD x5.toNat dd)))] (q_sq ?_);obtain⟨v8,h9,hm⟩:=qC hm;refine s_vv [qc 2 [20] 1 (BW ((a1.getD x5.toNat dd).Sec) v8 h9)] 1 [] [(6,vi v8)] (s_va 1 [(23,vb (v8 !=0))] ?_);refine q_cq hm (λhm=>?_) (λhm=>?_)
   ·refine s_vn [] 1 ⟨[(2,vi v8)],[]⟩ ?_;obtain rfl:=oi hm;refine q_rt (zA v8 ?_);exact q_rm
   ·refine q_sk (q_sq ?_);refine s_vv [] 1 [6,23] [(29,vb ((((((a1.getD x5.toNat dd).Sec).Rows).length:Nat):Int)==0))] (q_cq hm (λhm=>?_) (λhm=>?_))
    ·refine s_vn [] 1 ⟨[(2,vi 18)],[]⟩ ?_;obtain rfl:=oi hm;refine q_rt (zA 18 ?_);exact q_rm
    ·refine q_sk (q_sq ?_);refine q_jn (qAp a1 x4 x5) (λp=>TN a1 x4 x5 (ZE a1 n) p=some res) ?_ ?_
     ·rintro x13 hm;refine q_cq hm (λhm=>?_) (λhm=>?_)
      ·refine s_vn [] 1 ⟨[(2,vi 9)],[]⟩ ?_;obtain rfl:=oi hm;refine q_rt (zA 9 ?_);exact q_rm
      ·refine q_sk (q_vu [] 1 [3,5,39] [(3,vi (w64 (x4+((a1.getD x5.toNat dd).Len))))] [0] [] ?_);exact q_vv [] 1 [15] [(15,vi (w64 (x5+1)))] (q_hl (KN a1 (w64 (x4+((a1.getD x5.toNat dd).Len))) (w64 (x5+1))) (ih (w64 (x4+((a1.getD x5.toNat dd).Len))) (w64 (x5+1)) _ hm))
     ·rcases bif_c hm with⟨b12,hm⟩|⟨b12,hm⟩
      ·exact q_vv [qf 3 b12] 1 [29] [(39,vb true)] (q_J (true) hm)
      ·exact q_vv [qf 3 b12] 1 [29] [(39,vb (decide (((a1.getD x5.toNat dd).Len)>(w64 (20000-x4)))))] (q_J (decide (((a1.getD x5.toNat dd).Len)>(w64 (20000-x4)))) hm)
  ·refine q_ex 0 ?_;obtain rfl:=oi hm;exact q_l1 ()
theorem qCh (a1:List qS) (r:Int) (hm:LF a1=some r):CtX Tryz.prog globs 26 0 0 [.one (tl qV dd a1)] [] (VY r) (GB r):=by
 unfold LF at hm;refine q_E f26 45 λE=>?_;refine s_vn [] 0 ⟨[(0,vc (tl qV dd a1))],[]⟩ (q_sq ?_);refine s_va 0 [(9,vb ((a1.length:Int)==0))] (q_cq hm (λhm=>?_) (λhm=>?_))
 ·refine s_vn [] 0 ⟨[(2,vi 3)],[]⟩ ?_;obtain rfl:=oi hm;exact q_rt q_rm
 ·refine q_sk (q_sq ?_);refine s_vv [] 0 [9] [(12,vb (decide ((a1.length:Int)>24)))] (q_cq hm (λhm=>?_) (λhm=>?_))
  ·refine s_vn [] 0 ⟨[(2,vi 4)],[]⟩ ?_;obtain rfl:=oi hm;exact q_rt q_rm
  ·refine q_sk (s_vv [] 0 [12] [(3,vi 0)] ?_);refine q_sq (s_vv [] 0 [0] [(13,vc (tl qV dd a1)),(14,vi (a1.length:Int)),(15,vi 0)] ?_);obtain⟨u17,h16,hm⟩:=qC hm;refine zI (nd f26 500) 0 (by kernel_rfl) FUEL (λo=>BF) (λv st=>RetQ Tryz.prog f26 (VY v) (GB v) .ret st) u17 (q_hl (KN a1 0 0) (OY E a1 FUEL 0 0 u17 h16)) ?_ ?_
   ·rintro v18 rfl st hr;obtain rfl:=oi hm;exact hr
   ·rintro o15 rfl;replace hm:_=some r:=hm;refine s_vn [] 0 ⟨[(2,vi 0)],[]⟩ ?_;obtain rfl:=oi hm;exact q_rt q_rm
open Go.Proofs Go.Proofs.Tryz
def qDc (r:(List qS)):V:=vc (tl qV dd r)
def qDo (r:(List qS)):List (Nat×(Nat×O)):=[]
theorem qCa (a1:List qS) (r:(List qS)) (hm:LP a1=some r):CtX Tryz.prog globs 63 0 0 [.one (tl qV dd a1)] [] (qDc r) (qDo r):=by
 unfold LP at hm;refine q_E f63 7 λE=>?_;refine s_vn [] 0 ⟨[(0,vc (tl qV dd a1))],[]⟩ (q_sq ?_);obtain⟨v2,h3,hm⟩:=qC hm;refine s_vv [qc 1 [3] 0 (qCh a1 v2 h3)] 0 [] [(5,vb (v2 !=0))] (q_cq hm (λhm=>?_) (λhm=>?_))
 ·refine s_vn [] 0 ⟨[(2,vc (.emp))],[]⟩ (q_fn [.own 2 0 50 3 (rf qV [])] ⟨[(2,vo 0 0 3 0)],[(0,ro 0 50 3 0 (rf qV []))]⟩ o0 ?_);refine q_fn [.len 0 (([]:List qS).length),.frz 0] ⟨[(2,vc (tl qV dd ([]:List qS)))],[]⟩ (o1 (And.intro (And.intro (show 0=([]:List qS).length from rfl) (show 0=([]:List qS).length from rfl)) (kg (([]:List qS).length)))) ?_;obtain rfl:=oi hm;exact q_rt q_rm
 ·refine q_sk (s_vn [] 0 ⟨[(2,vc (tl qV dd a1))],[]⟩ ?_);obtain rfl:=oi hm;exact q_rt q_rm
def qB2 (r:Int):V:=vi r
def qB1 (r:Int):List (Nat×(Nat×O)):=[]
def XA (v2:(List qS)) (x4:Int) (x5:Int):St:=
 ⟨[(3,vi x4),(7,vc (tl qV dd v2)),(8,vi (v2.length:Int)),(9,vi x5)],[]⟩
def GU (x10:Int):St:=
 ⟨[(3,vi x10)],[]⟩
theorem IE (E:Env 0) (v2:(List qS)):∀(n:Nat) (x4:Int) (x5:Int) (res:Int),RT v2 n x4 x5=some res->HL (kx E 23 0) (nd f43 116) (zN 0 GU res) n (XA v2 x4 x5):=by
 intro n
 induction n with
 |zero=>
  intro x4 x5 res hm;cases hm
 |succ n ih=>
  intro x4 x5 res hm;refine qR (s_va 0 [(10,vb (decide (x5<(v2.length:Int))))] ?_);refine q_sq (q_cq hm (λhm=>?_) (λhm=>?_))
  ·refine q_sk (q_sq ?_);refine q_bk 1 ?_;obtain⟨g7,hm⟩:=qI hm;refine s_vu [qi 0 g7] 0 [10] [(5,vp 0 0)] [] [(0,bx 50 (qV (v2.getD x5.toNat dd)))] ?_;obtain⟨v8,h9,hm⟩:=qC hm;refine q_du [qc 5 [17] 1 (qBF ((v2.getD x5.toNat dd).Sec) v8 h9)] [0,0,2,0,8,24,62,127,255] 1 [3,5] [(3,vi (w64 (x4+(w64 (((v2.getD x5.toNat dd).Len)*v8)))))] [0] [] (q_vv [] 1 [9] [(9,vi (w64 (x5+1)))] ?_);exact q_hl (XA v2 (w64 (x4+(w64 (((v2.getD x5.toNat dd).Len)*v8)))) (w64 (x5+1))) (ih (w64 (x4+(w64 (((v2.getD x5.toNat dd).Len)*v8)))) (w64 (x5+1)) _ hm)
  ·refine q_ex 0 ?_;obtain rfl:=oi hm;exact q_l0
theorem qBu (a1:List qS) (r:Int) (hm:PW a1=some r):CtX Tryz.prog globs 43 0 0 [.one (tl qV dd a1)] [] (qB2 r) (qB1 r):=by
 unfold PW at hm;refine q_E f43 23 λE=>?_;refine s_vn [] 0 ⟨[(0,vc (tl qV dd a1))],[]⟩ (s_va 0 [(3,vi 0)] ?_);refine q_sq ?_;obtain⟨v2,h3,hm⟩:=qC hm;refine s_vv [qc 1 [6] 0 (qCa a1 v2 h3)] 0 [0] [(7,vc (tl qV dd v2)),(8,vi (v2.length:Int)),(9,vi 0)] ?_;obtain⟨o11,h12,hm⟩:=qC hm;refine zJ (nd f43 116) 0 (by kernel_rfl) FUEL GU o11 (q_hl (XA v2 0 0) (IE E v2 FUEL 0 0 o11 h12)) (s_vn [] 0 ⟨[(2,vi o11)],[]⟩ ?_);obtain rfl:=oi hm;exact q_rt q_rm
def YR (r:Bool):V:=vb r
def yA (r:Bool):List (Nat×(Nat×O)):=[]
theorem qBU (r:Bool):yN (yA r):=by
 intro i k o h;unfold yA at h;cases h
def OR (a1:List qA) (x2:Int) (x8:Bool):St:=
 ⟨[(0,vc (tl qB dd a1)),(3,vi x2),(39,vb x8)],[]⟩
def XE (a1:List qA) (x2:Int):St:=
 ⟨[(0,vc (tl qB dd a1)),(3,vi x2)],[]⟩
def GX :St:=
 ⟨[],[]⟩
theorem EZ (E:Env 0) (a1:List qA):∀(n:Nat) (x2:Int) (res:Bool⊕Unit),zO a1 n x2=some res->HL (kx E 40 0) (nd f86 52) (wE 0 (λo=>GX) (λv st=>RetQ Tryz.prog f86 (YR v) (yA v) .ret st) res) n (XE a1 x2):=by
 intro n
 induction n with
 |zero=>
  intro x2 res hm;cases hm
 |succ n ih=>
  intro x2 res hm;refine qR (q_sq ?_);refine s_va 0 [(7,vb (decide (x2<(a1.length:Int))))] (q_cq hm (λhm=>?_) (λhm=>?_))
  ·refine q_sk (q_sq ?_);refine q_bk 1 (q_jn (OR a1 x2) (λp=>jI x2 (zO a1 n) p=some res) ?_ ?_)
   ·rintro x8 hm;refine q_cq hm (λhm=>?_) (λhm=>?_)
    ·refine s_vn [] 0 ⟨[(2,vb false)],[]⟩ ?_;obtain rfl:=oi hm;refine q_rt (zA false ?_);exact q_rm
    ·refine q_sk (q_vv [] 0 [3,39] [(3,vi (w64 (x2+1)))] ?_);exact q_hl (XE a1 (w64 (x2+1))) (ih (w64 (x2+1)) _ hm)
   ·obtain⟨g4,hm⟩:=qI hm;rcases bif_c hm with⟨b5,hm⟩|⟨b5,hm⟩
    ·exact q_vv [qi 2 g4,qf 6 b5] 0 [7] [(39,vb true)] (q_J (true) hm)
    ·rcases bif_c hm with⟨b6,hm⟩|⟨b6,hm⟩
     ·exact q_vv [qi 2 g4,qf 6 b5,qi 9 g4,qf 14 b6] 0 [7] [(39,vb true)] (q_J (true) hm)
     ·rcases bif_c hm with⟨b7,hm⟩|⟨b7,hm⟩
      ·exact q_vv [qi 2 g4,qf 6 b5,qi 9 g4,qf 14 b6,qi 17 g4,qf 22 b7] 0 [7] [(39,vb true)] (q_J (true) hm)
      ·exact q_vv [qi 2 g4,qf 6 b5,qi 9 g4,qf 14 b6,qi 17 g4,qf 22 b7,qi 25 g4] 0 [7] [(39,vb (decide (((a1.getD x2.toNat dd).Y)>600)))] (q_J (decide (((a1.getD x2.toNat dd).Y)>600)) hm)
  ·refine q_ex 0 ?_;obtain rfl:=oi hm;exact q_l1 ()
theorem qAI (a1:List qA) (r:Bool) (hm:JW a1=some r):CtX Tryz.prog globs 86 0 0 [.one (tl qB dd a1)] [] (YR r) (yA r):=by
 unfold JW at hm;refine q_E f86 40 λE=>?_;refine s_vn [] 0 ⟨[(0,vc (tl qB dd a1))],[]⟩ (q_sq ?_);refine s_va 0 [(3,vi 0)] ?_;obtain⟨u12,h11,hm⟩:=qC hm;refine zI (nd f86 52) 0 (by kernel_rfl) FUEL (λo=>GX) (λv st=>RetQ Tryz.prog f86 (YR v) (yA v) .ret st) u12 (q_hl (XE a1 0) (EZ E a1 FUEL 0 u12 h11)) ?_ ?_
 ·rintro v13 rfl st hr;obtain rfl:=oi hm;exact hr
 ·rintro o10 rfl;replace hm:_=some r:=hm;refine s_vn [] 0 ⟨[(2,vb true)],[]⟩ ?_;obtain rfl:=oi hm;exact q_rt q_rm
open Go.Proofs Go.Proofs.Tryz
def GC (r:Int):V:=vi r
def GI (r:Int):List (Nat×(Nat×O)):=[]
def qAg (a1:Ring) (x7:Int) (x16:Bool):St:=
 ⟨[(1,vp 0 0),(3,vi x7),(53,vb x16)],[(0,bx 45 (qM a1))]⟩
def qAx (a1:Ring) (x7:Int) (x13:Bool):St:=
 ⟨[(1,vp 0 0),(3,vi x7),(4,vp 1 0),(44,vb x13)],[(0,bx 45 (qM a1)),(1,bx 73 (qF (a1.Read.getD x7.toNat dd)))]⟩
def KV (a1:Ring) (x7:Int):St:=
 ⟨[(1,vp 0 0),(3,vi x7)],[(0,bx 45 (qM a1))]⟩
def BH :St:=
 ⟨[],[]⟩
def CS (a1:Ring) (x5:Bool):St:=
 ⟨[(1,vp 0 0),(15,vb x5)],[(0,bx 45 (qM a1))]⟩
theorem OJ (E:Env 0) (a1:Ring):∀(n:Nat) (x7:Int) (res:Int⊕Unit),zW a1 n x7=some res->HL (kx E 54 0) (nd f40 116) (wE 1 (λo=>BH) (λv st=>RetQ Tryz.prog f40 (GC v) (GI v) .ret st) res) n (KV a1 x7):=by
 intro n
 induction n with
 |zero=>
  intro x7 res hm;cases hm
 |succ n ih=>
  intro x7 res hm;refine qR (q_sq ?_);refine s_va 1 [(28,vb (decide (x7<(a1.Read.length:Int))))] (q_cq hm (λhm=>?_) (λhm=>?_))
  ·refine q_sk (q_sq ?_);refine q_bk 2 ?_;obtain⟨g9,hm⟩:=qI hm;refine s_vu [qi 3 g9] 1 [28] [(4,vp 1 0)] [] [(1,bx 73 (qF (a1.Read.getD x7.toNat dd)))] (q_sq ?_);refine q_jn (qAx a1 x7) (λp=>YK a1 x7 (zW a1 n) p=some res) ?_ ?_
   ·rintro x13 hm;refine q_cq hm (λhm=>?_) (λhm=>?_)
    ·refine s_vn [] 3 ⟨[(2,vi 9)],[]⟩ ?_;obtain rfl:=oi hm;refine q_rt (zA 9 ?_);exact q_rm
    ·refine q_sk (q_jn (qAg a1 x7) (λp=>YM x7 (zW a1 n) p=some res) ?_ ?_)
     ·rintro x16 hm;refine q_cq hm (λhm=>?_) (λhm=>?_)
      ·refine s_vn [] 3 ⟨[(2,vi 19)],[]⟩ ?_;obtain rfl:=oi hm;refine q_rt (zA 19 ?_);exact q_rm
      ·refine q_sk (q_vv [] 3 [3,53] [(3,vi (w64 (x7+1)))] ?_);exact q_hl (KV a1 (w64 (x7+1))) (ih (w64 (x7+1)) _ hm)
     ·rcases bif_c hm with⟨b15,hm⟩|⟨b15,hm⟩
      ·exact q_vu [qf 3 b15] 3 [4,44] [(53,vb (!(((((a1.Read.getD x7.toNat dd).P).X)==0)&&(((((a1.Read.getD x7.toNat dd).P).Y)==0)&&true))))] [1] [] (q_J (!(((((a1.Read.getD x7.toNat dd).P).X)==0)&&(((((a1.Read.getD x7.toNat dd).P).Y)==0)&&true))) hm)
      ·exact q_vu [qf 3 b15] 3 [4,44] [(53,vb false)] [1] [] (q_J (false) hm)
   ·rcases bif_c hm with⟨b10,hm⟩|⟨b10,hm⟩
    ·obtain⟨v11,h12,hm⟩:=qC hm
     exact q_vv [qf 2 b10,qd 5 (drw 2 0 (rf qB [(a1.Read.getD x7.toNat dd).P])) (litP qB dd 2 (λ_=>rfl) ([(a1.Read.getD x7.toNat dd).P]:List qA) 1 rfl),qd 6 (dex (cen [] [] 3 0 (YR v11) (yA v11) [38,41] [2])) (zF (K:=(kx E 54 0)) (xs':=[.one (.lst 1 (rf qB [(a1.Read.getD x7.toNat dd).P]))]) (b:=false) ⟨[(38,vb true),(41,vo 2 0 2 1)],[(2,ro 0 71 2 1 (rf qB [(a1.Read.getD x7.toNat dd).P]))]⟩ (opAt (rg f40 7460) 6) [] [] 3 (o1 (kg 1)) (by simp only[tl,rf,show([(a1.Read.getD x7.toNat dd).P]:List qA).length=1 from rfl]) (qAI ([(a1.Read.getD x7.toNat dd).P]:List qA) v11 h12) (.inr ⟨(by kernel_rfl),qBU v11⟩) (by kernel_rfl))] 2 [] [(44,vb (!v11))] (q_J (!v11) hm)
    ·exact q_vv [qf 2 b10] 2 [] [(44,vb false)] (q_J (false) hm)
  ·refine q_ex 1 ?_;obtain rfl:=oi hm;exact q_l1 ()
theorem qBR (a1:Ring) (r:Int) (hm:XM a1=some r):CtX Tryz.prog globs 40 0 0 [.agg (qM a1)] [] (GC r) (GI r):=by
 unfold XM at hm;refine q_E f40 54 λE=>?_;refine s_vn [] 0 ⟨[(1,vp 0 0)],[(0,bx 45 (qM a1))]⟩ (q_sq ?_);refine q_bk 0 (s_va 1 [(5,vb (decide ((a1.Read.length:Int)<8)))] ?_);refine q_cq hm (λhm=>?_) (λhm=>?_)
 ·refine s_vn [] 1 ⟨[(2,vi 3)],[]⟩ ?_;obtain rfl:=oi hm;exact q_rt q_rm
 ·refine s_vv [] 1 [5] [(10,vb (decide ((a1.Read.length:Int)>32)))] (q_cq hm (λhm=>?_) (λhm=>?_))
  ·refine s_vn [] 1 ⟨[(2,vi 4)],[]⟩ ?_;obtain rfl:=oi hm;exact q_rt q_rm
  ·refine q_jn (CS a1) (λp=>YT a1 p=some r) ?_ ?_
   ·rintro x5 hm;refine q_cq hm (λhm=>?_) (λhm=>?_)
    ·refine s_vn [] 1 ⟨[(2,vi 9)],[]⟩ ?_;obtain rfl:=oi hm;exact q_rt q_rm
    ·refine q_sk (q_sq ?_);refine s_vv [] 1 [15] [(3,vi 0)] ?_;obtain⟨u20,h19,hm⟩:=qC hm;refine zI (nd f40 116) 1 (by kernel_rfl) FUEL (λo=>BH) (λv st=>RetQ Tryz.prog f40 (GC v) (GI v) .ret st) u20 (q_hl (KV a1 0) (OJ E a1 FUEL 0 u20 h19)) ?_ ?_
     ·rintro v21 rfl st hr;obtain rfl:=oi hm;exact hr
     ·rintro o18 rfl;replace hm:_=some r:=hm;refine s_vn [] 1 ⟨[(2,vi 0)],[]⟩ ?_;obtain rfl:=oi hm;exact q_rt q_rm
   ·rcases bif_c hm with⟨b4,hm⟩|⟨b4,hm⟩
    ·exact q_vv [qf 3 b4] 1 [10] [(15,vb true)] (q_J (true) hm)
    ·exact q_vv [qf 3 b4] 1 [10] [(15,vb (decide (a1.Z>20000)))] (q_J (decide (a1.Z>20000)) hm)
end Saw
end Go.SL

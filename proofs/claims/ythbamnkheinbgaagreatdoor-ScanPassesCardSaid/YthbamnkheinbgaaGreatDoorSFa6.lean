import Derived.Test.YthbamnkheinbgaaGreatDoorSBase
import Derived.Test.YthbamnkheinbgaaGreatDoorSFa5
import Derived.Test.YthbamnkheinbgaaGreatDoorSFa4
import Derived.Test.YthbamnkheinbgaaGreatDoorSFa3
import Derived.Test.YthbamnkheinbgaaGreatDoorSFa1
set_option linter.unusedVariables false
set_option linter.unusedSimpArgs false
namespace Go.SL
namespace Saw
open Go.Proofs Go.Proofs.Tryz
set_option maxHeartbeats 4000000
set_option maxRecDepth 100000
def LR (r:Scan×Bool):V:= .tup [.agg [.own 0 0 2 r.1.Rings.length,.own 1 0 7 r.1.Defects.length],.one (cb r.2)]
def FZ (r:Scan×Bool):List (Nat×(Nat×O)):=[(0,ro 0 45 2 r.1.Rings.length (rf qK r.1.Rings)),(1,ro 0 68 7 r.1.Defects.length (rf qG r.1.Defects))]
def PB :St:=
 ⟨[(2,vp 0 0),(4,vp 2 0),(5,vc (.fn 108 [.bptr 2 0 0])),(6,vp 3 0)],[(0,bx 25 [.emp,.emp]),(2,bx 129 [.bptr 1 0 0])]⟩
def UO (v2:qH) (v4:(List Int)×Int×Int) (x6:Int) (l7:List Ring) (l7n:Nat) (x8:Int) (x9:Int):St:=
 (PB).up [] [(17,vo 4 0 1 v4.1.length),(18,vi (v4.1.length:Int)),(19,vi x6)] [] [(1,bx 172 [cs v2.s,ci x8,ci x9]),(3,bx 25 [.own 5 0 2 l7n,.emp]),(4,ro 0 3 1 v4.1.length (rf qO v4.1)),(5,ro 0 45 2 l7n (rf qK l7))]
def MR (l18:List Ring) (x19:qH):St:=
 (PB).up [] [] [] [(1,bx 172 (qN x19)),(3,bx 25 [.own 5 0 2 l18.length,.emp]),(5,ro 0 45 2 l18.length (rf qK l18))]
def qCJ (o20:(List Ring)×qH) (v26:(List qD)×Bool) (x31:Bool):St:=
 (PB).up [4,5] [(11,vo 7 0 7 v26.1.length),(53,vb x31)] [2] [(3,bx 25 [.own 5 0 2 o20.1.length,.emp]),(5,ro 0 45 2 o20.1.length (rf qK o20.1)),(7,ro 0 68 7 v26.1.length (rf qG v26.1))]
theorem qBr (E:Env 0) (v2:qH) (v4:(List Int)×Int×Int):∀(n:Nat) (x6:Int) (l7:List Ring) (l7n:Nat) (x8:Int) (x9:Int) (res:(Scan×Bool)⊕((List Ring)×qH)),l7.length=l7n->BX v2 v4 n x6 l7 x8 x9=some res->HL (kx E 58 0) (nd f54 500) (jP 0 (λo=>MR o.1 o.2) (λv st=>RetQ Tryz.prog f54 (LR v) (FZ v) .ret st) res) n (UO v2 v4 x6 l7 l7n x8 x9):=by
 intro n
 induction n with
 |zero=>
  intro x6 l7 l7n x8 x9 res hl0 hm;cases hm
 |succ n ih=>
  intro x6 l7 l7n x8 x9 res hl0 hm;subst hl0;refine qS (s_va 6 [(20,vb (decide (x6<(v4.1.length:Int))))] ?_);refine q_sq (q_cq hm (λhm=>?_) (λhm=>?_))
  ·refine q_sk (q_sq ?_);refine q_bk 1 ?_;obtain⟨g11,hm⟩:=qJ hm;refine s_vv [qi 0 g11,qd 1 dN (qZ (zG g11))] 6 [20] [(8,vi (v4.1.getD x6.toNat dd))] ?_;obtain⟨v12,h13,hm⟩:=qE hm;obtain⟨v14,h15,hm⟩:=qE hm
   refine s_vu [qd 1 (dex (cen [(2,0),(1,0)] [0,0] 4 2 (KT 96 (qH.mk v2.s x8 x9) v12) (KQ 96 (qH.mk v2.s x8 x9) v12) [24] [2,1])) (zD (K:=(kx E 58 0)) ⟨[(24,vc (.fn 108 [.bptr 2 0 0]))],[(2,bx 129 [.bptr 1 0 0]),(1,bx 172 [cs v2.s,ci x8,ci x9])]⟩ (opAt (rg f54 32050) 1) [(2,0),(1,0)] [0,0] 4 o0 rfl (UJ 96 (qH.mk v2.s x8 x9) v12 h13) (.inl rfl) (by kernel_rfl)),qd 2 (dex (cen [] [] 7 0 (WJ v14) (jW v14) [25] [6])) (zD (K:=(kx E 58 0)) (b:=false) ⟨[(25,vo 6 0 1 v12.1.length)],[(6,ro 0 3 1 v12.1.length (rf qO v12.1))]⟩ (opAt (rg f54 32050) 2) [] [] 7 (o1 (kg v12.1.length)) rfl (qAs v12.1 v14 h15) (.inr ⟨(by kernel_rfl),qAR v14⟩) (by kernel_rfl))] 6 [] [(9,vo 7 0 3 v14.1.length),(10,vb v14.2)] [1] [(1,bx 172 [cs ((qH.mk v2.s x8 x9).s),ci v12.2.1,ci v12.2.2]),(7,ro 0 73 3 v14.1.length (rf qF v14.1))] ?_
   refine q_sq (s_vv [] 8 [10] [(30,vb (!v14.2))] ?_);refine q_cq hm (λhm=>?_) (λhm=>?_)
   ·refine s_vn [] 8 ⟨[(2,vp 0 0),(3,vb false)],[(0,bx 25 [.emp,.emp])]⟩ (q_fu [.ownB 0 0 8 45 2 (rf qK [])] [] [] [0] [(0,bx 25 [.own 8 0 2 0,.emp]),(8,ro 0 45 2 0 (rf qK []))] o0 ?_);refine q_fu [.ownB 0 1 9 68 7 (rf qG [])] [] [] [0] [(0,bx 25 [.own 8 0 2 0,.own 9 0 7 0]),(9,ro 0 68 7 0 (rf qG []))] o0 (q_fu [.len 8 (([]:List Ring).length)] [] [] [0,8] [(0,bx 25 [.own 8 0 2 (([]:List Ring).length),.own 9 0 7 0]),(8,ro 0 45 2 (([]:List Ring).length) (rf qK []))] (o1 (And.intro (show 0=([]:List Ring).length from rfl) (show 0=([]:List Ring).length from rfl))) ?_)
    refine q_fu [.len 9 (([]:List qD).length)] [] [] [0,9] [(0,bx 25 [.own 8 0 2 (([]:List Ring).length),.own 9 0 7 (([]:List qD).length)]),(9,ro 0 68 7 (([]:List qD).length) (rf qG []))] (o1 (And.intro (show 0=([]:List qD).length from rfl) (show 0=([]:List qD).length from rfl))) ?_;obtain rfl:=oi hm;refine q_sw 8 0 (q_sw 9 1 ?_);refine q_rt (zN ((Scan.mk ([]:List Ring) ([]:List qD)),false) ?_);exact q_rm
   ·refine q_sk ?_;obtain⟨g17,hm⟩:=qJ hm
    refine q_vu [qd 5 (dpr [.frz 7] (drw 8 0 (rf qK [(Ring.mk (v4.1.getD x6.toNat dd) v14.1)]))) (And.intro (kg v14.1.length) (And.intro (kg v14.1.length) (kg v14.1.length))),qd 5 dN (litP qK dd 2 (λ_=>rfl) ([(Ring.mk (v4.1.getD x6.toNat dd) v14.1)]:List Ring) 1 rfl),qd 6 (drw 5 1 (rf qK (l7++[(Ring.mk (v4.1.getD x6.toNat dd) v14.1)]))) (apP qK dd l7 ([(Ring.mk (v4.1.getD x6.toNat dd) v14.1)]:List Ring) l7.length 1 2 32 (1<=1) (kg _) rfl rfl (λ_=>rfl) (zR g17))] 8 [8,9,30] [] [3,5,7] [(3,bx 25 [.own 5 1 2 (l7.length+1),.emp]),(5,ro 1 45 2 (l7.length+1) (rf qK (l7++[(Ring.mk (v4.1.getD x6.toNat dd) v14.1)])))] (q_vv [] 9 [19] [(19,vi (w64 (x6+1)))] ?_)
    exact q_hl (UO v2 v4 (w64 (x6+1)) (l7++[(Ring.mk (v4.1.getD x6.toNat dd) v14.1)]) (l7.length+1) v12.2.1 v12.2.2) (ih (w64 (x6+1)) (l7++[(Ring.mk (v4.1.getD x6.toNat dd) v14.1)]) (l7.length+1) v12.2.1 v12.2.2 _ (wB rfl rfl) hm)
  ·refine q_ex 0 ?_;obtain rfl:=oi hm;exact L1_mk (l7,(qH.mk v2.s x8 x9)) (by kernel_rfl) (by kernel_rfl)
theorem qEi (a1:ByteArray) (r:Scan×Bool) (hm:AP a1=some r):CtX Tryz.prog globs 54 0 0 [.one (cs a1)] [] (LR r) (FZ r):=by
 unfold AP at hm;refine q_E f54 58 λE=>?_;refine s_vn [] 0 ⟨[(0,vc (cs a1)),(2,vp 0 0)],[(0,bx 25 [.emp,.emp])]⟩ ?_;obtain⟨v2,h3,hm⟩:=qE hm;refine s_vu [qc 1 [13] 1 (qAZ a1 v2 h3)] 1 [0] [(4,vp 2 0)] [] [(1,bx 172 (qN v2)),(2,bx 129 [.bptr 1 0 0])] (s_va 3 [(5,vc (.fn 108 [.bptr 2 0 0]))] ?_);refine s_vu [] 3 [] [(6,vp 3 0)] [] [(3,bx 25 [.emp,.emp])] (q_sq ?_);obtain⟨v4,h5,hm⟩:=qE hm
 refine s_vu [qd 1 (dex (cen [(2,0),(1,0)] [0,0] 2 2 (KT 24 v2 v4) (KQ 24 v2 v4) [16] [2,1])) (zD (K:=(kx E 58 0)) ⟨[(16,vc (.fn 108 [.bptr 2 0 0]))],[(2,bx 129 [.bptr 1 0 0]),(1,bx 172 (qN v2))]⟩ (opAt (rg f54 124) 1) [(2,0),(1,0)] [0,0] 2 o0 rfl (UJ 24 v2 v4 h5) (.inl rfl) (by kernel_rfl))] 4 [] [(17,vo 4 0 1 v4.1.length),(18,vi (v4.1.length:Int)),(19,vi 0)] [1] [(1,bx 172 [cs v2.s,ci v4.2.1,ci v4.2.2]),(4,ro 0 3 1 v4.1.length (rf qO v4.1))] (q_fu [.ownB 3 0 5 45 2 (rf qK [])] [] [] [3] [(3,bx 25 [.own 5 0 2 0,.emp]),(5,ro 0 45 2 0 (rf qK []))] o0 ?_);obtain⟨u22,h21,hm⟩:=qE hm
 refine zV (nd f54 500) 0 (by kernel_rfl) FUEL (λo=>MR o.1 o.2) (λv st=>RetQ Tryz.prog f54 (LR v) (FZ v) .ret st) u22 (q_hl (UO v2 v4 0 ([]:List Ring) 0 v4.2.1 v4.2.2) (qBr E v2 v4 FUEL 0 ([]:List Ring) 0 v4.2.1 v4.2.2 u22 rfl h21)) ?_ ?_
 ·rintro v23 rfl st hr;obtain rfl:=oi hm;exact hr
 ·rintro o20 rfl;replace hm:_=some r:=hm;obtain⟨v24,h25,hm⟩:=qE hm;obtain⟨v26,h27,hm⟩:=qE hm
  refine s_vu [qd 1 (dex (cen [(2,0),(1,0)] [0,0] 4 2 (KT 448 o20.2 v24) (KQ 448 o20.2 v24) [42] [2,1])) (zD (K:=(kx E 58 0)) ⟨[(42,vc (.fn 108 [.bptr 2 0 0]))],[(2,bx 129 [.bptr 1 0 0]),(1,bx 172 (qN o20.2))]⟩ (opAt (rg f54 126) 1) [(2,0),(1,0)] [0,0] 4 o0 rfl (UJ 448 o20.2 v24 h25) (.inl rfl) (by kernel_rfl)),qd 2 (dex (cen [] [] 7 0 (FJ v26) (JF v26) [43] [6])) (zD (K:=(kx E 58 0)) (b:=false) ⟨[(43,vo 6 0 1 v24.1.length)],[(6,ro 0 3 1 v24.1.length (rf qO v24.1))]⟩ (opAt (rg f54 126) 2) [] [] 7 (o1 (kg v24.1.length)) rfl (qAY v24.1 v26 h27) (.inr ⟨(by kernel_rfl),qBO v26⟩) (by kernel_rfl))] 6 [5] [(11,vo 7 0 7 v26.1.length),(12,vb v26.2)] [1] [(1,bx 172 [cs o20.2.s,ci v24.2.1,ci v24.2.2]),(7,ro 0 68 7 v26.1.length (rf qG v26.1))] ?_
  refine q_sq (q_jn (qCJ o20 v26) (λp=>BY o20 v26 p=some r) ?_ ?_)
  ·rintro x31 hm;refine q_cq hm (λhm=>?_) (λhm=>?_)
   ·refine s_vu [] 8 [6,11,53] [(3,vb false)] [3,5,7] [] (q_fu [.ownB 0 0 8 45 2 (rf qK [])] [] [] [0] [(0,bx 25 [.own 8 0 2 0,.emp]),(8,ro 0 45 2 0 (rf qK []))] o0 ?_);refine q_fu [.ownB 0 1 9 68 7 (rf qG [])] [] [] [0] [(0,bx 25 [.own 8 0 2 0,.own 9 0 7 0]),(9,ro 0 68 7 0 (rf qG []))] o0 (q_fu [.len 8 (([]:List Ring).length)] [] [] [0,8] [(0,bx 25 [.own 8 0 2 (([]:List Ring).length),.own 9 0 7 0]),(8,ro 0 45 2 (([]:List Ring).length) (rf qK []))] (o1 (And.intro (show 0=([]:List Ring).length from rfl) (show 0=([]:List Ring).length from rfl))) ?_)
    refine q_fu [.len 9 (([]:List qD).length)] [] [] [0,9] [(0,bx 25 [.own 8 0 2 (([]:List Ring).length),.own 9 0 7 (([]:List qD).length)]),(9,ro 0 68 7 (([]:List qD).length) (rf qG []))] (o1 (And.intro (show 0=([]:List qD).length from rfl) (show 0=([]:List qD).length from rfl))) ?_;obtain rfl:=oi hm;refine q_sw 8 0 (q_sw 9 1 ?_);exact q_rt q_rm
   ·refine q_sk (s_vu [] 8 [11,53] [] [3] [(3,bx 25 [.own 5 0 2 o20.1.length,.own 7 0 7 v26.1.length])] ?_);refine s_vu [] 8 [6] [(3,vb true)] [0,3] [(0,bx 25 [.own 5 0 2 o20.1.length,.own 7 0 7 v26.1.length])] ?_;obtain rfl:=oi hm;refine q_sw 5 0 (q_sw 7 1 ?_);exact q_rt q_rm
  ·rcases bif_c hm with⟨b28,hm⟩|⟨b28,hm⟩
   ·exact q_vu [qf 2 b28] 8 [4,12] [(53,vb true)] [1,2] [] (q_J (true) hm)
   ·obtain⟨v29,h30,hm⟩:=qE hm;exact q_vu [qf 2 b28,qd 4 (dex (cen [(1,0)] [0] 7 1 (ND (qH.mk o20.2.s v24.2.1 v24.2.2) v29) (NC (qH.mk o20.2.s v24.2.1 v24.2.2) v29) [49,50] [1])) (zD (K:=(kx E 58 0)) ⟨[(49,vb false),(50,vp 1 0)],[(1,bx 172 [cs o20.2.s,ci v24.2.1,ci v24.2.2])]⟩ (opAt (rg f54 508) 4) [(1,0)] [0] 7 o0 rfl (CV (qH.mk o20.2.s v24.2.1 v24.2.2) v29 h30) (.inl rfl) (by kernel_rfl))] 8 [4,12] [(53,vb (v29 !=0))] [1,2] [] (q_J (v29 !=0) hm)
def qEs (r:Scan×Int):V:= .tup [.agg [.own 0 0 2 r.1.Rings.length,.own 1 0 7 r.1.Defects.length],.one (ci r.2)]
def qEq (r:Scan×Int):List (Nat×(Nat×O)):=[(0,ro 0 45 2 r.1.Rings.length (rf qK r.1.Rings)),(1,ro 0 68 7 r.1.Defects.length (rf qG r.1.Defects))]
theorem qDu (a1:ByteArray) (r:Scan×Int) (hm:YL a1=some r):CtX Tryz.prog globs 21 0 0 [.one (cs a1)] [] (qEs r) (qEq r):=by
 unfold YL at hm;refine q_E f21 22 λE=>?_;refine s_vn [] 0 ⟨[(0,vc (cs a1)),(2,vp 0 0)],[(0,bx 25 [.emp,.emp])]⟩ ?_;obtain⟨v2,h3,hm⟩:=qE hm;refine s_vu [qc 1 [8] 1 (qEi a1 v2 h3)] 1 [0] [(4,vp 3 0),(5,vb v2.2)] [] [(1,ro 0 45 2 v2.1.Rings.length (rf qK v2.1.Rings)),(2,ro 0 68 7 v2.1.Defects.length (rf qG v2.1.Defects)),(3,bx 25 [.own 1 0 2 v2.1.Rings.length,.own 2 0 7 v2.1.Defects.length])] (q_sq ?_);refine s_vv [] 4 [5] [(13,vb (!v2.2))] (q_cq hm (λhm=>?_) (λhm=>?_))
 ·refine s_vu [] 4 [4,13] [(3,vi 5)] [1,2,3] [] (q_fu [.ownB 0 0 4 45 2 (rf qK [])] [] [] [0] [(0,bx 25 [.own 4 0 2 0,.emp]),(4,ro 0 45 2 0 (rf qK []))] o0 ?_);refine q_fu [.ownB 0 1 5 68 7 (rf qG [])] [] [] [0] [(0,bx 25 [.own 4 0 2 0,.own 5 0 7 0]),(5,ro 0 68 7 0 (rf qG []))] o0 (q_fu [.len 4 (([]:List Ring).length)] [] [] [0,4] [(0,bx 25 [.own 4 0 2 (([]:List Ring).length),.own 5 0 7 0]),(4,ro 0 45 2 (([]:List Ring).length) (rf qK []))] (o1 (And.intro (show 0=([]:List Ring).length from rfl) (show 0=([]:List Ring).length from rfl))) ?_)
  refine q_fu [.len 5 (([]:List qD).length)] [] [] [0,5] [(0,bx 25 [.own 4 0 2 (([]:List Ring).length),.own 5 0 7 (([]:List qD).length)]),(5,ro 0 68 7 (([]:List qD).length) (rf qG []))] (o1 (And.intro (show 0=([]:List qD).length from rfl) (show 0=([]:List qD).length from rfl))) ?_;obtain rfl:=oi hm;refine q_sw 4 0 (q_sw 5 1 ?_);exact q_rt q_rm
 ·refine q_sk (q_sq ?_);obtain⟨v5,h6,hm⟩:=qE hm;refine s_vv [qd 1 (dex (cen [] [] 4 0 (jN v5) (wF v5) [15] [1,2])) (zD (K:=(kx E 22 0)) (b:=false) ⟨[(15,va [.own 1 0 2 v2.1.Rings.length,.own 2 0 7 v2.1.Defects.length])],[(1,ro 0 45 2 v2.1.Rings.length (rf qK v2.1.Rings)),(2,ro 0 68 7 v2.1.Defects.length (rf qG v2.1.Defects))]⟩ (opAt (rg f21 60) 1) [] [] 4 (o1 (And.intro (kg v2.1.Rings.length) (kg v2.1.Defects.length))) rfl (wI (Scan.mk v2.1.Rings v2.1.Defects) v5 h6) (.inr ⟨(by kernel_rfl),UH v5⟩) (by kernel_rfl))] 4 [13] [(6,vi v5)] (s_va 4 [(18,vb (v5 !=0))] ?_)
  refine q_cq hm (λhm=>?_) (λhm=>?_)
  ·refine s_vu [] 4 [4,6,18] [(3,vi v5)] [1,2,3] [] (q_fu [.ownB 0 0 4 45 2 (rf qK [])] [] [] [0] [(0,bx 25 [.own 4 0 2 0,.emp]),(4,ro 0 45 2 0 (rf qK []))] o0 ?_);refine q_fu [.ownB 0 1 5 68 7 (rf qG [])] [] [] [0] [(0,bx 25 [.own 4 0 2 0,.own 5 0 7 0]),(5,ro 0 68 7 0 (rf qG []))] o0 (q_fu [.len 4 (([]:List Ring).length)] [] [] [0,4] [(0,bx 25 [.own 4 0 2 (([]:List Ring).length),.own 5 0 7 0]),(4,ro 0 45 2 (([]:List Ring).length) (rf qK []))] (o1 (And.intro (show 0=([]:List Ring).length from rfl) (show 0=([]:List Ring).length from rfl))) ?_)
   refine q_fu [.len 5 (([]:List qD).length)] [] [] [0,5] [(0,bx 25 [.own 4 0 2 (([]:List Ring).length),.own 5 0 7 (([]:List qD).length)]),(5,ro 0 68 7 (([]:List qD).length) (rf qG []))] (o1 (And.intro (show 0=([]:List qD).length from rfl) (show 0=([]:List qD).length from rfl))) ?_;obtain rfl:=oi hm;refine q_sw 4 0 (q_sw 5 1 ?_);exact q_rt q_rm
  ·refine q_sk (s_vu [] 4 [4,6,18] [(3,vi 0)] [0,3] [(0,bx 25 [.own 1 0 2 v2.1.Rings.length,.own 2 0 7 v2.1.Defects.length])] ?_);obtain rfl:=oi hm;refine q_sw 1 0 (q_sw 2 1 ?_);exact q_rt q_rm
def ZD (r:Bool):V:=vb r
def ZG (r:Bool):List (Nat×(Nat×O)):=[]
def yP (a1:List qB) (a2:List qB) (x4:Int):St:=
 ⟨[(0,vc (tl qF dd a1)),(1,vc (tl qF dd a2)),(12,vi (a1.length:Int)),(13,vi x4)],[]⟩
def YA :St:=
 ⟨[],[]⟩
theorem DR (E:Env 0) (a1:List qB) (a2:List qB):∀(n:Nat) (x4:Int) (res:Bool⊕Unit),zK a1 a2 n x4=some res->HL (kx E 26 0) (nd f59 116) (jP 0 (λo=>YA) (λv st=>RetQ Tryz.prog f59 (ZD v) (ZG v) .ret st) res) n (yP a1 a2 x4):=by
 intro n
 induction n with
 |zero=>
  intro x4 res hm;cases hm
 |succ n ih=>
  intro x4 res hm;refine qS (s_va 0 [(14,vb (decide (x4<(a1.length:Int))))] ?_);refine q_sq (q_cq hm (λhm=>?_) (λhm=>?_))
  ·refine q_sk (q_sq ?_);refine q_bk 1 (s_vv [] 0 [14] [(5,vi x4)] ?_);obtain⟨g6,hm⟩:=qJ hm;obtain⟨g7,hm⟩:=qJ hm;refine s_du [qi 2 g6,qi 6 g7] [0,0,3,7,0,0,48,112,255] 0 [5] [(24,vb (!((((((a1.getD x4.toNat dd).P).X)==(((a2.getD x4.toNat dd).P).X))&&(((((a1.getD x4.toNat dd).P).Y)==(((a2.getD x4.toNat dd).P).Y))&&true))&&((((a1.getD x4.toNat dd).Ok)==((a2.getD x4.toNat dd).Ok))&&true))))] [] [] (q_cq hm (λhm=>?_) (λhm=>?_))
   ·refine s_vn [] 0 ⟨[(4,vb false)],[]⟩ ?_;obtain rfl:=oi hm;refine q_rt (zN false ?_);exact q_rm
   ·refine q_sk (q_vv [] 0 [13,24] [(13,vi (w64 (x4+1)))] ?_);exact q_hl (yP a1 a2 (w64 (x4+1))) (ih (w64 (x4+1)) _ hm)
  ·refine q_ex 0 ?_;obtain rfl:=oi hm;exact q_l1 ()
theorem LF (a1:List qB) (a2:List qB) (r:Bool) (hm:jF a1 a2=some r):CtX Tryz.prog globs 59 0 0 [.one (tl qF dd a1),.one (tl qF dd a2)] [] (ZD r) (ZG r):=by
 unfold jF at hm;refine q_E f59 26 λE=>?_;refine s_vn [] 0 ⟨[(0,vc (tl qF dd a1)),(1,vc (tl qF dd a2))],[]⟩ (q_sq ?_);refine s_va 0 [(10,vb ((a1.length:Int) !=(a2.length:Int)))] (q_cq hm (λhm=>?_) (λhm=>?_))
 ·refine s_vn [] 0 ⟨[(4,vb false)],[]⟩ ?_;obtain rfl:=oi hm;exact q_rt q_rm
 ·refine q_sk (q_sq ?_);refine s_vv [] 0 [10] [(12,vi (a1.length:Int)),(13,vi 0)] ?_;obtain⟨u11,h10,hm⟩:=qE hm;refine zV (nd f59 116) 0 (by kernel_rfl) FUEL (λo=>YA) (λv st=>RetQ Tryz.prog f59 (ZD v) (ZG v) .ret st) u11 (q_hl (yP a1 a2 0) (DR E a1 a2 FUEL 0 u11 h10)) ?_ ?_
  ·rintro v12 rfl st hr;obtain rfl:=oi hm;exact hr
  ·rintro o9 rfl;replace hm:_=some r:=hm;refine s_vn [] 0 ⟨[(4,vb true)],[]⟩ ?_;obtain rfl:=oi hm;exact q_rt q_rm
open Go.Proofs Go.Proofs.Tryz
def qEP (r:Bool):V:=vb r
def qEl (r:Bool):List (Nat×(Nat×O)):=[]
def qBT (x6:Bool):St:=
 ⟨[(4,vb x6)],[]⟩
theorem qDq (a1:Ring) (a2:Ring) (r:Bool) (hm:GZ a1 a2=some r):CtX Tryz.prog globs 58 0 0 [.agg (qK a1),.agg (qK a2)] [] (qEP r) (qEl r):=by
 unfold GZ at hm;refine q_E f58 17 λE=>?_;refine s_vn [] 0 ⟨[(2,vp 0 0),(3,vp 1 0)],[(0,bx 45 (qK a1)),(1,bx 45 (qK a2))]⟩ (q_jn (qBT) (λp=>KF p=some r) ?_ ?_)
 ·rintro x6 hm;obtain rfl:=oi hm;exact q_rt q_rm
 ·rcases bif_c hm with⟨b3,hm⟩|⟨b3,hm⟩
  ·obtain⟨v4,h5,hm⟩:=qE hm;exact q_vn [qf 5 b3,qk 10 [10,12,14] 2 ⟨[(10,vb true),(12,vc (tl qF dd a1.Read)),(14,vc (tl qF dd a2.Read))],[]⟩ (LF a1.Read a2.Read v4 h5)] 2 ⟨[(4,vb v4)],[]⟩ (q_J (v4) hm)
  ·exact q_vn [qf 5 b3] 2 ⟨[(4,vb false)],[]⟩ (q_J (false) hm)
def QS (r:Bool):V:=vb r
def QT (r:Bool):List (Nat×(Nat×O)):=[]
def yK (a1:List Ring) (a2:List Ring) (x4:Int):St:=
 ⟨[(1,vc (tl qK dd a2)),(2,vc (.fn 58 [])),(15,vc (tl qK dd a1)),(16,vi (a1.length:Int)),(17,vi x4)],[]⟩
def JD :St:=
 ⟨[],[]⟩
theorem GL (E:Env 0) (a1:List Ring) (a2:List Ring):∀(n:Nat) (x4:Int) (res:Bool⊕Unit),zJ a1 a2 n x4=some res->HL (kx E 32 0) (nd f60 116) (jP 0 (λo=>JD) (λv st=>RetQ Tryz.prog f60 (QS v) (QT v) .ret st) res) n (yK a1 a2 x4):=by
 intro n
 induction n with
 |zero=>
  intro x4 res hm;cases hm
 |succ n ih=>
  intro x4 res hm;refine qS (s_va 0 [(18,vb (decide (x4<(a1.length:Int))))] ?_);refine q_sq (q_cq hm (λhm=>?_) (λhm=>?_))
  ·refine q_sk (q_sq ?_);refine q_bk 1 ?_;obtain⟨g6,hm⟩:=qJ hm;refine s_vu [qi 1 g6] 0 [18] [(7,vi x4),(8,vp 0 0)] [] [(0,bx 45 (qK (a1.getD x4.toNat dd)))] ?_;obtain⟨g7,hm⟩:=qJ hm;refine s_vu [qi 2 g7] 1 [7] [(9,vp 1 0)] [] [(1,bx 45 (qK (a2.getD x4.toNat dd)))] ?_;obtain⟨v8,h9,hm⟩:=qE hm
   refine s_vu [qk 3 [26,27,28] 2 ⟨[(26,vc (.fn 58 [])),(27,va [ci ((a1.getD x4.toNat dd).Z),tl qF dd ((a1.getD x4.toNat dd).Read)]),(28,va [ci ((a2.getD x4.toNat dd).Z),tl qF dd ((a2.getD x4.toNat dd).Read)])],[]⟩ (qDq (a1.getD x4.toNat dd) (a2.getD x4.toNat dd) v8 h9)] 2 [8,9] [(30,vb (!v8))] [0,1] [] (q_cq hm (λhm=>?_) (λhm=>?_))
   ·refine s_vn [] 2 ⟨[(6,vb false)],[]⟩ ?_;obtain rfl:=oi hm;refine q_rt (zN false ?_);exact q_rm
   ·refine q_sk (q_vv [] 2 [17,30] [(17,vi (w64 (x4+1)))] ?_);exact q_hl (yK a1 a2 (w64 (x4+1))) (ih (w64 (x4+1)) _ hm)
  ·refine q_ex 0 ?_;obtain rfl:=oi hm;exact q_l1 ()
theorem YY (a1:List Ring) (a2:List Ring) (r:Bool) (hm:yI a1 a2=some r):CtX Tryz.prog globs 60 0 0 [.one (tl qK dd a1),.one (tl qK dd a2),.one (.fn 58 [])] [] (QS r) (QT r):=by
 unfold yI at hm;refine q_E f60 32 λE=>?_;refine s_vn [] 0 ⟨[(0,vc (tl qK dd a1)),(1,vc (tl qK dd a2)),(2,vc (.fn 58 []))],[]⟩ (q_sq ?_);refine s_va 0 [(14,vb ((a1.length:Int) !=(a2.length:Int)))] (q_cq hm (λhm=>?_) (λhm=>?_))
 ·refine s_vn [] 0 ⟨[(6,vb false)],[]⟩ ?_;obtain rfl:=oi hm;exact q_rt q_rm
 ·refine q_sk (q_sq ?_);refine s_vv [] 0 [0,14] [(15,vc (tl qK dd a1)),(16,vi (a1.length:Int)),(17,vi 0)] ?_;obtain⟨u13,h12,hm⟩:=qE hm;refine zV (nd f60 116) 0 (by kernel_rfl) FUEL (λo=>JD) (λv st=>RetQ Tryz.prog f60 (QS v) (QT v) .ret st) u13 (q_hl (yK a1 a2 0) (GL E a1 a2 FUEL 0 u13 h12)) ?_ ?_
  ·rintro v14 rfl st hr;obtain rfl:=oi hm;exact hr
  ·rintro o11 rfl;replace hm:_=some r:=hm;refine s_vn [] 0 ⟨[(6,vb true)],[]⟩ ?_;obtain rfl:=oi hm;exact q_rt q_rm
def WE (r:Bool):V:=vb r
def WD (r:Bool):List (Nat×(Nat×O)):=[]
def QC (a1:List qD) (a2:List qD) (x4:Int):St:=
 ⟨[(0,vc (tl qG dd a1)),(1,vc (tl qG dd a2)),(12,vi (a1.length:Int)),(13,vi x4)],[]⟩
def XE :St:=
 ⟨[],[]⟩
theorem BV (E:Env 0) (a1:List qD) (a2:List qD):∀(n:Nat) (x4:Int) (res:Bool⊕Unit),zP a1 a2 n x4=some res->HL (kx E 26 0) (nd f61 116) (jP 0 (λo=>XE) (λv st=>RetQ Tryz.prog f61 (WE v) (WD v) .ret st) res) n (QC a1 a2 x4):=by
 intro n
 induction n with
 |zero=>
  intro x4 res hm;cases hm
 |succ n ih=>
  intro x4 res hm;refine qS (s_va 0 [(14,vb (decide (x4<(a1.length:Int))))] ?_);refine q_sq (q_cq hm (λhm=>?_) (λhm=>?_))
  ·refine q_sk (q_sq ?_);refine q_bk 1 (s_vv [] 0 [14] [(5,vi x4)] ?_);obtain⟨g6,hm⟩:=qJ hm;obtain⟨g7,hm⟩:=qJ hm
   refine s_du [qi 2 g6,qi 6 g7] [0,0,3,7,0,0,48,112,255] 0 [5] [(24,vb (!((((a1.getD x4.toNat dd).Kind)==((a2.getD x4.toNat dd).Kind))&&((((((((a1.getD x4.toNat dd).Box).X).A)==((((a2.getD x4.toNat dd).Box).X).A))&&((((((a1.getD x4.toNat dd).Box).X).B)==((((a2.getD x4.toNat dd).Box).X).B))&&true))&&(((((((a1.getD x4.toNat dd).Box).Y).A)==((((a2.getD x4.toNat dd).Box).Y).A))&&((((((a1.getD x4.toNat dd).Box).Y).B)==((((a2.getD x4.toNat dd).Box).Y).B))&&true))&&(((((((a1.getD x4.toNat dd).Box).Z).A)==((((a2.getD x4.toNat dd).Box).Z).A))&&((((((a1.getD x4.toNat dd).Box).Z).B)==((((a2.getD x4.toNat dd).Box).Z).B))&&true))&&true)))&&true))))] [] [] (q_cq hm (λhm=>?_) (λhm=>?_))
   ·refine s_vn [] 0 ⟨[(4,vb false)],[]⟩ ?_;obtain rfl:=oi hm;refine q_rt (zN false ?_);exact q_rm
   ·refine q_sk (q_vv [] 0 [13,24] [(13,vi (w64 (x4+1)))] ?_);exact q_hl (QC a1 a2 (w64 (x4+1))) (ih (w64 (x4+1)) _ hm)
  ·refine q_ex 0 ?_;obtain rfl:=oi hm;exact q_l1 ()
theorem MF (a1:List qD) (a2:List qD) (r:Bool) (hm:jK a1 a2=some r):CtX Tryz.prog globs 61 0 0 [.one (tl qG dd a1),.one (tl qG dd a2)] [] (WE r) (WD r):=by
 unfold jK at hm;refine q_E f61 26 λE=>?_;refine s_vn [] 0 ⟨[(0,vc (tl qG dd a1)),(1,vc (tl qG dd a2))],[]⟩ (q_sq ?_);refine s_va 0 [(10,vb ((a1.length:Int) !=(a2.length:Int)))] (q_cq hm (λhm=>?_) (λhm=>?_))
 ·refine s_vn [] 0 ⟨[(4,vb false)],[]⟩ ?_;obtain rfl:=oi hm;exact q_rt q_rm
 ·refine q_sk (q_sq ?_);refine s_vv [] 0 [10] [(12,vi (a1.length:Int)),(13,vi 0)] ?_;obtain⟨u11,h10,hm⟩:=qE hm;refine zV (nd f61 116) 0 (by kernel_rfl) FUEL (λo=>XE) (λv st=>RetQ Tryz.prog f61 (WE v) (WD v) .ret st) u11 (q_hl (QC a1 a2 0) (BV E a1 a2 FUEL 0 u11 h10)) ?_ ?_
  ·rintro v12 rfl st hr;obtain rfl:=oi hm;exact hr
  ·rintro o9 rfl;replace hm:_=some r:=hm;refine s_vn [] 0 ⟨[(4,vb true)],[]⟩ ?_;obtain rfl:=oi hm;exact q_rt q_rm
open Go.Proofs Go.Proofs.Tryz
def qBm (r:Bool):V:=vb r
def GT (r:Bool):List (Nat×(Nat×O)):=[]
theorem qGx (r:Bool):QX (GT r):=by
 intro i k o h;unfold GT at h;cases h
def qDa (x8:Bool):St:=
 ⟨[(4,vb x8)],[]⟩
theorem CU (a1:Scan) (a2:Scan) (r:Bool) (hm:JC a1 a2=some r):CtX Tryz.prog globs 24 0 0 [.agg (qU a1),.agg (qU a2)] [] (qBm r) (GT r):=by
 unfold JC at hm;refine q_E f24 19 λE=>?_;refine s_vn [] 0 ⟨[(2,vp 0 0),(3,vp 1 0)],[(0,bx 25 (qU a1)),(1,bx 25 (qU a2))]⟩ (s_va 2 [(5,vc (.fn 58 []))] ?_);refine q_jn (qDa) (λp=>UR p=some r) ?_ ?_
 ·rintro x8 hm;obtain rfl:=oi hm;exact q_rt q_rm
 ·obtain⟨v3,h4,hm⟩:=qE hm;rcases bif_c hm with⟨b5,hm⟩|⟨b5,hm⟩
  ·obtain⟨v6,h7,hm⟩:=qE hm;exact q_vn [qc 5 [7,9,10] 2 (YY a1.Rings a2.Rings v3 h4),qf 6 b5,qk 11 [12,14,16] 2 ⟨[(12,vb true),(14,vc (tl qG dd a1.Defects)),(16,vc (tl qG dd a2.Defects))],[]⟩ (MF a1.Defects a2.Defects v6 h7)] 2 ⟨[(4,vb v6)],[]⟩ (q_J (v6) hm)
  ·exact q_vn [qc 5 [7,9,10] 2 (YY a1.Rings a2.Rings v3 h4),qf 6 b5] 2 ⟨[(4,vb false)],[]⟩ (q_J (false) hm)
def qGG (r:Int):V:=vc (.val (.int .u64 r))
def qGT (r:Int):List (Nat×(Nat×O)):=[]
theorem qFX (a1:Span) (r:Int) (hm:qAk a1=some r):CtX Tryz.prog globs 176 0 0 [.agg (qL a1)] [] (qGG r) (qGT r):=by
 unfold qAk at hm;refine q_E f176 15 λE=>?_;refine s_vn [] 0 ⟨[(1,vp 0 0)],[(0,bx 64 (qL a1))]⟩ (q_sq ?_);refine s_va 1 [(7,vb (decide (a1.A≥a1.B)))] (q_cq hm (λhm=>?_) (λhm=>?_))
 ·refine s_vn [] 1 ⟨[(2,vc (.val (.int .u64 0)))],[]⟩ ?_;obtain rfl:=oi hm;exact q_rt q_rm
 ·refine q_sk (s_vn [] 1 ⟨[(2,vc (.val (.int .u64 (IntKind.u64.wrap ((IntKind.u64.wrap (a1.B))-(IntKind.u64.wrap (a1.A)))))))],[]⟩ ?_);obtain rfl:=oi hm;exact q_rt q_rm
def qDj (r:Int):V:=vi r
def qC7 (r:Int):List (Nat×(Nat×O)):=[]
theorem qCo (a1:Int) (r:Int) (hm:FC a1=some r):CtX Tryz.prog globs 175 0 0 [.one (.val (.int .u64 a1))] [] (qDj r) (qC7 r):=by
 unfold FC at hm;refine q_E f175 6 λE=>?_;refine s_vn [] 0 ⟨[(0,vc (.val (.int .u64 a1)))],[]⟩ (s_vn [] 0 ⟨[(2,vi (w64 (imin a1 9223372036854775807)))],[]⟩ ?_);obtain rfl:=oi hm;exact q_rt q_rm
open Go.Proofs Go.Proofs.Tryz
def qHG (r:Int):V:=vi r
def qHF (r:Int):List (Nat×(Nat×O)):=[]
theorem qGK (a1:Span) (r:Int) (hm:qBA a1=some r):CtX Tryz.prog globs 144 0 0 [.agg (qL a1)] [] (qHG r) (qHF r):=by
 unfold qBA at hm;refine q_E f144 6 λE=>?_;refine s_vn [] 0 ⟨[(1,vp 0 0)],[(0,bx 64 (qL a1))]⟩ ?_;obtain⟨v2,h3,hm⟩:=qE hm;obtain⟨v4,h5,hm⟩:=qE hm;refine s_vn [qc 1 [3] 1 (qFX a1 v2 h3),qc 2 [4] 1 (qCo v2 v4 h5)] 1 ⟨[(2,vi v4)],[]⟩ ?_;obtain rfl:=oi hm;exact q_rt q_rm
def qC8 (r:Int):V:=vi r
def qDb (r:Int):List (Nat×(Nat×O)):=[]
def PF (v2:qI) (x4:Int) (x5:Int):St:=
 ⟨[(3,vi x4),(8,vc (tl qL dd v2.Rows)),(9,vi (v2.Rows.length:Int)),(10,vi x5)],[]⟩
def NK (x10:Int):St:=
 ⟨[(3,vi x10)],[]⟩
theorem qAc (E:Env 0) (v2:qI):∀(n:Nat) (x4:Int) (x5:Int) (res:Int),UQ v2 n x4 x5=some res->HL (kx E 21 0) (nd f89 116) (zQ 0 NK res) n (PF v2 x4 x5):=by
 intro n
 induction n with
 |zero=>
  intro x4 x5 res hm;cases hm
 |succ n ih=>
  intro x4 x5 res hm;refine qS (s_va 1 [(11,vb (decide (x5<(v2.Rows.length:Int))))] ?_);refine q_sq (q_cq hm (λhm=>?_) (λhm=>?_))
  ·refine q_sk (q_sq ?_);refine q_bk 1 ?_;obtain⟨g7,hm⟩:=qJ hm;refine s_vu [qi 0 g7] 1 [11] [(5,vp 1 0)] [] [(1,bx 64 (qL (v2.Rows.getD x5.toNat dd)))] ?_;obtain⟨v8,h9,hm⟩:=qE hm;refine q_vu [qc 2 [15] 2 (qGK (v2.Rows.getD x5.toNat dd) v8 h9)] 2 [3,5] [(3,vi (w64 (x4+v8)))] [1] [] (q_vv [] 2 [10] [(10,vi (w64 (x5+1)))] ?_);exact q_hl (PF v2 (w64 (x4+v8)) (w64 (x5+1))) (ih (w64 (x4+v8)) (w64 (x5+1)) _ hm)
  ·refine q_ex 0 ?_;obtain rfl:=oi hm;exact q_l0
theorem qCl (a1:qI) (r:Int) (hm:FD a1=some r):CtX Tryz.prog globs 89 0 0 [.agg (qQ a1)] [] (qC8 r) (qDb r):=by
 unfold FD at hm;refine q_E f89 21 λE=>?_;refine s_vn [] 0 ⟨[(1,vp 0 0)],[(0,bx 48 (qQ a1))]⟩ (s_va 1 [(3,vi 0)] ?_);refine q_sq ?_;obtain⟨v2,h3,hm⟩:=qE hm;refine s_vu [qc 1 [6] 1 (RB a1 v2 h3)] 1 [1] [(8,vc (tl qL dd v2.Rows)),(9,vi (v2.Rows.length:Int)),(10,vi 0)] [0] [] ?_;obtain⟨o11,h12,hm⟩:=qE hm;refine zL (nd f89 116) 0 (by kernel_rfl) FUEL NK o11 (q_hl (PF v2 0 0) (qAc E v2 FUEL 0 0 o11 h12)) (s_vn [] 1 ⟨[(2,vi (w64 (10*o11)))],[]⟩ ?_);obtain rfl:=oi hm;exact q_rt q_rm
def BL (r:Int):V:=vi r
def BJ (r:Int):List (Nat×(Nat×O)):=[]
def qBV (a1:List qV) (x4:Int) (x5:Int) (x13:Bool):St:=
 ⟨[(3,vi x4),(5,vp 0 0),(13,vc (tl qX dd a1)),(14,vi (a1.length:Int)),(15,vi x5),(39,vb x13)],[(0,bx 50 (qX (a1.getD x5.toNat dd)))]⟩
def RL (a1:List qV) (x4:Int) (x5:Int):St:=
 ⟨[(3,vi x4),(13,vc (tl qX dd a1)),(14,vi (a1.length:Int)),(15,vi x5)],[]⟩
def LP :St:=
 ⟨[],[]⟩
theorem qAP (E:Env 0) (a1:List qV):∀(n:Nat) (x4:Int) (x5:Int) (res:Int⊕Unit),WP a1 n x4 x5=some res->HL (kx E 45 0) (nd f26 500) (jP 0 (λo=>LP) (λv st=>RetQ Tryz.prog f26 (BL v) (BJ v) .ret st) res) n (RL a1 x4 x5):=by
 intro n
 induction n with
 |zero=>
  intro x4 x5 res hm;cases hm
 |succ n ih=>
  intro x4 x5 res hm;refine qS (s_va 0 [(16,vb (decide (x5<(a1.length:Int))))] ?_);refine q_sq (q_cq hm (λhm=>?_) (λhm=>?_))
  ·refine q_sk (q_sq ?_);refine q_bk 1 ?_;obtain⟨g7,hm⟩:=qJ hm;refine s_vu [qi 0 g7] 0 [16] [(5,vp 0 0)] [] [(0,bx 50 (qX (a1.getD x5.toNat dd)))] (q_sq ?_);obtain⟨v8,h9,hm⟩:=qE hm;refine s_vv [qc 2 [20] 1 (LG ((a1.getD x5.toNat dd).Sec) v8 h9)] 1 [] [(6,vi v8)] (s_va 1 [(23,vb (v8 !=0))] ?_);refine q_cq hm (λhm=>?_) (λhm=>?_)
   ·refine s_vn [] 1 ⟨[(2,vi v8)],[]⟩ ?_;obtain rfl:=oi hm;refine q_rt (zN v8 ?_);exact q_rm
   ·refine q_sk (q_sq ?_);refine s_vv [] 1 [6,23] [(29,vb ((((((a1.getD x5.toNat dd).Sec).Rows).length:Nat):Int)==0))] (q_cq hm (λhm=>?_) (λhm=>?_))
    ·refine s_vn [] 1 ⟨[(2,vi 18)],[]⟩ ?_;obtain rfl:=oi hm;refine q_rt (zN 18 ?_);exact q_rm
    ·refine q_sk (q_sq ?_);refine q_jn (qBV a1 x4 x5) (λp=>GN a1 x4 x5 (WP a1 n) p=some res) ?_ ?_
     ·rintro x13 hm;refine q_cq hm (λhm=>?_) (λhm=>?_)
      ·refine s_vn [] 1 ⟨[(2,vi 9)],[]⟩ ?_;obtain rfl:=oi hm;refine q_rt (zN 9 ?_);exact q_rm
      ·refine q_sk (q_vu [] 1 [3,5,39] [(3,vi (w64 (x4+((a1.getD x5.toNat dd).Len))))] [0] [] ?_);exact q_vv [] 1 [15] [(15,vi (w64 (x5+1)))] (q_hl (RL a1 (w64 (x4+((a1.getD x5.toNat dd).Len))) (w64 (x5+1))) (ih (w64 (x4+((a1.getD x5.toNat dd).Len))) (w64 (x5+1)) _ hm))
     ·rcases bif_c hm with⟨b12,hm⟩|⟨b12,hm⟩
      ·exact q_vv [qf 3 b12] 1 [29] [(39,vb true)] (q_J (true) hm)
      ·exact q_vv [qf 3 b12] 1 [29] [(39,vb (decide (((a1.getD x5.toNat dd).Len)>(w64 (20000-x4)))))] (q_J (decide (((a1.getD x5.toNat dd).Len)>(w64 (20000-x4)))) hm)
  ·refine q_ex 0 ?_;obtain rfl:=oi hm;exact q_l1 ()
theorem qDn (a1:List qV) (r:Int) (hm:SV a1=some r):CtX Tryz.prog globs 26 0 0 [.one (tl qX dd a1)] [] (BL r) (BJ r):=by
 unfold SV at hm;refine q_E f26 45 λE=>?_;refine s_vn [] 0 ⟨[(0,vc (tl qX dd a1))],[]⟩ (q_sq ?_);refine s_va 0 [(9,vb ((a1.length:Int)==0))] (q_cq hm (λhm=>?_) (λhm=>?_))
 ·refine s_vn [] 0 ⟨[(2,vi 3)],[]⟩ ?_;obtain rfl:=oi hm;exact q_rt q_rm
 ·refine q_sk (q_sq ?_);refine s_vv [] 0 [9] [(12,vb (decide ((a1.length:Int)>24)))] (q_cq hm (λhm=>?_) (λhm=>?_))
  ·refine s_vn [] 0 ⟨[(2,vi 4)],[]⟩ ?_;obtain rfl:=oi hm;exact q_rt q_rm
  ·refine q_sk (s_vv [] 0 [12] [(3,vi 0)] ?_);refine q_sq (s_vv [] 0 [0] [(13,vc (tl qX dd a1)),(14,vi (a1.length:Int)),(15,vi 0)] ?_);obtain⟨u17,h16,hm⟩:=qE hm;refine zV (nd f26 500) 0 (by kernel_rfl) FUEL (λo=>LP) (λv st=>RetQ Tryz.prog f26 (BL v) (BJ v) .ret st) u17 (q_hl (RL a1 0 0) (qAP E a1 FUEL 0 0 u17 h16)) ?_ ?_
   ·rintro v18 rfl st hr;obtain rfl:=oi hm;exact hr
   ·rintro o15 rfl;replace hm:_=some r:=hm;refine s_vn [] 0 ⟨[(2,vi 0)],[]⟩ ?_;obtain rfl:=oi hm;exact q_rt q_rm
open Go.Proofs Go.Proofs.Tryz
def qEI (r:(List qV)):V:=vc (tl qX dd r)
def qEx (r:(List qV)):List (Nat×(Nat×O)):=[]
theorem qDv (a1:List qV) (r:(List qV)) (hm:SC a1=some r):CtX Tryz.prog globs 63 0 0 [.one (tl qX dd a1)] [] (qEI r) (qEx r):=by
 unfold SC at hm;refine q_E f63 7 λE=>?_;refine s_vn [] 0 ⟨[(0,vc (tl qX dd a1))],[]⟩ (q_sq ?_);obtain⟨v2,h3,hm⟩:=qE hm;refine s_vv [qc 1 [3] 0 (qDn a1 v2 h3)] 0 [] [(5,vb (v2 !=0))] (q_cq hm (λhm=>?_) (λhm=>?_))
 ·refine s_vn [] 0 ⟨[(2,vc (.emp))],[]⟩ (q_fn [.own 2 0 50 3 (rf qX [])] ⟨[(2,vo 0 0 3 0)],[(0,ro 0 50 3 0 (rf qX []))]⟩ o0 ?_);refine q_fn [.len 0 (([]:List qV).length),.frz 0] ⟨[(2,vc (tl qX dd ([]:List qV)))],[]⟩ (o1 (And.intro (And.intro (show 0=([]:List qV).length from rfl) (show 0=([]:List qV).length from rfl)) (kg (([]:List qV).length)))) ?_;obtain rfl:=oi hm;exact q_rt q_rm
 ·refine q_sk (s_vn [] 0 ⟨[(2,vc (tl qX dd a1))],[]⟩ ?_);obtain rfl:=oi hm;exact q_rt q_rm
def qDB (r:Int):V:=vi r
def qDE (r:Int):List (Nat×(Nat×O)):=[]
def KY (v2:(List qV)) (x4:Int) (x5:Int):St:=
 ⟨[(3,vi x4),(7,vc (tl qX dd v2)),(8,vi (v2.length:Int)),(9,vi x5)],[]⟩
def NE (x10:Int):St:=
 ⟨[(3,vi x10)],[]⟩
theorem CG (E:Env 0) (v2:(List qV)):∀(n:Nat) (x4:Int) (x5:Int) (res:Int),UL v2 n x4 x5=some res->HL (kx E 23 0) (nd f43 116) (zQ 0 NE res) n (KY v2 x4 x5):=by
 intro n
 induction n with
 |zero=>
  intro x4 x5 res hm;cases hm
 |succ n ih=>
  intro x4 x5 res hm;refine qS (s_va 0 [(10,vb (decide (x5<(v2.length:Int))))] ?_);refine q_sq (q_cq hm (λhm=>?_) (λhm=>?_))
  ·refine q_sk (q_sq ?_);refine q_bk 1 ?_;obtain⟨g7,hm⟩:=qJ hm;refine s_vu [qi 0 g7] 0 [10] [(5,vp 0 0)] [] [(0,bx 50 (qX (v2.getD x5.toNat dd)))] ?_;obtain⟨v8,h9,hm⟩:=qE hm;refine q_du [qc 5 [17] 1 (qCl ((v2.getD x5.toNat dd).Sec) v8 h9)] [0,0,2,0,8,24,62,127,255] 1 [3,5] [(3,vi (w64 (x4+(w64 (((v2.getD x5.toNat dd).Len)*v8)))))] [0] [] (q_vv [] 1 [9] [(9,vi (w64 (x5+1)))] ?_);exact q_hl (KY v2 (w64 (x4+(w64 (((v2.getD x5.toNat dd).Len)*v8)))) (w64 (x5+1))) (ih (w64 (x4+(w64 (((v2.getD x5.toNat dd).Len)*v8)))) (w64 (x5+1)) _ hm)
  ·refine q_ex 0 ?_;obtain rfl:=oi hm;exact q_l0
theorem qC5 (a1:List qV) (r:Int) (hm:UE a1=some r):CtX Tryz.prog globs 43 0 0 [.one (tl qX dd a1)] [] (qDB r) (qDE r):=by
 unfold UE at hm;refine q_E f43 23 λE=>?_;refine s_vn [] 0 ⟨[(0,vc (tl qX dd a1))],[]⟩ (s_va 0 [(3,vi 0)] ?_);refine q_sq ?_;obtain⟨v2,h3,hm⟩:=qE hm;refine s_vv [qc 1 [6] 0 (qDv a1 v2 h3)] 0 [0] [(7,vc (tl qX dd v2)),(8,vi (v2.length:Int)),(9,vi 0)] ?_;obtain⟨o11,h12,hm⟩:=qE hm;refine zL (nd f43 116) 0 (by kernel_rfl) FUEL NE o11 (q_hl (KY v2 0 0) (CG E v2 FUEL 0 0 o11 h12)) (s_vn [] 0 ⟨[(2,vi o11)],[]⟩ ?_);obtain rfl:=oi hm;exact q_rt q_rm
def qF5 (r:Ring×Int):V:= .tup [.agg [ci r.1.Z,.own 0 0 3 r.1.Read.length],.one (ci r.2)]
def qFt (r:Ring×Int):List (Nat×(Nat×O)):=[(0,ro 0 73 3 r.1.Read.length (rf qF r.1.Read))]
def HI (a1:Ring) (a2:Ring) (v12:Ring) (x14:Int) (l21:List qB) (l21n:Nat):St:=
 ⟨[(3,vp 1 0),(4,vp 2 0),(8,vp 4 0),(41,vc (tl qF dd a1.Read)),(42,vi (a1.Read.length:Int)),(43,vi x14)],[(1,bx 45 (qK a2)),(2,bx 45 [ci 0,.emp]),(3,ro 0 73 3 l21n (rf qF l21)),(4,bx 45 [ci v12.Z,.own 3 0 3 l21n])]⟩
def TY (a1:Ring) (a2:Ring) (v12:Ring) (x14:Int) (l15:List qB) (l15n:Nat):St:=
 ⟨[(3,vp 1 0),(4,vp 2 0),(8,vp 4 0),(41,vc (tl qF dd a1.Read)),(42,vi (a1.Read.length:Int)),(43,vi x14)],[(1,bx 45 (qK a2)),(2,bx 45 [ci 0,.emp]),(3,ro 0 73 3 l15n (rf qF l15)),(4,bx 45 [ci v12.Z,.own 3 0 3 l15n])]⟩
def HK (v12:Ring) (l22:List qB):St:=
 ⟨[(4,vp 2 0),(8,vp 4 0)],[(2,bx 45 [ci 0,.emp]),(3,ro 0 73 3 l22.length (rf qF l22)),(4,bx 45 [ci v12.Z,.own 3 0 3 l22.length])]⟩
def qCO (a1:Ring) (a2:Ring) (x10:Bool):St:=
 ⟨[(2,vp 0 0),(3,vp 1 0),(4,vp 2 0),(36,vb x10)],[(0,bx 45 (qK a1)),(1,bx 45 (qK a2)),(2,bx 45 [ci 0,.emp])]⟩
theorem qBJ (E:Env 0) (a1:Ring) (a2:Ring) (v12:Ring):∀(n:Nat) (x14:Int) (l15:List qB) (l15n:Nat) (res:(List qB)),l15.length=l15n->zY a1 a2 n x14 l15=some res->HL (kx E 62 0) (nd f67 1012) (zQ 0 (λo=>HK v12 o) res) n (TY a1 a2 v12 x14 l15 l15n):=by
 intro n
 induction n with
 |zero=>
  intro x14 l15 l15n res hl0 hm;cases hm
 |succ n ih=>
  intro x14 l15 l15n res hl0 hm;subst hl0;refine qS (s_va 5 [(44,vb (decide (x14<(a1.Read.length:Int))))] ?_);refine q_sq (q_cq hm (λhm=>?_) (λhm=>?_))
  ·refine q_sk (q_jn (ι:=(List qB)×Nat) (λp=>HI a1 a2 v12 x14 p.1 p.2) (λp=>p.1.length=p.2/\JY x14 (zY a1 a2 n) p.1=some res) ?_ ?_)
   ·rintro⟨l21,l21n⟩ ⟨el21,hm⟩;replace el21:l21.length=l21n:=el21;subst el21;show H _ (HI a1 a2 v12 x14 l21 l21.length) _ _;exact q_vv [] 6 [43] [(43,vi (w64 (x14+1)))] (q_hl (TY a1 a2 v12 (w64 (x14+1)) l21 l21.length) (ih (w64 (x14+1)) l21 l21.length _ rfl hm))
   ·refine q_bk 1 ?_;obtain⟨g17,hm⟩:=qJ hm;refine s_vu [qi 1 g17] 5 [44] [(9,vi x14),(10,vp 5 0)] [] [(5,bx 73 (qF (a1.Read.getD x14.toNat dd)))] (s_vu [] 6 [10] [(50,vb (!((a1.Read.getD x14.toNat dd).Ok)))] [5] [] ?_);refine q_cq hm (λhm=>?_) (λhm=>?_)
    ·obtain⟨g19,hm⟩:=qJ hm;obtain⟨g20,hm⟩:=qJ hm;exact q_du [qi 6 g19,qi 8 g20,qd 9 (drw 0 0 (rf qF (l15.set x14.toNat (a2.Read.getD x14.toNat dd)))) (stP qF dd (a2.Read.getD x14.toNat dd) l15 l15.length x14.toNat 0 [ci (((a2.Read.getD x14.toNat dd).P).X),ci (((a2.Read.getD x14.toNat dd).P).Y),cb ((a2.Read.getD x14.toNat dd).Ok)] rfl (qZ (zG g20)) rfl)] [0,1,0,0,8,0,56,120,255,511] 6 [9,50] [] [3] [(3,ro 0 73 3 l15.length (rf qF (l15.set x14.toNat (a2.Read.getD x14.toNat dd))))] (q_J ((l15.set x14.toNat (a2.Read.getD x14.toNat dd)),l15.length) ⟨(JA rfl),hm⟩)
    ·exact q_sk (q_J (l15,l15.length) ⟨rfl,hm⟩)
  ·refine q_ex 0 ?_;obtain rfl:=oi hm;exact q_l0
theorem qEj (a1:Ring) (a2:Ring) (r:Ring×Int) (hm:yH a1 a2=some r):CtX Tryz.prog globs 67 0 0 [.agg (qK a1),.agg (qK a2)] [] (qF5 r) (qFt r):=by
 unfold yH at hm;refine q_E f67 62 λE=>?_;refine s_vn [] 0 ⟨[(2,vp 0 0),(3,vp 1 0),(4,vp 2 0)],[(0,bx 45 (qK a1)),(1,bx 45 (qK a2)),(2,bx 45 [ci 0,.emp])]⟩ (q_sq ?_);obtain⟨v3,h4,hm⟩:=qE hm;refine s_vv [qc 1 [11] 3 (YE a1 v3 h4)] 3 [] [(6,vi v3)] (s_va 3 [(14,vb (v3 !=0))] ?_);refine q_cq hm (λhm=>?_) (λhm=>?_)
 ·refine s_vu [] 3 [2,3,6,14] [(5,vi v3)] [0,1] [] (q_fu [.ownB 2 1 3 73 3 (rf qF [])] [] [] [2] [(2,bx 45 [ci 0,.own 3 0 3 0]),(3,ro 0 73 3 0 (rf qF []))] o0 ?_);refine q_fu [.len 3 (([]:List qB).length)] [] [] [2,3] [(2,bx 45 [ci 0,.own 3 0 3 (([]:List qB).length)]),(3,ro 0 73 3 (([]:List qB).length) (rf qF []))] (o1 (And.intro (show 0=([]:List qB).length from rfl) (show 0=([]:List qB).length from rfl))) ?_;obtain rfl:=oi hm;exact q_sw 3 0 (q_rt q_rm)
 ·refine q_sk (q_sq ?_);obtain⟨v6,h7,hm⟩:=qE hm;refine s_vv [qc 1 [17] 3 (YE a2 v6 h7)] 3 [6,14] [(7,vi v6)] (s_va 3 [(20,vb (v6 !=0))] ?_);refine q_cq hm (λhm=>?_) (λhm=>?_)
  ·refine s_vu [] 3 [2,3,7,20] [(5,vi v6)] [0,1] [] (q_fu [.ownB 2 1 3 73 3 (rf qF [])] [] [] [2] [(2,bx 45 [ci 0,.own 3 0 3 0]),(3,ro 0 73 3 0 (rf qF []))] o0 ?_);refine q_fu [.len 3 (([]:List qB).length)] [] [] [2,3] [(2,bx 45 [ci 0,.own 3 0 3 (([]:List qB).length)]),(3,ro 0 73 3 (([]:List qB).length) (rf qF []))] (o1 (And.intro (show 0=([]:List qB).length from rfl) (show 0=([]:List qB).length from rfl))) ?_;obtain rfl:=oi hm;exact q_sw 3 0 (q_rt q_rm)
  ·refine q_sk (q_sq ?_);refine q_jn (qCO a1 a2) (λp=>ZI a1 a2 p=some r) ?_ ?_
   ·rintro x10 hm;refine q_cq hm (λhm=>?_) (λhm=>?_)
    ·refine s_vu [] 3 [2,3,36] [(5,vi 19)] [0,1] [] (q_fu [.ownB 2 1 3 73 3 (rf qF [])] [] [] [2] [(2,bx 45 [ci 0,.own 3 0 3 0]),(3,ro 0 73 3 0 (rf qF []))] o0 ?_);refine q_fu [.len 3 (([]:List qB).length)] [] [] [2,3] [(2,bx 45 [ci 0,.own 3 0 3 (([]:List qB).length)]),(3,ro 0 73 3 (([]:List qB).length) (rf qF []))] (o1 (And.intro (show 0=([]:List qB).length from rfl) (show 0=([]:List qB).length from rfl))) ?_;obtain rfl:=oi hm;exact q_sw 3 0 (q_rt q_rm)
    ·refine q_sk ?_;obtain⟨v12,h13,hm⟩:=qE hm;refine s_vu [qc 1 [38] 3 (OJ a1 v12 h13)] 3 [36] [(8,vp 4 0)] [] [(3,ro 0 73 3 v12.Read.length (rf qF v12.Read)),(4,bx 45 [ci v12.Z,.own 3 0 3 v12.Read.length])] (q_sq ?_);refine s_vu [] 5 [2] [(41,vc (tl qF dd a1.Read)),(42,vi (a1.Read.length:Int)),(43,vi 0)] [0] [] ?_;obtain⟨o23,h24,hm⟩:=qE hm
     refine zL (nd f67 1012) 0 (by kernel_rfl) FUEL (λo=>HK v12 o) o23 (q_hl (TY a1 a2 v12 0 v12.Read v12.Read.length) (qBJ E a1 a2 v12 FUEL 0 v12.Read v12.Read.length o23 rfl h24)) (s_vu [] 5 [8] [(5,vi 0)] [2,4] [(2,bx 45 [ci v12.Z,.own 3 0 3 o23.length])] ?_);obtain rfl:=oi hm;exact q_sw 3 0 (q_rt q_rm)
   ·rcases bif_c hm with⟨b9,hm⟩|⟨b9,hm⟩
    ·exact q_vv [qf 5 b9] 3 [7,20] [(36,vb true)] (q_J (true) hm)
    ·exact q_vv [qf 5 b9] 3 [7,20] [(36,vb ((a1.Read.length:Int) !=(a2.Read.length:Int)))] (q_J ((a1.Read.length:Int) !=(a2.Read.length:Int)) hm)
end Saw
end Go.SL

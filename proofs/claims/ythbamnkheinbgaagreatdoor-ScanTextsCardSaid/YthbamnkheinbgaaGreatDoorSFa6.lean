import Derived.Test.YthbamnkheinbgaaGreatDoorSBase
import Derived.Test.YthbamnkheinbgaaGreatDoorSFa5
import Derived.Test.YthbamnkheinbgaaGreatDoorSFa4
import Derived.Test.YthbamnkheinbgaaGreatDoorSFa3
set_option linter.unusedVariables false
set_option linter.unusedSimpArgs false
namespace Go.SL
namespace Saw
open Go.Proofs Go.Proofs.Tryz
set_option maxHeartbeats 4000000
set_option maxRecDepth 100000
def MB (r:Scan×Bool):V:= .tup [.agg [.own 0 0 2 r.1.Rings.length,.own 1 0 7 r.1.Defects.length],.one (cb r.2)]
def MQ (r:Scan×Bool):List (Nat×(Nat×O)):=[(0,ro 0 45 2 r.1.Rings.length (rf qM r.1.Rings)),(1,ro 0 68 7 r.1.Defects.length (rf qL r.1.Defects))]
def RH :St:=
 ⟨[(2,vp 0 0),(4,vp 2 0),(5,vc (.fn 108 [.bptr 2 0 0])),(6,vp 3 0)],[(0,bx 25 [.emp,.emp]),(2,bx 129 [.bptr 1 0 0])]⟩
def VV (v2:qF) (v4:(List Int)×Int×Int) (x6:Int) (l7:List Ring) (l7n:Nat) (x8:Int) (x9:Int):St:=
 (RH).up [] [(17,vo 4 0 1 v4.1.length),(18,vi (v4.1.length:Int)),(19,vi x6)] [] [(1,bx 172 [cs v2.s,ci x8,ci x9]),(3,bx 25 [.own 5 0 2 l7n,.emp]),(4,ro 0 3 1 v4.1.length (rf qH v4.1)),(5,ro 0 45 2 l7n (rf qM l7))]
def ST (l18:List Ring) (x19:qF):St:=
 (RH).up [] [] [] [(1,bx 172 (qO x19)),(3,bx 25 [.own 5 0 2 l18.length,.emp]),(5,ro 0 45 2 l18.length (rf qM l18))]
def qEC (o20:(List Ring)×qF) (v26:(List qG)×Bool) (x31:Bool):St:=
 (RH).up [4,5] [(11,vo 7 0 7 v26.1.length),(53,vb x31)] [2] [(3,bx 25 [.own 5 0 2 o20.1.length,.emp]),(5,ro 0 45 2 o20.1.length (rf qM o20.1)),(7,ro 0 68 7 v26.1.length (rf qL v26.1))]
theorem qCT (E:Env 0) (v2:qF) (v4:(List Int)×Int×Int):∀(n:Nat) (x6:Int) (l7:List Ring) (l7n:Nat) (x8:Int) (x9:Int) (res:(Scan×Bool)⊕((List Ring)×qF)),l7.length=l7n->ZX v2 v4 n x6 l7 x8 x9=some res->HL (kx E 58 0) (nd f54 500) (zY 0 (λo=>ST o.1 o.2) (λv st=>RetQ Tryz.prog f54 (MB v) (MQ v) .ret st) res) n (VV v2 v4 x6 l7 l7n x8 x9):=by
 intro n
 induction n with
 |zero=>
  intro x6 l7 l7n x8 x9 res hl0 hm;cases hm
 |succ n ih=>
  intro x6 l7 l7n x8 x9 res hl0 hm;subst hl0;refine qS (s_va 6 [(20,vb (decide (x6<(v4.1.length:Int))))] ?_);refine q_sq (q_cq hm (λhm=>?_) (λhm=>?_))
  ·refine q_sk (q_sq ?_);refine q_bk 1 ?_;obtain⟨g11,hm⟩:=qJ hm;refine s_vv [qi 0 g11,qd 1 dN (toNat_lt (zD g11))] 6 [20] [(8,vi (v4.1.getD x6.toNat dd))] ?_;obtain⟨v12,h13,hm⟩:=qD hm;obtain⟨v14,h15,hm⟩:=qD hm
   refine s_vu [qd 1 (dex (cen [(2,0),(1,0)] [0,0] 4 2 (PC 96 (qF.mk v2.s x8 x9) v12) (PP 96 (qF.mk v2.s x8 x9) v12) [24] [2,1])) (zF (K:=(kx E 58 0)) ⟨[(24,vc (.fn 108 [.bptr 2 0 0]))],[(2,bx 129 [.bptr 1 0 0]),(1,bx 172 [cs v2.s,ci x8,ci x9])]⟩ (opAt (rg f54 32050) 1) [(2,0),(1,0)] [0,0] 4 o0 rfl (VW 96 (qF.mk v2.s x8 x9) v12 h13) (.inl rfl) (by kernel_rfl)),qd 2 (dex (cen [] [] 7 0 (WV v14) (jX v14) [25] [6])) (zF (K:=(kx E 58 0)) (b:=false) ⟨[(25,vo 6 0 1 v12.1.length)],[(6,ro 0 3 1 v12.1.length (rf qH v12.1))]⟩ (opAt (rg f54 32050) 2) [] [] 7 (o1 (ko v12.1.length)) rfl (qA6 v12.1 v14 h15) (.inr ⟨(by kernel_rfl),qBZ v14⟩) (by kernel_rfl))] 6 [] [(9,vo 7 0 3 v14.1.length),(10,vb v14.2)] [1] [(1,bx 172 [cs ((qF.mk v2.s x8 x9).s),ci v12.2.1,ci v12.2.2]),(7,ro 0 73 3 v14.1.length (rf qE v14.1))] ?_
   refine q_sq (s_vv [] 8 [10] [(30,vb (!v14.2))] ?_);refine q_cq hm (λhm=>?_) (λhm=>?_)
   ·refine s_vn [] 8 ⟨[(2,vp 0 0),(3,vb false)],[(0,bx 25 [.emp,.emp])]⟩ (q_fu [.ownB 0 0 8 45 2 (rf qM [])] [] [] [0] [(0,bx 25 [.own 8 0 2 0,.emp]),(8,ro 0 45 2 0 (rf qM []))] o0 ?_);refine q_fu [.ownB 0 1 9 68 7 (rf qL [])] [] [] [0] [(0,bx 25 [.own 8 0 2 0,.own 9 0 7 0]),(9,ro 0 68 7 0 (rf qL []))] o0 (q_fu [.len 8 (([]:List Ring).length)] [] [] [0,8] [(0,bx 25 [.own 8 0 2 (([]:List Ring).length),.own 9 0 7 0]),(8,ro 0 45 2 (([]:List Ring).length) (rf qM []))] (o1 (And.intro (show 0=([]:List Ring).length from rfl) (show 0=([]:List Ring).length from rfl))) ?_)
    refine q_fu [.len 9 (([]:List qG).length)] [] [] [0,9] [(0,bx 25 [.own 8 0 2 (([]:List Ring).length),.own 9 0 7 (([]:List qG).length)]),(9,ro 0 68 7 (([]:List qG).length) (rf qL []))] (o1 (And.intro (show 0=([]:List qG).length from rfl) (show 0=([]:List qG).length from rfl))) ?_;obtain rfl:=oi hm;refine q_sw 8 0 (q_sw 9 1 ?_);refine q_rt (qX ((Scan.mk ([]:List Ring) ([]:List qG)),false) ?_);exact q_rm
   ·refine q_sk ?_;obtain⟨g17,hm⟩:=qJ hm
    refine q_vu [qd 5 (dpr [.frz 7] (drw 8 0 (rf qM [(Ring.mk (v4.1.getD x6.toNat dd) v14.1)]))) (And.intro (ko v14.1.length) (And.intro (ko v14.1.length) (ko v14.1.length))),qd 5 dN (litP qM dd 2 (λ_=>rfl) ([(Ring.mk (v4.1.getD x6.toNat dd) v14.1)]:List Ring) 1 rfl),qd 6 (drw 5 1 (rf qM (l7++[(Ring.mk (v4.1.getD x6.toNat dd) v14.1)]))) (apP qM dd l7 ([(Ring.mk (v4.1.getD x6.toNat dd) v14.1)]:List Ring) l7.length 1 2 32 (1<=1) (ko _) rfl rfl (λ_=>rfl) (zK g17))] 8 [8,9,30] [] [3,5,7] [(3,bx 25 [.own 5 1 2 (l7.length+1),.emp]),(5,ro 1 45 2 (l7.length+1) (rf qM (l7++[(Ring.mk (v4.1.getD x6.toNat dd) v14.1)])))] (q_vv [] 9 [19] [(19,vi (w64 (x6+1)))] ?_)
    exact q_hl (VV v2 v4 (w64 (x6+1)) (l7++[(Ring.mk (v4.1.getD x6.toNat dd) v14.1)]) (l7.length+1) v12.2.1 v12.2.2) (ih (w64 (x6+1)) (l7++[(Ring.mk (v4.1.getD x6.toNat dd) v14.1)]) (l7.length+1) v12.2.1 v12.2.2 _ (zO rfl rfl) hm)
  ·refine q_ex 0 ?_;obtain rfl:=oi hm;exact qGW (l7,(qF.mk v2.s x8 x9)) (by kernel_rfl) (by kernel_rfl)
theorem qGi (a1:ByteArray) (r:Scan×Bool) (hm:VM a1=some r):CtX Tryz.prog globs 54 0 0 [.one (cs a1)] [] (MB r) (MQ r):=by
 unfold VM at hm;refine q_E f54 58 λE=>?_;refine s_vn [] 0 ⟨[(0,vc (cs a1)),(2,vp 0 0)],[(0,bx 25 [.emp,.emp])]⟩ ?_;obtain⟨v2,h3,hm⟩:=qD hm;refine s_vu [qc 1 [13] 1 (qBR a1 v2 h3)] 1 [0] [(4,vp 2 0)] [] [(1,bx 172 (qO v2)),(2,bx 129 [.bptr 1 0 0])] (s_va 3 [(5,vc (.fn 108 [.bptr 2 0 0]))] ?_);refine s_vu [] 3 [] [(6,vp 3 0)] [] [(3,bx 25 [.emp,.emp])] (q_sq ?_);obtain⟨v4,h5,hm⟩:=qD hm
 refine s_vu [qd 1 (dex (cen [(2,0),(1,0)] [0,0] 2 2 (PC 24 v2 v4) (PP 24 v2 v4) [16] [2,1])) (zF (K:=(kx E 58 0)) ⟨[(16,vc (.fn 108 [.bptr 2 0 0]))],[(2,bx 129 [.bptr 1 0 0]),(1,bx 172 (qO v2))]⟩ (opAt (rg f54 124) 1) [(2,0),(1,0)] [0,0] 2 o0 rfl (VW 24 v2 v4 h5) (.inl rfl) (by kernel_rfl))] 4 [] [(17,vo 4 0 1 v4.1.length),(18,vi (v4.1.length:Int)),(19,vi 0)] [1] [(1,bx 172 [cs v2.s,ci v4.2.1,ci v4.2.2]),(4,ro 0 3 1 v4.1.length (rf qH v4.1))] (q_fu [.ownB 3 0 5 45 2 (rf qM [])] [] [] [3] [(3,bx 25 [.own 5 0 2 0,.emp]),(5,ro 0 45 2 0 (rf qM []))] o0 ?_);obtain⟨u22,h21,hm⟩:=qD hm
 refine zI (nd f54 500) 0 (by kernel_rfl) FUEL (λo=>ST o.1 o.2) (λv st=>RetQ Tryz.prog f54 (MB v) (MQ v) .ret st) u22 (q_hl (VV v2 v4 0 ([]:List Ring) 0 v4.2.1 v4.2.2) (qCT E v2 v4 FUEL 0 ([]:List Ring) 0 v4.2.1 v4.2.2 u22 rfl h21)) ?_ ?_
 ·rintro v23 rfl st hr;obtain rfl:=oi hm;exact hr
 ·rintro o20 rfl;replace hm:_=some r:=hm;obtain⟨v24,h25,hm⟩:=qD hm;obtain⟨v26,h27,hm⟩:=qD hm
  refine s_vu [qd 1 (dex (cen [(2,0),(1,0)] [0,0] 4 2 (PC 448 o20.2 v24) (PP 448 o20.2 v24) [42] [2,1])) (zF (K:=(kx E 58 0)) ⟨[(42,vc (.fn 108 [.bptr 2 0 0]))],[(2,bx 129 [.bptr 1 0 0]),(1,bx 172 (qO o20.2))]⟩ (opAt (rg f54 126) 1) [(2,0),(1,0)] [0,0] 4 o0 rfl (VW 448 o20.2 v24 h25) (.inl rfl) (by kernel_rfl)),qd 2 (dex (cen [] [] 7 0 (MW v26) (YI v26) [43] [6])) (zF (K:=(kx E 58 0)) (b:=false) ⟨[(43,vo 6 0 1 v24.1.length)],[(6,ro 0 3 1 v24.1.length (rf qH v24.1))]⟩ (opAt (rg f54 126) 2) [] [] 7 (o1 (ko v24.1.length)) rfl (qBK v24.1 v26 h27) (.inr ⟨(by kernel_rfl),qDj v26⟩) (by kernel_rfl))] 6 [5] [(11,vo 7 0 7 v26.1.length),(12,vb v26.2)] [1] [(1,bx 172 [cs o20.2.s,ci v24.2.1,ci v24.2.2]),(7,ro 0 68 7 v26.1.length (rf qL v26.1))] ?_
  refine q_sq (q_jn (qEC o20 v26) (λp=>FB o20 v26 p=some r) ?_ ?_)
  ·rintro x31 hm;refine q_cq hm (λhm=>?_) (λhm=>?_)
   ·refine s_vu [] 8 [6,11,53] [(3,vb false)] [3,5,7] [] (q_fu [.ownB 0 0 8 45 2 (rf qM [])] [] [] [0] [(0,bx 25 [.own 8 0 2 0,.emp]),(8,ro 0 45 2 0 (rf qM []))] o0 ?_);refine q_fu [.ownB 0 1 9 68 7 (rf qL [])] [] [] [0] [(0,bx 25 [.own 8 0 2 0,.own 9 0 7 0]),(9,ro 0 68 7 0 (rf qL []))] o0 (q_fu [.len 8 (([]:List Ring).length)] [] [] [0,8] [(0,bx 25 [.own 8 0 2 (([]:List Ring).length),.own 9 0 7 0]),(8,ro 0 45 2 (([]:List Ring).length) (rf qM []))] (o1 (And.intro (show 0=([]:List Ring).length from rfl) (show 0=([]:List Ring).length from rfl))) ?_)
    refine q_fu [.len 9 (([]:List qG).length)] [] [] [0,9] [(0,bx 25 [.own 8 0 2 (([]:List Ring).length),.own 9 0 7 (([]:List qG).length)]),(9,ro 0 68 7 (([]:List qG).length) (rf qL []))] (o1 (And.intro (show 0=([]:List qG).length from rfl) (show 0=([]:List qG).length from rfl))) ?_;obtain rfl:=oi hm;refine q_sw 8 0 (q_sw 9 1 ?_);exact q_rt q_rm
   ·refine q_sk (s_vu [] 8 [11,53] [] [3] [(3,bx 25 [.own 5 0 2 o20.1.length,.own 7 0 7 v26.1.length])] ?_);refine s_vu [] 8 [6] [(3,vb true)] [0,3] [(0,bx 25 [.own 5 0 2 o20.1.length,.own 7 0 7 v26.1.length])] ?_;obtain rfl:=oi hm;refine q_sw 5 0 (q_sw 7 1 ?_);exact q_rt q_rm
  ·rcases bif_c hm with⟨b28,hm⟩|⟨b28,hm⟩
   ·exact q_vu [qf 2 b28] 8 [4,12] [(53,vb true)] [1,2] [] (q_J (true) hm)
   ·obtain⟨v29,h30,hm⟩:=qD hm;exact q_vu [qf 2 b28,qd 4 (dex (cen [(1,0)] [0] 7 1 (FO (qF.mk o20.2.s v24.2.1 v24.2.2) v29) (FN (qF.mk o20.2.s v24.2.1 v24.2.2) v29) [49,50] [1])) (zF (K:=(kx E 58 0)) ⟨[(49,vb false),(50,vp 1 0)],[(1,bx 172 [cs o20.2.s,ci v24.2.1,ci v24.2.2])]⟩ (opAt (rg f54 508) 4) [(1,0)] [0] 7 o0 rfl (qBd (qF.mk o20.2.s v24.2.1 v24.2.2) v29 h30) (.inl rfl) (by kernel_rfl))] 8 [4,12] [(53,vb (v29 !=0))] [1,2] [] (q_J (v29 !=0) hm)
def qGP (r:Scan×Int):V:= .tup [.agg [.own 0 0 2 r.1.Rings.length,.own 1 0 7 r.1.Defects.length],.one (ci r.2)]
def qGl (r:Scan×Int):List (Nat×(Nat×O)):=[(0,ro 0 45 2 r.1.Rings.length (rf qM r.1.Rings)),(1,ro 0 68 7 r.1.Defects.length (rf qL r.1.Defects))]
theorem zbQ (a1:ByteArray) (r:Scan×Int) (hm:yM a1=some r):CtX Tryz.prog globs 21 0 0 [.one (cs a1)] [] (qGP r) (qGl r):=by
 unfold yM at hm;refine q_E f21 22 λE=>?_;refine s_vn [] 0 ⟨[(0,vc (cs a1)),(2,vp 0 0)],[(0,bx 25 [.emp,.emp])]⟩ ?_;obtain⟨v2,h3,hm⟩:=qD hm;refine s_vu [qc 1 [8] 1 (qGi a1 v2 h3)] 1 [0] [(4,vp 3 0),(5,vb v2.2)] [] [(1,ro 0 45 2 v2.1.Rings.length (rf qM v2.1.Rings)),(2,ro 0 68 7 v2.1.Defects.length (rf qL v2.1.Defects)),(3,bx 25 [.own 1 0 2 v2.1.Rings.length,.own 2 0 7 v2.1.Defects.length])] (q_sq ?_);refine s_vv [] 4 [5] [(13,vb (!v2.2))] (q_cq hm (λhm=>?_) (λhm=>?_))
 ·refine s_vu [] 4 [4,13] [(3,vi 5)] [1,2,3] [] (q_fu [.ownB 0 0 4 45 2 (rf qM [])] [] [] [0] [(0,bx 25 [.own 4 0 2 0,.emp]),(4,ro 0 45 2 0 (rf qM []))] o0 ?_);refine q_fu [.ownB 0 1 5 68 7 (rf qL [])] [] [] [0] [(0,bx 25 [.own 4 0 2 0,.own 5 0 7 0]),(5,ro 0 68 7 0 (rf qL []))] o0 (q_fu [.len 4 (([]:List Ring).length)] [] [] [0,4] [(0,bx 25 [.own 4 0 2 (([]:List Ring).length),.own 5 0 7 0]),(4,ro 0 45 2 (([]:List Ring).length) (rf qM []))] (o1 (And.intro (show 0=([]:List Ring).length from rfl) (show 0=([]:List Ring).length from rfl))) ?_)
  refine q_fu [.len 5 (([]:List qG).length)] [] [] [0,5] [(0,bx 25 [.own 4 0 2 (([]:List Ring).length),.own 5 0 7 (([]:List qG).length)]),(5,ro 0 68 7 (([]:List qG).length) (rf qL []))] (o1 (And.intro (show 0=([]:List qG).length from rfl) (show 0=([]:List qG).length from rfl))) ?_;obtain rfl:=oi hm;refine q_sw 4 0 (q_sw 5 1 ?_);exact q_rt q_rm
 ·refine q_sk (q_sq ?_);obtain⟨v5,h6,hm⟩:=qD hm;refine s_vv [qd 1 (dex (cen [] [] 4 0 (JL v5) (yN v5) [15] [1,2])) (zF (K:=(kx E 22 0)) (b:=false) ⟨[(15,va [.own 1 0 2 v2.1.Rings.length,.own 2 0 7 v2.1.Defects.length])],[(1,ro 0 45 2 v2.1.Rings.length (rf qM v2.1.Rings)),(2,ro 0 68 7 v2.1.Defects.length (rf qL v2.1.Defects))]⟩ (opAt (rg f21 60) 1) [] [] 4 (o1 (And.intro (ko v2.1.Rings.length) (ko v2.1.Defects.length))) rfl (TD (Scan.mk v2.1.Rings v2.1.Defects) v5 h6) (.inr ⟨(by kernel_rfl),qHu v5⟩) (by kernel_rfl))] 4 [13] [(6,vi v5)] (s_va 4 [(18,vb (v5 !=0))] ?_)
  refine q_cq hm (λhm=>?_) (λhm=>?_)
  ·refine s_vu [] 4 [4,6,18] [(3,vi v5)] [1,2,3] [] (q_fu [.ownB 0 0 4 45 2 (rf qM [])] [] [] [0] [(0,bx 25 [.own 4 0 2 0,.emp]),(4,ro 0 45 2 0 (rf qM []))] o0 ?_);refine q_fu [.ownB 0 1 5 68 7 (rf qL [])] [] [] [0] [(0,bx 25 [.own 4 0 2 0,.own 5 0 7 0]),(5,ro 0 68 7 0 (rf qL []))] o0 (q_fu [.len 4 (([]:List Ring).length)] [] [] [0,4] [(0,bx 25 [.own 4 0 2 (([]:List Ring).length),.own 5 0 7 0]),(4,ro 0 45 2 (([]:List Ring).length) (rf qM []))] (o1 (And.intro (show 0=([]:List Ring).length from rfl) (show 0=([]:List Ring).length from rfl))) ?_)
   refine q_fu [.len 5 (([]:List qG).length)] [] [] [0,5] [(0,bx 25 [.own 4 0 2 (([]:List Ring).length),.own 5 0 7 (([]:List qG).length)]),(5,ro 0 68 7 (([]:List qG).length) (rf qL []))] (o1 (And.intro (show 0=([]:List qG).length from rfl) (show 0=([]:List qG).length from rfl))) ?_;obtain rfl:=oi hm;refine q_sw 4 0 (q_sw 5 1 ?_);exact q_rt q_rm
  ·refine q_sk (s_vu [] 4 [4,6,18] [(3,vi 0)] [0,3] [(0,bx 25 [.own 1 0 2 v2.1.Rings.length,.own 2 0 7 v2.1.Defects.length])] ?_);obtain rfl:=oi hm;refine q_sw 1 0 (q_sw 2 1 ?_);exact q_rt q_rm
def ZN (r:Bool):V:=vb r
def ZO (r:Bool):List (Nat×(Nat×O)):=[]
def QC (a1:List qB) (a2:List qB) (x4:Int):St:=
 ⟨[(0,vc (tl qE dd a1)),(1,vc (tl qE dd a2)),(12,vi (a1.length:Int)),(13,vi x4)],[]⟩
def YR :St:=
 ⟨[],[]⟩
theorem NA (E:Env 0) (a1:List qB) (a2:List qB):∀(n:Nat) (x4:Int) (res:Bool⊕Unit),ZI a1 a2 n x4=some res->HL (kx E 26 0) (nd f59 116) (zY 0 (λo=>YR) (λv st=>RetQ Tryz.prog f59 (ZN v) (ZO v) .ret st) res) n (QC a1 a2 x4):=by
 intro n
 induction n with
 |zero=>
  intro x4 res hm;cases hm
 |succ n ih=>
  intro x4 res hm;refine qS (s_va 0 [(14,vb (decide (x4<(a1.length:Int))))] ?_);refine q_sq (q_cq hm (λhm=>?_) (λhm=>?_))
  ·refine q_sk (q_sq ?_);refine q_bk 1 (s_vv [] 0 [14] [(5,vi x4)] ?_);obtain⟨g6,hm⟩:=qJ hm;obtain⟨g7,hm⟩:=qJ hm;refine s_du [qi 2 g6,qi 6 g7] [0,0,3,7,0,0,48,112,255] 0 [5] [(24,vb (!((((((a1.getD x4.toNat dd).P).X)==(((a2.getD x4.toNat dd).P).X))&&(((((a1.getD x4.toNat dd).P).Y)==(((a2.getD x4.toNat dd).P).Y))&&true))&&((((a1.getD x4.toNat dd).Ok)==((a2.getD x4.toNat dd).Ok))&&true))))] [] [] (q_cq hm (λhm=>?_) (λhm=>?_))
   ·refine s_vn [] 0 ⟨[(4,vb false)],[]⟩ ?_;obtain rfl:=oi hm;refine q_rt (qX false ?_);exact q_rm
   ·refine q_sk (q_vv [] 0 [13,24] [(13,vi (w64 (x4+1)))] ?_);exact q_hl (QC a1 a2 (w64 (x4+1))) (ih (w64 (x4+1)) _ hm)
  ·refine q_ex 0 ?_;obtain rfl:=oi hm;exact q_l1 ()
theorem LV (a1:List qB) (a2:List qB) (r:Bool) (hm:JC a1 a2=some r):CtX Tryz.prog globs 59 0 0 [.one (tl qE dd a1),.one (tl qE dd a2)] [] (ZN r) (ZO r):=by
 unfold JC at hm;refine q_E f59 26 λE=>?_;refine s_vn [] 0 ⟨[(0,vc (tl qE dd a1)),(1,vc (tl qE dd a2))],[]⟩ (q_sq ?_);refine s_va 0 [(10,vb ((a1.length:Int) !=(a2.length:Int)))] (q_cq hm (λhm=>?_) (λhm=>?_))
 ·refine s_vn [] 0 ⟨[(4,vb false)],[]⟩ ?_;obtain rfl:=oi hm;exact q_rt q_rm
 ·refine q_sk (q_sq ?_);refine s_vv [] 0 [10] [(12,vi (a1.length:Int)),(13,vi 0)] ?_;obtain⟨u11,h10,hm⟩:=qD hm;refine zI (nd f59 116) 0 (by kernel_rfl) FUEL (λo=>YR) (λv st=>RetQ Tryz.prog f59 (ZN v) (ZO v) .ret st) u11 (q_hl (QC a1 a2 0) (NA E a1 a2 FUEL 0 u11 h10)) ?_ ?_
  ·rintro v12 rfl st hr;obtain rfl:=oi hm;exact hr
  ·rintro o9 rfl;replace hm:_=some r:=hm;refine s_vn [] 0 ⟨[(4,vb true)],[]⟩ ?_;obtain rfl:=oi hm;exact q_rt q_rm
open Go.Proofs Go.Proofs.Tryz
def qGs (r:Bool):V:=vb r
def qGh (r:Bool):List (Nat×(Nat×O)):=[]
def qDn (x6:Bool):St:=
 ⟨[(4,vb x6)],[]⟩
theorem qEI (a1:Ring) (a2:Ring) (r:Bool) (hm:AQ a1 a2=some r):CtX Tryz.prog globs 58 0 0 [.agg (qM a1),.agg (qM a2)] [] (qGs r) (qGh r):=by
 unfold AQ at hm;refine q_E f58 17 λE=>?_;refine s_vn [] 0 ⟨[(2,vp 0 0),(3,vp 1 0)],[(0,bx 45 (qM a1)),(1,bx 45 (qM a2))]⟩ (q_jn (qDn) (λp=>DE p=some r) ?_ ?_)
 ·rintro x6 hm;obtain rfl:=oi hm;exact q_rt q_rm
 ·rcases bif_c hm with⟨b3,hm⟩|⟨b3,hm⟩
  ·obtain⟨v4,h5,hm⟩:=qD hm;exact q_vn [qf 5 b3,qk 10 [10,12,14] 2 ⟨[(10,vb true),(12,vc (tl qE dd a1.Read)),(14,vc (tl qE dd a2.Read))],[]⟩ (LV a1.Read a2.Read v4 h5)] 2 ⟨[(4,vb v4)],[]⟩ (q_J (v4) hm)
  ·exact q_vn [qf 5 b3] 2 ⟨[(4,vb false)],[]⟩ (q_J (false) hm)
def QY (r:Bool):V:=vb r
def ZG (r:Bool):List (Nat×(Nat×O)):=[]
def yO (a1:List Ring) (a2:List Ring) (x4:Int):St:=
 ⟨[(1,vc (tl qM dd a2)),(2,vc (.fn 58 [])),(15,vc (tl qM dd a1)),(16,vi (a1.length:Int)),(17,vi x4)],[]⟩
def JV :St:=
 ⟨[],[]⟩
theorem DU (E:Env 0) (a1:List Ring) (a2:List Ring):∀(n:Nat) (x4:Int) (res:Bool⊕Unit),QO a1 a2 n x4=some res->HL (kx E 32 0) (nd f60 116) (zY 0 (λo=>JV) (λv st=>RetQ Tryz.prog f60 (QY v) (ZG v) .ret st) res) n (yO a1 a2 x4):=by
 intro n
 induction n with
 |zero=>
  intro x4 res hm;cases hm
 |succ n ih=>
  intro x4 res hm;refine qS (s_va 0 [(18,vb (decide (x4<(a1.length:Int))))] ?_);refine q_sq (q_cq hm (λhm=>?_) (λhm=>?_))
  ·refine q_sk (q_sq ?_);refine q_bk 1 ?_;obtain⟨g6,hm⟩:=qJ hm;refine s_vu [qi 1 g6] 0 [18] [(7,vi x4),(8,vp 0 0)] [] [(0,bx 45 (qM (a1.getD x4.toNat dd)))] ?_;obtain⟨g7,hm⟩:=qJ hm;refine s_vu [qi 2 g7] 1 [7] [(9,vp 1 0)] [] [(1,bx 45 (qM (a2.getD x4.toNat dd)))] ?_;obtain⟨v8,h9,hm⟩:=qD hm
   refine s_vu [qk 3 [26,27,28] 2 ⟨[(26,vc (.fn 58 [])),(27,va [ci ((a1.getD x4.toNat dd).Z),tl qE dd ((a1.getD x4.toNat dd).Read)]),(28,va [ci ((a2.getD x4.toNat dd).Z),tl qE dd ((a2.getD x4.toNat dd).Read)])],[]⟩ (qEI (a1.getD x4.toNat dd) (a2.getD x4.toNat dd) v8 h9)] 2 [8,9] [(30,vb (!v8))] [0,1] [] (q_cq hm (λhm=>?_) (λhm=>?_))
   ·refine s_vn [] 2 ⟨[(6,vb false)],[]⟩ ?_;obtain rfl:=oi hm;refine q_rt (qX false ?_);exact q_rm
   ·refine q_sk (q_vv [] 2 [17,30] [(17,vi (w64 (x4+1)))] ?_);exact q_hl (yO a1 a2 (w64 (x4+1))) (ih (w64 (x4+1)) _ hm)
  ·refine q_ex 0 ?_;obtain rfl:=oi hm;exact q_l1 ()
theorem XZ (a1:List Ring) (a2:List Ring) (r:Bool) (hm:WR a1 a2=some r):CtX Tryz.prog globs 60 0 0 [.one (tl qM dd a1),.one (tl qM dd a2),.one (.fn 58 [])] [] (QY r) (ZG r):=by
 unfold WR at hm;refine q_E f60 32 λE=>?_;refine s_vn [] 0 ⟨[(0,vc (tl qM dd a1)),(1,vc (tl qM dd a2)),(2,vc (.fn 58 []))],[]⟩ (q_sq ?_);refine s_va 0 [(14,vb ((a1.length:Int) !=(a2.length:Int)))] (q_cq hm (λhm=>?_) (λhm=>?_))
 ·refine s_vn [] 0 ⟨[(6,vb false)],[]⟩ ?_;obtain rfl:=oi hm;exact q_rt q_rm
 ·refine q_sk (q_sq ?_);refine s_vv [] 0 [0,14] [(15,vc (tl qM dd a1)),(16,vi (a1.length:Int)),(17,vi 0)] ?_;obtain⟨u13,h12,hm⟩:=qD hm;refine zI (nd f60 116) 0 (by kernel_rfl) FUEL (λo=>JV) (λv st=>RetQ Tryz.prog f60 (QY v) (ZG v) .ret st) u13 (q_hl (yO a1 a2 0) (DU E a1 a2 FUEL 0 u13 h12)) ?_ ?_
  ·rintro v14 rfl st hr;obtain rfl:=oi hm;exact hr
  ·rintro o11 rfl;replace hm:_=some r:=hm;refine s_vn [] 0 ⟨[(6,vb true)],[]⟩ ?_;obtain rfl:=oi hm;exact q_rt q_rm
def WT (r:Bool):V:=vb r
def WS (r:Bool):List (Nat×(Nat×O)):=[]
def QM (a1:List qG) (a2:List qG) (x4:Int):St:=
 ⟨[(0,vc (tl qL dd a1)),(1,vc (tl qL dd a2)),(12,vi (a1.length:Int)),(13,vi x4)],[]⟩
def XS :St:=
 ⟨[],[]⟩
theorem NV (E:Env 0) (a1:List qG) (a2:List qG):∀(n:Nat) (x4:Int) (res:Bool⊕Unit),ZR a1 a2 n x4=some res->HL (kx E 26 0) (nd f61 116) (zY 0 (λo=>XS) (λv st=>RetQ Tryz.prog f61 (WT v) (WS v) .ret st) res) n (QM a1 a2 x4):=by
 intro n
 induction n with
 |zero=>
  intro x4 res hm;cases hm
 |succ n ih=>
  intro x4 res hm;refine qS (s_va 0 [(14,vb (decide (x4<(a1.length:Int))))] ?_);refine q_sq (q_cq hm (λhm=>?_) (λhm=>?_))
  ·refine q_sk (q_sq ?_);refine q_bk 1 (s_vv [] 0 [14] [(5,vi x4)] ?_);obtain⟨g6,hm⟩:=qJ hm;obtain⟨g7,hm⟩:=qJ hm
   refine s_du [qi 2 g6,qi 6 g7] [0,0,3,7,0,0,48,112,255] 0 [5] [(24,vb (!((((a1.getD x4.toNat dd).Kind)==((a2.getD x4.toNat dd).Kind))&&((((((((a1.getD x4.toNat dd).Box).X).A)==((((a2.getD x4.toNat dd).Box).X).A))&&((((((a1.getD x4.toNat dd).Box).X).B)==((((a2.getD x4.toNat dd).Box).X).B))&&true))&&(((((((a1.getD x4.toNat dd).Box).Y).A)==((((a2.getD x4.toNat dd).Box).Y).A))&&((((((a1.getD x4.toNat dd).Box).Y).B)==((((a2.getD x4.toNat dd).Box).Y).B))&&true))&&(((((((a1.getD x4.toNat dd).Box).Z).A)==((((a2.getD x4.toNat dd).Box).Z).A))&&((((((a1.getD x4.toNat dd).Box).Z).B)==((((a2.getD x4.toNat dd).Box).Z).B))&&true))&&true)))&&true))))] [] [] (q_cq hm (λhm=>?_) (λhm=>?_))
   ·refine s_vn [] 0 ⟨[(4,vb false)],[]⟩ ?_;obtain rfl:=oi hm;refine q_rt (qX false ?_);exact q_rm
   ·refine q_sk (q_vv [] 0 [13,24] [(13,vi (w64 (x4+1)))] ?_);exact q_hl (QM a1 a2 (w64 (x4+1))) (ih (w64 (x4+1)) _ hm)
  ·refine q_ex 0 ?_;obtain rfl:=oi hm;exact q_l1 ()
theorem SE (a1:List qG) (a2:List qG) (r:Bool) (hm:YQ a1 a2=some r):CtX Tryz.prog globs 61 0 0 [.one (tl qL dd a1),.one (tl qL dd a2)] [] (WT r) (WS r):=by
 unfold YQ at hm;refine q_E f61 26 λE=>?_;refine s_vn [] 0 ⟨[(0,vc (tl qL dd a1)),(1,vc (tl qL dd a2))],[]⟩ (q_sq ?_);refine s_va 0 [(10,vb ((a1.length:Int) !=(a2.length:Int)))] (q_cq hm (λhm=>?_) (λhm=>?_))
 ·refine s_vn [] 0 ⟨[(4,vb false)],[]⟩ ?_;obtain rfl:=oi hm;exact q_rt q_rm
 ·refine q_sk (q_sq ?_);refine s_vv [] 0 [10] [(12,vi (a1.length:Int)),(13,vi 0)] ?_;obtain⟨u11,h10,hm⟩:=qD hm;refine zI (nd f61 116) 0 (by kernel_rfl) FUEL (λo=>XS) (λv st=>RetQ Tryz.prog f61 (WT v) (WS v) .ret st) u11 (q_hl (QM a1 a2 0) (NV E a1 a2 FUEL 0 u11 h10)) ?_ ?_
  ·rintro v12 rfl st hr;obtain rfl:=oi hm;exact hr
  ·rintro o9 rfl;replace hm:_=some r:=hm;refine s_vn [] 0 ⟨[(4,vb true)],[]⟩ ?_;obtain rfl:=oi hm;exact q_rt q_rm
open Go.Proofs Go.Proofs.Tryz
def qJf (r:Bool):V:=vb r
def qI4 (r:Bool):List (Nat×(Nat×O)):=[]
def qFa (x8:Bool):St:=
 ⟨[(4,vb x8)],[]⟩
theorem qHH (a1:Scan) (a2:Scan) (r:Bool) (hm:NF a1 a2=some r):CtX Tryz.prog globs 24 0 0 [.agg (qV a1),.agg (qV a2)] [] (qJf r) (qI4 r):=by
 unfold NF at hm;refine q_E f24 19 λE=>?_;refine s_vn [] 0 ⟨[(2,vp 0 0),(3,vp 1 0)],[(0,bx 25 (qV a1)),(1,bx 25 (qV a2))]⟩ (s_va 2 [(5,vc (.fn 58 []))] ?_);refine q_jn (qFa) (λp=>HE p=some r) ?_ ?_
 ·rintro x8 hm;obtain rfl:=oi hm;exact q_rt q_rm
 ·obtain⟨v3,h4,hm⟩:=qD hm;rcases bif_c hm with⟨b5,hm⟩|⟨b5,hm⟩
  ·obtain⟨v6,h7,hm⟩:=qD hm;exact q_vn [qc 5 [7,9,10] 2 (XZ a1.Rings a2.Rings v3 h4),qf 6 b5,qk 11 [12,14,16] 2 ⟨[(12,vb true),(14,vc (tl qL dd a1.Defects)),(16,vc (tl qL dd a2.Defects))],[]⟩ (SE a1.Defects a2.Defects v6 h7)] 2 ⟨[(4,vb v6)],[]⟩ (q_J (v6) hm)
  ·exact q_vn [qc 5 [7,9,10] 2 (XZ a1.Rings a2.Rings v3 h4),qf 6 b5] 2 ⟨[(4,vb false)],[]⟩ (q_J (false) hm)
def qJc (r:Int):V:=vc (.val (.int .u64 r))
def qJk (r:Int):List (Nat×(Nat×O)):=[]
theorem qHG (a1:Span) (r:Int) (hm:qBa a1=some r):CtX Tryz.prog globs 176 0 0 [.agg (qN a1)] [] (qJc r) (qJk r):=by
 unfold qBa at hm;refine q_E f176 15 λE=>?_;refine s_vn [] 0 ⟨[(1,vp 0 0)],[(0,bx 64 (qN a1))]⟩ (q_sq ?_);refine s_va 1 [(7,vb (decide (a1.A≥a1.B)))] (q_cq hm (λhm=>?_) (λhm=>?_))
 ·refine s_vn [] 1 ⟨[(2,vc (.val (.int .u64 0)))],[]⟩ ?_;obtain rfl:=oi hm;exact q_rt q_rm
 ·refine q_sk (s_vn [] 1 ⟨[(2,vc (.val (.int .u64 (IntKind.u64.wrap ((IntKind.u64.wrap (a1.B))-(IntKind.u64.wrap (a1.A)))))))],[]⟩ ?_);obtain rfl:=oi hm;exact q_rt q_rm
def qFn (r:Int):V:=vi r
def qE0 (r:Int):List (Nat×(Nat×O)):=[]
theorem qD5 (a1:Int) (r:Int) (hm:SD a1=some r):CtX Tryz.prog globs 175 0 0 [.one (.val (.int .u64 a1))] [] (qFn r) (qE0 r):=by
 unfold SD at hm;refine q_E f175 6 λE=>?_;refine s_vn [] 0 ⟨[(0,vc (.val (.int .u64 a1)))],[]⟩ (s_vn [] 0 ⟨[(2,vi (w64 (imin a1 9223372036854775807)))],[]⟩ ?_);obtain rfl:=oi hm;exact q_rt q_rm
open Go.Proofs Go.Proofs.Tryz
def qJ9 (r:Int):V:=vi r
def qJO (r:Int):List (Nat×(Nat×O)):=[]
theorem qIV (a1:Span) (r:Int) (hm:qCU a1=some r):CtX Tryz.prog globs 144 0 0 [.agg (qN a1)] [] (qJ9 r) (qJO r):=by
 unfold qCU at hm;refine q_E f144 6 λE=>?_;refine s_vn [] 0 ⟨[(1,vp 0 0)],[(0,bx 64 (qN a1))]⟩ ?_;obtain⟨v2,h3,hm⟩:=qD hm;obtain⟨v4,h5,hm⟩:=qD hm;refine s_vn [qc 1 [3] 1 (qHG a1 v2 h3),qc 2 [4] 1 (qD5 v2 v4 h5)] 1 ⟨[(2,vi v4)],[]⟩ ?_;obtain rfl:=oi hm;exact q_rt q_rm
def qFv (r:Int):V:=vi r
def qE9 (r:Int):List (Nat×(Nat×O)):=[]
def RA (v2:qK) (x4:Int) (x5:Int):St:=
 ⟨[(3,vi x4),(8,vc (tl qN dd v2.Rows)),(9,vi (v2.Rows.length:Int)),(10,vi x5)],[]⟩
def FW (x10:Int):St:=
 ⟨[(3,vi x10)],[]⟩
theorem qAX (E:Env 0) (v2:qK):∀(n:Nat) (x4:Int) (x5:Int) (res:Int),GJ v2 n x4 x5=some res->HL (kx E 21 0) (nd f89 116) (zP 0 FW res) n (RA v2 x4 x5):=by
 intro n
 induction n with
 |zero=>
  intro x4 x5 res hm;cases hm
 |succ n ih=>
  intro x4 x5 res hm;refine qS (s_va 1 [(11,vb (decide (x5<(v2.Rows.length:Int))))] ?_);refine q_sq (q_cq hm (λhm=>?_) (λhm=>?_))
  ·refine q_sk (q_sq ?_);refine q_bk 1 ?_;obtain⟨g7,hm⟩:=qJ hm;refine s_vu [qi 0 g7] 1 [11] [(5,vp 1 0)] [] [(1,bx 64 (qN (v2.Rows.getD x5.toNat dd)))] ?_;obtain⟨v8,h9,hm⟩:=qD hm;refine q_vu [qc 2 [15] 2 (qIV (v2.Rows.getD x5.toNat dd) v8 h9)] 2 [3,5] [(3,vi (w64 (x4+v8)))] [1] [] (q_vv [] 2 [10] [(10,vi (w64 (x5+1)))] ?_);exact q_hl (RA v2 (w64 (x4+v8)) (w64 (x5+1))) (ih (w64 (x4+v8)) (w64 (x5+1)) _ hm)
  ·refine q_ex 0 ?_;obtain rfl:=oi hm;exact q_l0
theorem qDX (a1:qK) (r:Int) (hm:SA a1=some r):CtX Tryz.prog globs 89 0 0 [.agg (qQ a1)] [] (qFv r) (qE9 r):=by
 unfold SA at hm;refine q_E f89 21 λE=>?_;refine s_vn [] 0 ⟨[(1,vp 0 0)],[(0,bx 48 (qQ a1))]⟩ (s_va 1 [(3,vi 0)] ?_);refine q_sq ?_;obtain⟨v2,h3,hm⟩:=qD hm;refine s_vu [qc 1 [6] 1 (TP a1 v2 h3)] 1 [1] [(8,vc (tl qN dd v2.Rows)),(9,vi (v2.Rows.length:Int)),(10,vi 0)] [0] [] ?_;obtain⟨o11,h12,hm⟩:=qD hm;refine zM (nd f89 116) 0 (by kernel_rfl) FUEL FW o11 (q_hl (RA v2 0 0) (qAX E v2 FUEL 0 0 o11 h12)) (s_vn [] 1 ⟨[(2,vi (w64 (10*o11)))],[]⟩ ?_);obtain rfl:=oi hm;exact q_rt q_rm
def FJ (r:Int):V:=vi r
def NW (r:Int):List (Nat×(Nat×O)):=[]
def qCA (a1:List qW) (x4:Int) (x5:Int) (x13:Bool):St:=
 ⟨[(3,vi x4),(5,vp 0 0),(13,vc (tl qZ dd a1)),(14,vi (a1.length:Int)),(15,vi x5),(39,vb x13)],[(0,bx 50 (qZ (a1.getD x5.toNat dd)))]⟩
def TL (a1:List qW) (x4:Int) (x5:Int):St:=
 ⟨[(3,vi x4),(13,vc (tl qZ dd a1)),(14,vi (a1.length:Int)),(15,vi x5)],[]⟩
def ME :St:=
 ⟨[],[]⟩
theorem qBS (E:Env 0) (a1:List qW):∀(n:Nat) (x4:Int) (x5:Int) (res:Int⊕Unit),JR a1 n x4 x5=some res->HL (kx E 45 0) (nd f26 500) (zY 0 (λo=>ME) (λv st=>RetQ Tryz.prog f26 (FJ v) (NW v) .ret st) res) n (TL a1 x4 x5):=by
 intro n
 induction n with
 |zero=>
  intro x4 x5 res hm;cases hm
 |succ n ih=>
  intro x4 x5 res hm;refine qS (s_va 0 [(16,vb (decide (x5<(a1.length:Int))))] ?_);refine q_sq (q_cq hm (λhm=>?_) (λhm=>?_))
  ·refine q_sk (q_sq ?_);refine q_bk 1 ?_;obtain⟨g7,hm⟩:=qJ hm;refine s_vu [qi 0 g7] 0 [16] [(5,vp 0 0)] [] [(0,bx 50 (qZ (a1.getD x5.toNat dd)))] (q_sq ?_);obtain⟨v8,h9,hm⟩:=qD hm;refine s_vv [qc 2 [20] 1 (HZ ((a1.getD x5.toNat dd).Sec) v8 h9)] 1 [] [(6,vi v8)] (s_va 1 [(23,vb (v8 !=0))] ?_);refine q_cq hm (λhm=>?_) (λhm=>?_)
   ·refine s_vn [] 1 ⟨[(2,vi v8)],[]⟩ ?_;obtain rfl:=oi hm;refine q_rt (qX v8 ?_);exact q_rm
   ·refine q_sk (q_sq ?_);refine s_vv [] 1 [6,23] [(29,vb ((((((a1.getD x5.toNat dd).Sec).Rows).length:Nat):Int)==0))] (q_cq hm (λhm=>?_) (λhm=>?_))
    ·refine s_vn [] 1 ⟨[(2,vi 18)],[]⟩ ?_;obtain rfl:=oi hm;refine q_rt (qX 18 ?_);exact q_rm
    ·refine q_sk (q_sq ?_);refine q_jn (qCA a1 x4 x5) (λp=>DK a1 x4 x5 (JR a1 n) p=some res) ?_ ?_
     ·rintro x13 hm;refine q_cq hm (λhm=>?_) (λhm=>?_)
      ·refine s_vn [] 1 ⟨[(2,vi 9)],[]⟩ ?_;obtain rfl:=oi hm;refine q_rt (qX 9 ?_);exact q_rm
      ·refine q_sk (q_vu [] 1 [3,5,39] [(3,vi (w64 (x4+((a1.getD x5.toNat dd).Len))))] [0] [] ?_);exact q_vv [] 1 [15] [(15,vi (w64 (x5+1)))] (q_hl (TL a1 (w64 (x4+((a1.getD x5.toNat dd).Len))) (w64 (x5+1))) (ih (w64 (x4+((a1.getD x5.toNat dd).Len))) (w64 (x5+1)) _ hm))
     ·rcases bif_c hm with⟨b12,hm⟩|⟨b12,hm⟩
      ·exact q_vv [qf 3 b12] 1 [29] [(39,vb true)] (q_J (true) hm)
      ·exact q_vv [qf 3 b12] 1 [29] [(39,vb (decide (((a1.getD x5.toNat dd).Len)>(w64 (20000-x4)))))] (q_J (decide (((a1.getD x5.toNat dd).Len)>(w64 (20000-x4)))) hm)
  ·refine q_ex 0 ?_;obtain rfl:=oi hm;exact q_l1 ()
theorem qEV (a1:List qW) (r:Int) (hm:AV a1=some r):CtX Tryz.prog globs 26 0 0 [.one (tl qZ dd a1)] [] (FJ r) (NW r):=by
 unfold AV at hm;refine q_E f26 45 λE=>?_;refine s_vn [] 0 ⟨[(0,vc (tl qZ dd a1))],[]⟩ (q_sq ?_);refine s_va 0 [(9,vb ((a1.length:Int)==0))] (q_cq hm (λhm=>?_) (λhm=>?_))
 ·refine s_vn [] 0 ⟨[(2,vi 3)],[]⟩ ?_;obtain rfl:=oi hm;exact q_rt q_rm
 ·refine q_sk (q_sq ?_);refine s_vv [] 0 [9] [(12,vb (decide ((a1.length:Int)>24)))] (q_cq hm (λhm=>?_) (λhm=>?_))
  ·refine s_vn [] 0 ⟨[(2,vi 4)],[]⟩ ?_;obtain rfl:=oi hm;exact q_rt q_rm
  ·refine q_sk (s_vv [] 0 [12] [(3,vi 0)] ?_);refine q_sq (s_vv [] 0 [0] [(13,vc (tl qZ dd a1)),(14,vi (a1.length:Int)),(15,vi 0)] ?_);obtain⟨u17,h16,hm⟩:=qD hm;refine zI (nd f26 500) 0 (by kernel_rfl) FUEL (λo=>ME) (λv st=>RetQ Tryz.prog f26 (FJ v) (NW v) .ret st) u17 (q_hl (TL a1 0 0) (qBS E a1 FUEL 0 0 u17 h16)) ?_ ?_
   ·rintro v18 rfl st hr;obtain rfl:=oi hm;exact hr
   ·rintro o15 rfl;replace hm:_=some r:=hm;refine s_vn [] 0 ⟨[(2,vi 0)],[]⟩ ?_;obtain rfl:=oi hm;exact q_rt q_rm
open Go.Proofs Go.Proofs.Tryz
def qGx (r:(List qW)):V:=vc (tl qZ dd r)
def qGS (r:(List qW)):List (Nat×(Nat×O)):=[]
theorem qEK (a1:List qW) (r:(List qW)) (hm:AE a1=some r):CtX Tryz.prog globs 63 0 0 [.one (tl qZ dd a1)] [] (qGx r) (qGS r):=by
 unfold AE at hm;refine q_E f63 7 λE=>?_;refine s_vn [] 0 ⟨[(0,vc (tl qZ dd a1))],[]⟩ (q_sq ?_);obtain⟨v2,h3,hm⟩:=qD hm;refine s_vv [qc 1 [3] 0 (qEV a1 v2 h3)] 0 [] [(5,vb (v2 !=0))] (q_cq hm (λhm=>?_) (λhm=>?_))
 ·refine s_vn [] 0 ⟨[(2,vc (.emp))],[]⟩ (q_fn [.own 2 0 50 3 (rf qZ [])] ⟨[(2,vo 0 0 3 0)],[(0,ro 0 50 3 0 (rf qZ []))]⟩ o0 ?_);refine q_fn [.len 0 (([]:List qW).length),.frz 0] ⟨[(2,vc (tl qZ dd ([]:List qW)))],[]⟩ (o1 (And.intro (And.intro (show 0=([]:List qW).length from rfl) (show 0=([]:List qW).length from rfl)) (ko (([]:List qW).length)))) ?_;obtain rfl:=oi hm;exact q_rt q_rm
 ·refine q_sk (s_vn [] 0 ⟨[(2,vc (tl qZ dd a1))],[]⟩ ?_);obtain rfl:=oi hm;exact q_rt q_rm
def qE3 (r:Int):V:=vi r
def qFb (r:Int):List (Nat×(Nat×O)):=[]
def PZ (v2:(List qW)) (x4:Int) (x5:Int):St:=
 ⟨[(3,vi x4),(7,vc (tl qZ dd v2)),(8,vi (v2.length:Int)),(9,vi x5)],[]⟩
def FT (x10:Int):St:=
 ⟨[(3,vi x10)],[]⟩
theorem qBt (E:Env 0) (v2:(List qW)):∀(n:Nat) (x4:Int) (x5:Int) (res:Int),VA v2 n x4 x5=some res->HL (kx E 23 0) (nd f43 116) (zP 0 FT res) n (PZ v2 x4 x5):=by
 intro n
 induction n with
 |zero=>
  intro x4 x5 res hm;cases hm
 |succ n ih=>
  intro x4 x5 res hm;refine qS (s_va 0 [(10,vb (decide (x5<(v2.length:Int))))] ?_);refine q_sq (q_cq hm (λhm=>?_) (λhm=>?_))
  ·refine q_sk (q_sq ?_);refine q_bk 1 ?_;obtain⟨g7,hm⟩:=qJ hm;refine s_vu [qi 0 g7] 0 [10] [(5,vp 0 0)] [] [(0,bx 50 (qZ (v2.getD x5.toNat dd)))] ?_;obtain⟨v8,h9,hm⟩:=qD hm;refine q_du [qc 5 [17] 1 (qDX ((v2.getD x5.toNat dd).Sec) v8 h9)] [0,0,2,0,8,24,62,127,255] 1 [3,5] [(3,vi (w64 (x4+(w64 (((v2.getD x5.toNat dd).Len)*v8)))))] [0] [] (q_vv [] 1 [9] [(9,vi (w64 (x5+1)))] ?_);exact q_hl (PZ v2 (w64 (x4+(w64 (((v2.getD x5.toNat dd).Len)*v8)))) (w64 (x5+1))) (ih (w64 (x4+(w64 (((v2.getD x5.toNat dd).Len)*v8)))) (w64 (x5+1)) _ hm)
  ·refine q_ex 0 ?_;obtain rfl:=oi hm;exact q_l0
theorem qEH (a1:List qW) (r:Int) (hm:GO a1=some r):CtX Tryz.prog globs 43 0 0 [.one (tl qZ dd a1)] [] (qE3 r) (qFb r):=by
 unfold GO at hm;refine q_E f43 23 λE=>?_;refine s_vn [] 0 ⟨[(0,vc (tl qZ dd a1))],[]⟩ (s_va 0 [(3,vi 0)] ?_);refine q_sq ?_;obtain⟨v2,h3,hm⟩:=qD hm;refine s_vv [qc 1 [6] 0 (qEK a1 v2 h3)] 0 [0] [(7,vc (tl qZ dd v2)),(8,vi (v2.length:Int)),(9,vi 0)] ?_;obtain⟨o11,h12,hm⟩:=qD hm;refine zM (nd f43 116) 0 (by kernel_rfl) FUEL FT o11 (q_hl (PZ v2 0 0) (qBt E v2 FUEL 0 0 o11 h12)) (s_vn [] 0 ⟨[(2,vi o11)],[]⟩ ?_);obtain rfl:=oi hm;exact q_rt q_rm
def qDs (r:(List Int)):V:=vo 0 0 1 r.length
def qDB (r:(List Int)):List (Nat×(Nat×O)):=[(0,ro 0 3 1 r.length (rf qH r))]
def NB (a1:Ring) (x3:Int) (l9:List Int) (l9n:Nat):St:=
 ⟨[(1,vp 0 0),(3,vo 1 0 1 l9n),(4,vi x3)],[(0,bx 45 (qM a1)),(1,ro 0 3 1 l9n (rf qH l9))]⟩
def KL (a1:Ring) (l2:List Int) (l2n:Nat) (x3:Int):St:=
 ⟨[(1,vp 0 0),(3,vo 1 0 1 l2n),(4,vi x3)],[(0,bx 45 (qM a1)),(1,ro 0 3 1 l2n (rf qH l2))]⟩
def NJ (l10:List Int):St:=
 ⟨[(3,vo 1 0 1 l10.length)],[(1,ro 0 3 1 l10.length (rf qH l10))]⟩
theorem qAo (E:Env 0) (a1:Ring):∀(n:Nat) (l2:List Int) (l2n:Nat) (x3:Int) (res:(List Int)),l2.length=l2n->wM a1 n l2 x3=some res->HL (kx E 39 0) (nd f53 116) (zP 0 NJ res) n (KL a1 l2 l2n x3):=by
 intro n
 induction n with
 |zero=>
  intro l2 l2n x3 res hl0 hm;cases hm
 |succ n ih=>
  intro l2 l2n x3 res hl0 hm;subst hl0;refine qS (q_sq ?_);refine s_va 2 [(9,vb (decide (x3<(a1.Read.length:Int))))] (q_cq hm (λhm=>?_) (λhm=>?_))
  ·refine q_sk (q_jn (ι:=(List Int)×Nat) (λp=>NB a1 x3 p.1 p.2) (λp=>p.1.length=p.2/\YA x3 (wM a1 n) p.1=some res) ?_ ?_)
   ·rintro⟨l9,l9n⟩ ⟨el9,hm⟩;replace el9:l9.length=l9n:=el9;subst el9;show H _ (NB a1 x3 l9 l9.length) _ _;exact q_vv [] 3 [4] [(4,vi (w64 (x3+1)))] (q_hl (KL a1 l9 l9.length (w64 (x3+1))) (ih l9 l9.length (w64 (x3+1)) _ rfl hm))
   ·refine q_bk 1 ?_;obtain⟨g5,hm⟩:=qJ hm;refine s_vv [qi 3 g5] 2 [9] [(17,vb ((a1.Read.getD x3.toNat dd).Ok))] (q_cq hm (λhm=>?_) (λhm=>?_))
    ·obtain⟨g7,hm⟩:=qJ hm
     refine q_du [qi 4 g5,qi 11 g5,qd 15 (drw 2 0 (rf qH [1,((a1.Read.getD x3.toNat dd).P).X,((a1.Read.getD x3.toNat dd).P).Y])) (litP qH dd 1 (λ_=>rfl) ([1,((a1.Read.getD x3.toNat dd).P).X,((a1.Read.getD x3.toNat dd).P).Y]:List Int) 3 rfl),qd 16 (drw 1 1 (rf qH (l2++[1,((a1.Read.getD x3.toNat dd).P).X,((a1.Read.getD x3.toNat dd).P).Y]))) (apP qH dd l2 ([1,((a1.Read.getD x3.toNat dd).P).X,((a1.Read.getD x3.toNat dd).P).Y]:List Int) l2.length 3 1 8 (3<=3) (ko _) rfl rfl (λ_=>rfl) (zK g7))] [0,0,2,0,14,30,62,126,0,256,0,1792,3840,7936,16128,32766,65535,131071] 2 [3,17] [(3,vo 1 1 1 (l2.length+3))] [1] [(1,ro 1 3 1 (l2.length+3) (rf qH (l2++[1,((a1.Read.getD x3.toNat dd).P).X,((a1.Read.getD x3.toNat dd).P).Y])))] ?_
     exact q_J ((l2++[1,((a1.Read.getD x3.toNat dd).P).X,((a1.Read.getD x3.toNat dd).P).Y]),(l2.length+3)) ⟨(zO rfl rfl),hm⟩
    ·obtain⟨g8,hm⟩:=qJ hm;exact q_vu [qd 1 (drw 2 0 (rf qH [0])) (litP qH dd 1 (λ_=>rfl) ([0]:List Int) 1 rfl),qd 2 (drw 1 1 (rf qH (l2++[0]))) (apP qH dd l2 ([0]:List Int) l2.length 1 1 8 (1<=1) (ko _) rfl rfl (λ_=>rfl) (zK g8))] 2 [3,17] [(3,vo 1 1 1 (l2.length+1))] [1] [(1,ro 1 3 1 (l2.length+1) (rf qH (l2++[0])))] (q_J ((l2++[0]),(l2.length+1)) ⟨(zO rfl rfl),hm⟩)
  ·refine q_ex 0 ?_;obtain rfl:=oi hm;exact q_l0
theorem qC6 (a1:Ring) (r:(List Int)) (hm:YS a1=some r):CtX Tryz.prog globs 53 0 0 [.agg (qM a1)] [] (qDs r) (qDB r):=by
 unfold YS at hm;refine q_E f53 39 λE=>?_;refine s_vn [] 0 ⟨[(1,vp 0 0)],[(0,bx 45 (qM a1))]⟩ (s_va 1 [(3,vc (.emp))] ?_);refine q_sq (s_va 1 [(4,vi 0)] ?_);refine q_fo 3 1 3 1 qH ?_;obtain⟨o11,h12,hm⟩:=qD hm;refine zM (nd f53 116) 0 (by kernel_rfl) FUEL NJ o11 (q_hl (KL a1 ([]:List Int) 0 0) (qAo E a1 FUEL ([]:List Int) 0 0 o11 rfl h12)) (s_vv [] 2 [3] [(2,vo 1 0 1 o11.length)] ?_);obtain rfl:=oi hm;exact q_sw 1 0 (q_rt q_rm)
open Go.Proofs Go.Proofs.Tryz
def qEM (r:Int):V:=vc (.val (.int .u64 r))
def qFl (r:Int):List (Nat×(Nat×O)):=[]
theorem qEa (a1:Int) (r:Int) (hm:VE a1=some r):CtX Tryz.prog globs 159 0 0 [.one (ci a1)] [] (qEM r) (qFl r):=by
 unfold VE at hm;refine q_E f159 14 λE=>?_;refine s_vn [] 0 ⟨[(0,vi a1)],[]⟩ (q_sq ?_);refine s_va 0 [(4,vb (decide (a1≥0)))] (q_cq hm (λhm=>?_) (λhm=>?_))
 ·refine s_vn [] 0 ⟨[(2,vc (.val (.int .u64 (IntKind.u64.wrap (2*(IntKind.u64.wrap (a1)))))))],[]⟩ ?_;obtain rfl:=oi hm;exact q_rt q_rm
 ·refine q_sk (s_vn [] 0 ⟨[(2,vc (.val (.int .u64 (IntKind.u64.wrap ((IntKind.u64.wrap (2*(IntKind.u64.wrap (w64 (0-(w64 (a1+1)))))))+1)))))],[]⟩ ?_);obtain rfl:=oi hm;exact q_rt q_rm
def qAu (r:ByteArray):V:=vc (cs r)
def qBn (r:ByteArray):List (Nat×(Nat×O)):=[]
theorem qDg :∀(n:Nat) (a1:Int) (r:ByteArray) (hm:ZT n a1=some r),CtX Tryz.prog globs 105 0 0 [.one (.val (.int .u64 a1))] [] (qAu r) (qBn r):=by
 intro n
 induction n with
 |zero=>
  intro a1 r hm;cases hm
 |succ n ih=>
  intro a1 r hm;refine q_E f105 19 λE=>?_;refine s_vn [] 0 ⟨[(0,vc (.val (.int .u64 a1)))],[]⟩ (q_sq ?_);refine s_va 0 [(4,vb (decide (a1<128)))] (q_cq hm (λhm=>?_) (λhm=>?_))
  ·refine s_vn [qd 2 (drw 0 0 (rf e_u8 [IntKind.u8.wrap (a1)])) (litP e_u8 dd 1 (λ_=>rfl) ([IntKind.u8.wrap (a1)]:List Int) 1 rfl),qd 3 dN (And.intro (ko 1) (u8all ([IntKind.u8.wrap (a1)]:List Int) 1))] 0 ⟨[(2,vc (cs (LD 1 ([IntKind.u8.wrap (a1)]:List Int))))],[]⟩ ?_;obtain rfl:=oi hm;exact q_rt q_rm
  ·refine q_sk ?_;obtain⟨v3,h4,hm⟩:=qD hm;obtain⟨g5,hm⟩:=qJ hm
   refine s_dn [qd 1 dN (show(128:Int)≠0 by decide),qd 4 (drw 0 0 (rf e_u8 [IntKind.u8.wrap (IntKind.u64.wrap (128+(Int.tmod a1 128)))])) (litP e_u8 dd 1 (λ_=>rfl) ([IntKind.u8.wrap (IntKind.u64.wrap (128+(Int.tmod a1 128)))]:List Int) 1 rfl),qd 5 dN (And.intro (ko 1) (u8all ([IntKind.u8.wrap (IntKind.u64.wrap (128+(Int.tmod a1 128)))]:List Int) 1)),qd 7 dN (show(128:Int)≠0 by decide),qc 8 [16] 1 (ih (IntKind.u64.wrap (Int.tdiv a1 128)) v3 h4),qd 9 dN (WH g5)] [0,1,3,7,15,31,0,64,192,511,1023] 0 ⟨[(2,vc (cs ((LD 1 ([IntKind.u8.wrap (IntKind.u64.wrap (128+(Int.tmod a1 128)))]:List Int))++v3)))],[]⟩ ?_
   obtain rfl:=oi hm;exact q_rt q_rm
theorem CV (a1:Int) (r:ByteArray) (hm:LA a1=some r):CtX Tryz.prog globs 105 0 0 [.one (.val (.int .u64 a1))] [] (qAu r) (qBn r):=by
 exact qDg FUEL a1 r hm
def qI1 (r:ByteArray):V:=vc (cs r)
def qJi (r:ByteArray):List (Nat×(Nat×O)):=[]
theorem qH6 (a1:Int) (r:ByteArray) (hm:NG a1=some r):CtX Tryz.prog globs 106 0 0 [.one (ci a1)] [] (qI1 r) (qJi r):=by
 unfold NG at hm;refine q_E f106 6 λE=>?_;refine s_vn [] 0 ⟨[(0,vi a1)],[]⟩ ?_;obtain⟨v2,h3,hm⟩:=qD hm;obtain⟨v4,h5,hm⟩:=qD hm;refine s_vn [qc 1 [3] 0 (qEa a1 v2 h3),qc 2 [4] 0 (CV v2 v4 h5)] 0 ⟨[(2,vc (cs v4))],[]⟩ ?_;obtain rfl:=oi hm;exact q_rt q_rm
end Saw
end Go.SL

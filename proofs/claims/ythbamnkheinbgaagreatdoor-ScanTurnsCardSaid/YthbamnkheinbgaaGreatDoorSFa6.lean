import Derived.Test.YthbamnkheinbgaaGreatDoorSBase
import Derived.Test.YthbamnkheinbgaaGreatDoorSFa5
import Derived.Test.YthbamnkheinbgaaGreatDoorSFa4
import Derived.Test.YthbamnkheinbgaaGreatDoorSFa3
set_option linter.unusedVariables false
set_option linter.unusedSimpArgs false
namespace Go.SL
namespace Saw
open Go.Proofs Go.Proofs.Tryz
set_option maxHeartbeats 4000000
set_option maxRecDepth 100000
def MS (r:Scan×Bool):V:= .tup [.agg [.own 0 0 2 r.1.Rings.length,.own 1 0 7 r.1.Defects.length],.one (cb r.2)]
def MP (r:Scan×Bool):List (Nat×(Nat×O)):=[(0,ro 0 45 2 r.1.Rings.length (rf qI r.1.Rings)),(1,ro 0 68 7 r.1.Defects.length (rf qG r.1.Defects))]
def PR :St:=
 ⟨[(2,vp 0 0),(4,vp 2 0),(5,vc (.fn 108 [.bptr 2 0 0])),(6,vp 3 0)],[(0,bx 25 [.emp,.emp]),(2,bx 129 [.bptr 1 0 0])]⟩
def UW (v2:qH) (v4:(List Int)×Int×Int) (x6:Int) (l7:List Ring) (l7n:Nat) (x8:Int) (x9:Int):St:=
 (PR).up [] [(17,vo 4 0 1 v4.1.length),(18,vi (v4.1.length:Int)),(19,vi x6)] [] [(1,bx 172 [cs v2.s,ci x8,ci x9]),(3,bx 25 [.own 5 0 2 l7n,.emp]),(4,ro 0 3 1 v4.1.length (rf qN v4.1)),(5,ro 0 45 2 l7n (rf qI l7))]
def EC (l18:List Ring) (x19:qH):St:=
 (PR).up [] [] [] [(1,bx 172 (qM x19)),(3,bx 25 [.own 5 0 2 l18.length,.emp]),(5,ro 0 45 2 l18.length (rf qI l18))]
def qEm (o20:(List Ring)×qH) (v26:(List qD)×Bool) (x31:Bool):St:=
 (PR).up [4,5] [(11,vo 7 0 7 v26.1.length),(53,vb x31)] [2] [(3,bx 25 [.own 5 0 2 o20.1.length,.emp]),(5,ro 0 45 2 o20.1.length (rf qI o20.1)),(7,ro 0 68 7 v26.1.length (rf qG v26.1))]
theorem qC3 (E:Env 0) (v2:qH) (v4:(List Int)×Int×Int):∀(n:Nat) (x6:Int) (l7:List Ring) (l7n:Nat) (x8:Int) (x9:Int) (res:(Scan×Bool)⊕((List Ring)×qH)),l7.length=l7n->NQ v2 v4 n x6 l7 x8 x9=some res->HL (kx E 58 0) (nd f54 500) (wF 0 (λo=>EC o.1 o.2) (λv st=>RetQ Tryz.prog f54 (MS v) (MP v) .ret st) res) n (UW v2 v4 x6 l7 l7n x8 x9):=by
 intro n
 induction n with
 |zero=>
  intro x6 l7 l7n x8 x9 res hl0 hm;cases hm
 |succ n ih=>
  intro x6 l7 l7n x8 x9 res hl0 hm;subst hl0;refine qR (s_va 6 [(20,vb (decide (x6<(v4.1.length:Int))))] ?_);refine q_sq (q_cq hm (λhm=>?_) (λhm=>?_))
  ·refine q_sk (q_sq ?_);refine q_bk 1 ?_;obtain⟨g11,hm⟩:=qJ hm;refine s_vv [qi 0 g11,qd 1 dN (qU (zA g11))] 6 [20] [(8,vi (v4.1.getD x6.toNat dd))] ?_;obtain⟨v12,h13,hm⟩:=qE hm;obtain⟨v14,h15,hm⟩:=qE hm
   refine s_vu [qd 1 (dex (cen [(2,0),(1,0)] [0,0] 4 2 (PC 96 (qH.mk v2.s x8 x9) v12) (PB 96 (qH.mk v2.s x8 x9) v12) [24] [2,1])) (zJ (K:=(kx E 58 0)) ⟨[(24,vc (.fn 108 [.bptr 2 0 0]))],[(2,bx 129 [.bptr 1 0 0]),(1,bx 172 [cs v2.s,ci x8,ci x9])]⟩ (opAt (rg f54 32050) 1) [(2,0),(1,0)] [0,0] 4 o0 rfl (US 96 (qH.mk v2.s x8 x9) v12 h13) (.inl rfl) (by kernel_rfl)),qd 2 (dex (cen [] [] 7 0 (WG v14) (jS v14) [25] [6])) (zJ (K:=(kx E 58 0)) (b:=false) ⟨[(25,vo 6 0 1 v12.1.length)],[(6,ro 0 3 1 v12.1.length (rf qN v12.1))]⟩ (opAt (rg f54 32050) 2) [] [] 7 (o1 (kg v12.1.length)) rfl (qBd v12.1 v14 h15) (.inr ⟨(by kernel_rfl),qB4 v14⟩) (by kernel_rfl))] 6 [] [(9,vo 7 0 3 v14.1.length),(10,vb v14.2)] [1] [(1,bx 172 [cs ((qH.mk v2.s x8 x9).s),ci v12.2.1,ci v12.2.2]),(7,ro 0 73 3 v14.1.length (rf qF v14.1))] ?_
   refine q_sq (s_vv [] 8 [10] [(30,vb (!v14.2))] ?_);refine q_cq hm (λhm=>?_) (λhm=>?_)
   ·refine s_vn [] 8 ⟨[(2,vp 0 0),(3,vb false)],[(0,bx 25 [.emp,.emp])]⟩ (q_fu [.ownB 0 0 8 45 2 (rf qI [])] [] [] [0] [(0,bx 25 [.own 8 0 2 0,.emp]),(8,ro 0 45 2 0 (rf qI []))] o0 ?_);refine q_fu [.ownB 0 1 9 68 7 (rf qG [])] [] [] [0] [(0,bx 25 [.own 8 0 2 0,.own 9 0 7 0]),(9,ro 0 68 7 0 (rf qG []))] o0 (q_fu [.len 8 (([]:List Ring).length)] [] [] [0,8] [(0,bx 25 [.own 8 0 2 (([]:List Ring).length),.own 9 0 7 0]),(8,ro 0 45 2 (([]:List Ring).length) (rf qI []))] (o1 (And.intro (show 0=([]:List Ring).length from rfl) (show 0=([]:List Ring).length from rfl))) ?_)
    refine q_fu [.len 9 (([]:List qD).length)] [] [] [0,9] [(0,bx 25 [.own 8 0 2 (([]:List Ring).length),.own 9 0 7 (([]:List qD).length)]),(9,ro 0 68 7 (([]:List qD).length) (rf qG []))] (o1 (And.intro (show 0=([]:List qD).length from rfl) (show 0=([]:List qD).length from rfl))) ?_;obtain rfl:=oi hm;refine q_sw 8 0 (q_sw 9 1 ?_);refine q_rt (zC ((Scan.mk ([]:List Ring) ([]:List qD)),false) ?_);exact q_rm
   ·refine q_sk ?_;obtain⟨g17,hm⟩:=qJ hm
    refine q_vu [qd 5 (dpr [.frz 7] (drw 8 0 (rf qI [(Ring.mk (v4.1.getD x6.toNat dd) v14.1)]))) (And.intro (kg v14.1.length) (And.intro (kg v14.1.length) (kg v14.1.length))),qd 5 dN (litP qI dd 2 (λ_=>rfl) ([(Ring.mk (v4.1.getD x6.toNat dd) v14.1)]:List Ring) 1 rfl),qd 6 (drw 5 1 (rf qI (l7++[(Ring.mk (v4.1.getD x6.toNat dd) v14.1)]))) (apP qI dd l7 ([(Ring.mk (v4.1.getD x6.toNat dd) v14.1)]:List Ring) l7.length 1 2 32 (1<=1) (kg _) rfl rfl (λ_=>rfl) (zP g17))] 8 [8,9,30] [] [3,5,7] [(3,bx 25 [.own 5 1 2 (l7.length+1),.emp]),(5,ro 1 45 2 (l7.length+1) (rf qI (l7++[(Ring.mk (v4.1.getD x6.toNat dd) v14.1)])))] (q_vv [] 9 [19] [(19,vi (w64 (x6+1)))] ?_)
    exact q_hl (UW v2 v4 (w64 (x6+1)) (l7++[(Ring.mk (v4.1.getD x6.toNat dd) v14.1)]) (l7.length+1) v12.2.1 v12.2.2) (ih (w64 (x6+1)) (l7++[(Ring.mk (v4.1.getD x6.toNat dd) v14.1)]) (l7.length+1) v12.2.1 v12.2.2 _ (zX rfl rfl) hm)
  ·refine q_ex 0 ?_;obtain rfl:=oi hm;exact L1_mk (l7,(qH.mk v2.s x8 x9)) (by kernel_rfl) (by kernel_rfl)
theorem qGb (a1:ByteArray) (r:Scan×Bool) (hm:OT a1=some r):CtX Tryz.prog globs 54 0 0 [.one (cs a1)] [] (MS r) (MP r):=by
 unfold OT at hm;refine q_E f54 58 λE=>?_;refine s_vn [] 0 ⟨[(0,vc (cs a1)),(2,vp 0 0)],[(0,bx 25 [.emp,.emp])]⟩ ?_;obtain⟨v2,h3,hm⟩:=qE hm;refine s_vu [qc 1 [13] 1 (qBT a1 v2 h3)] 1 [0] [(4,vp 2 0)] [] [(1,bx 172 (qM v2)),(2,bx 129 [.bptr 1 0 0])] (s_va 3 [(5,vc (.fn 108 [.bptr 2 0 0]))] ?_);refine s_vu [] 3 [] [(6,vp 3 0)] [] [(3,bx 25 [.emp,.emp])] (q_sq ?_);obtain⟨v4,h5,hm⟩:=qE hm
 refine s_vu [qd 1 (dex (cen [(2,0),(1,0)] [0,0] 2 2 (PC 24 v2 v4) (PB 24 v2 v4) [16] [2,1])) (zJ (K:=(kx E 58 0)) ⟨[(16,vc (.fn 108 [.bptr 2 0 0]))],[(2,bx 129 [.bptr 1 0 0]),(1,bx 172 (qM v2))]⟩ (opAt (rg f54 124) 1) [(2,0),(1,0)] [0,0] 2 o0 rfl (US 24 v2 v4 h5) (.inl rfl) (by kernel_rfl))] 4 [] [(17,vo 4 0 1 v4.1.length),(18,vi (v4.1.length:Int)),(19,vi 0)] [1] [(1,bx 172 [cs v2.s,ci v4.2.1,ci v4.2.2]),(4,ro 0 3 1 v4.1.length (rf qN v4.1))] (q_fu [.ownB 3 0 5 45 2 (rf qI [])] [] [] [3] [(3,bx 25 [.own 5 0 2 0,.emp]),(5,ro 0 45 2 0 (rf qI []))] o0 ?_);obtain⟨u22,h21,hm⟩:=qE hm
 refine zN (nd f54 500) 0 (by kernel_rfl) FUEL (λo=>EC o.1 o.2) (λv st=>RetQ Tryz.prog f54 (MS v) (MP v) .ret st) u22 (q_hl (UW v2 v4 0 ([]:List Ring) 0 v4.2.1 v4.2.2) (qC3 E v2 v4 FUEL 0 ([]:List Ring) 0 v4.2.1 v4.2.2 u22 rfl h21)) ?_ ?_
 ·rintro v23 rfl st hr;obtain rfl:=oi hm;exact hr
 ·rintro o20 rfl;replace hm:_=some r:=hm;obtain⟨v24,h25,hm⟩:=qE hm;obtain⟨v26,h27,hm⟩:=qE hm
  refine s_vu [qd 1 (dex (cen [(2,0),(1,0)] [0,0] 4 2 (PC 448 o20.2 v24) (PB 448 o20.2 v24) [42] [2,1])) (zJ (K:=(kx E 58 0)) ⟨[(42,vc (.fn 108 [.bptr 2 0 0]))],[(2,bx 129 [.bptr 1 0 0]),(1,bx 172 (qM o20.2))]⟩ (opAt (rg f54 126) 1) [(2,0),(1,0)] [0,0] 4 o0 rfl (US 448 o20.2 v24 h25) (.inl rfl) (by kernel_rfl)),qd 2 (dex (cen [] [] 7 0 (MB v26) (JS v26) [43] [6])) (zJ (K:=(kx E 58 0)) (b:=false) ⟨[(43,vo 6 0 1 v24.1.length)],[(6,ro 0 3 1 v24.1.length (rf qN v24.1))]⟩ (opAt (rg f54 126) 2) [] [] 7 (o1 (kg v24.1.length)) rfl (qBR v24.1 v26 h27) (.inr ⟨(by kernel_rfl),qDc v26⟩) (by kernel_rfl))] 6 [5] [(11,vo 7 0 7 v26.1.length),(12,vb v26.2)] [1] [(1,bx 172 [cs o20.2.s,ci v24.2.1,ci v24.2.2]),(7,ro 0 68 7 v26.1.length (rf qG v26.1))] ?_
  refine q_sq (q_jn (qEm o20 v26) (λp=>FE o20 v26 p=some r) ?_ ?_)
  ·rintro x31 hm;refine q_cq hm (λhm=>?_) (λhm=>?_)
   ·refine s_vu [] 8 [6,11,53] [(3,vb false)] [3,5,7] [] (q_fu [.ownB 0 0 8 45 2 (rf qI [])] [] [] [0] [(0,bx 25 [.own 8 0 2 0,.emp]),(8,ro 0 45 2 0 (rf qI []))] o0 ?_);refine q_fu [.ownB 0 1 9 68 7 (rf qG [])] [] [] [0] [(0,bx 25 [.own 8 0 2 0,.own 9 0 7 0]),(9,ro 0 68 7 0 (rf qG []))] o0 (q_fu [.len 8 (([]:List Ring).length)] [] [] [0,8] [(0,bx 25 [.own 8 0 2 (([]:List Ring).length),.own 9 0 7 0]),(8,ro 0 45 2 (([]:List Ring).length) (rf qI []))] (o1 (And.intro (show 0=([]:List Ring).length from rfl) (show 0=([]:List Ring).length from rfl))) ?_)
    refine q_fu [.len 9 (([]:List qD).length)] [] [] [0,9] [(0,bx 25 [.own 8 0 2 (([]:List Ring).length),.own 9 0 7 (([]:List qD).length)]),(9,ro 0 68 7 (([]:List qD).length) (rf qG []))] (o1 (And.intro (show 0=([]:List qD).length from rfl) (show 0=([]:List qD).length from rfl))) ?_;obtain rfl:=oi hm;refine q_sw 8 0 (q_sw 9 1 ?_);exact q_rt q_rm
   ·refine q_sk (s_vu [] 8 [11,53] [] [3] [(3,bx 25 [.own 5 0 2 o20.1.length,.own 7 0 7 v26.1.length])] ?_);refine s_vu [] 8 [6] [(3,vb true)] [0,3] [(0,bx 25 [.own 5 0 2 o20.1.length,.own 7 0 7 v26.1.length])] ?_;obtain rfl:=oi hm;refine q_sw 5 0 (q_sw 7 1 ?_);exact q_rt q_rm
  ·rcases bif_c hm with⟨b28,hm⟩|⟨b28,hm⟩
   ·exact q_vu [qf 2 b28] 8 [4,12] [(53,vb true)] [1,2] [] (q_J (true) hm)
   ·obtain⟨v29,h30,hm⟩:=qE hm;exact q_vu [qf 2 b28,qd 4 (dex (cen [(1,0)] [0] 7 1 (FZ (qH.mk o20.2.s v24.2.1 v24.2.2) v29) (FL (qH.mk o20.2.s v24.2.1 v24.2.2) v29) [49,50] [1])) (zJ (K:=(kx E 58 0)) ⟨[(49,vb false),(50,vp 1 0)],[(1,bx 172 [cs o20.2.s,ci v24.2.1,ci v24.2.2])]⟩ (opAt (rg f54 508) 4) [(1,0)] [0] 7 o0 rfl (qAR (qH.mk o20.2.s v24.2.1 v24.2.2) v29 h30) (.inl rfl) (by kernel_rfl))] 8 [4,12] [(53,vb (v29 !=0))] [1,2] [] (q_J (v29 !=0) hm)
def qFV (r:Scan×Int):V:= .tup [.agg [.own 0 0 2 r.1.Rings.length,.own 1 0 7 r.1.Defects.length],.one (ci r.2)]
def qF0 (r:Scan×Int):List (Nat×(Nat×O)):=[(0,ro 0 45 2 r.1.Rings.length (rf qI r.1.Rings)),(1,ro 0 68 7 r.1.Defects.length (rf qG r.1.Defects))]
theorem qFl (a1:ByteArray) (r:Scan×Int) (hm:YR a1=some r):CtX Tryz.prog globs 21 0 0 [.one (cs a1)] [] (qFV r) (qF0 r):=by
 unfold YR at hm;refine q_E f21 22 λE=>?_;refine s_vn [] 0 ⟨[(0,vc (cs a1)),(2,vp 0 0)],[(0,bx 25 [.emp,.emp])]⟩ ?_;obtain⟨v2,h3,hm⟩:=qE hm;refine s_vu [qc 1 [8] 1 (qGb a1 v2 h3)] 1 [0] [(4,vp 3 0),(5,vb v2.2)] [] [(1,ro 0 45 2 v2.1.Rings.length (rf qI v2.1.Rings)),(2,ro 0 68 7 v2.1.Defects.length (rf qG v2.1.Defects)),(3,bx 25 [.own 1 0 2 v2.1.Rings.length,.own 2 0 7 v2.1.Defects.length])] (q_sq ?_);refine s_vv [] 4 [5] [(13,vb (!v2.2))] (q_cq hm (λhm=>?_) (λhm=>?_))
 ·refine s_vu [] 4 [4,13] [(3,vi 5)] [1,2,3] [] (q_fu [.ownB 0 0 4 45 2 (rf qI [])] [] [] [0] [(0,bx 25 [.own 4 0 2 0,.emp]),(4,ro 0 45 2 0 (rf qI []))] o0 ?_);refine q_fu [.ownB 0 1 5 68 7 (rf qG [])] [] [] [0] [(0,bx 25 [.own 4 0 2 0,.own 5 0 7 0]),(5,ro 0 68 7 0 (rf qG []))] o0 (q_fu [.len 4 (([]:List Ring).length)] [] [] [0,4] [(0,bx 25 [.own 4 0 2 (([]:List Ring).length),.own 5 0 7 0]),(4,ro 0 45 2 (([]:List Ring).length) (rf qI []))] (o1 (And.intro (show 0=([]:List Ring).length from rfl) (show 0=([]:List Ring).length from rfl))) ?_)
  refine q_fu [.len 5 (([]:List qD).length)] [] [] [0,5] [(0,bx 25 [.own 4 0 2 (([]:List Ring).length),.own 5 0 7 (([]:List qD).length)]),(5,ro 0 68 7 (([]:List qD).length) (rf qG []))] (o1 (And.intro (show 0=([]:List qD).length from rfl) (show 0=([]:List qD).length from rfl))) ?_;obtain rfl:=oi hm;refine q_sw 4 0 (q_sw 5 1 ?_);exact q_rt q_rm
 ·refine q_sk (q_sq ?_);obtain⟨v5,h6,hm⟩:=qE hm;refine s_vv [qd 1 (dex (cen [] [] 4 0 (WS v5) (yH v5) [15] [1,2])) (zJ (K:=(kx E 22 0)) (b:=false) ⟨[(15,va [.own 1 0 2 v2.1.Rings.length,.own 2 0 7 v2.1.Defects.length])],[(1,ro 0 45 2 v2.1.Rings.length (rf qI v2.1.Rings)),(2,ro 0 68 7 v2.1.Defects.length (rf qG v2.1.Defects))]⟩ (opAt (rg f21 60) 1) [] [] 4 (o1 (And.intro (kg v2.1.Rings.length) (kg v2.1.Defects.length))) rfl (YF (Scan.mk v2.1.Rings v2.1.Defects) v5 h6) (.inr ⟨(by kernel_rfl),qHe v5⟩) (by kernel_rfl))] 4 [13] [(6,vi v5)] (s_va 4 [(18,vb (v5 !=0))] ?_)
  refine q_cq hm (λhm=>?_) (λhm=>?_)
  ·refine s_vu [] 4 [4,6,18] [(3,vi v5)] [1,2,3] [] (q_fu [.ownB 0 0 4 45 2 (rf qI [])] [] [] [0] [(0,bx 25 [.own 4 0 2 0,.emp]),(4,ro 0 45 2 0 (rf qI []))] o0 ?_);refine q_fu [.ownB 0 1 5 68 7 (rf qG [])] [] [] [0] [(0,bx 25 [.own 4 0 2 0,.own 5 0 7 0]),(5,ro 0 68 7 0 (rf qG []))] o0 (q_fu [.len 4 (([]:List Ring).length)] [] [] [0,4] [(0,bx 25 [.own 4 0 2 (([]:List Ring).length),.own 5 0 7 0]),(4,ro 0 45 2 (([]:List Ring).length) (rf qI []))] (o1 (And.intro (show 0=([]:List Ring).length from rfl) (show 0=([]:List Ring).length from rfl))) ?_)
   refine q_fu [.len 5 (([]:List qD).length)] [] [] [0,5] [(0,bx 25 [.own 4 0 2 (([]:List Ring).length),.own 5 0 7 (([]:List qD).length)]),(5,ro 0 68 7 (([]:List qD).length) (rf qG []))] (o1 (And.intro (show 0=([]:List qD).length from rfl) (show 0=([]:List qD).length from rfl))) ?_;obtain rfl:=oi hm;refine q_sw 4 0 (q_sw 5 1 ?_);exact q_rt q_rm
  ·refine q_sk (s_vu [] 4 [4,6,18] [(3,vi 0)] [0,3] [(0,bx 25 [.own 1 0 2 v2.1.Rings.length,.own 2 0 7 v2.1.Defects.length])] ?_);obtain rfl:=oi hm;refine q_sw 1 0 (q_sw 2 1 ?_);exact q_rt q_rm
def ZA (r:Bool):V:=vb r
def ZB (r:Bool):List (Nat×(Nat×O)):=[]
def yV (a1:List qC) (a2:List qC) (x4:Int):St:=
 ⟨[(0,vc (tl qF dd a1)),(1,vc (tl qF dd a2)),(12,vi (a1.length:Int)),(13,vi x4)],[]⟩
def JW :St:=
 ⟨[],[]⟩
theorem NL (E:Env 0) (a1:List qC) (a2:List qC):∀(n:Nat) (x4:Int) (res:Bool⊕Unit),zK a1 a2 n x4=some res->HL (kx E 26 0) (nd f59 116) (wF 0 (λo=>JW) (λv st=>RetQ Tryz.prog f59 (ZA v) (ZB v) .ret st) res) n (yV a1 a2 x4):=by
 intro n
 induction n with
 |zero=>
  intro x4 res hm;cases hm
 |succ n ih=>
  intro x4 res hm;refine qR (s_va 0 [(14,vb (decide (x4<(a1.length:Int))))] ?_);refine q_sq (q_cq hm (λhm=>?_) (λhm=>?_))
  ·refine q_sk (q_sq ?_);refine q_bk 1 (s_vv [] 0 [14] [(5,vi x4)] ?_);obtain⟨g6,hm⟩:=qJ hm;obtain⟨g7,hm⟩:=qJ hm;refine s_du [qi 2 g6,qi 6 g7] [0,0,3,7,0,0,48,112,255] 0 [5] [(24,vb (!((((((a1.getD x4.toNat dd).P).X)==(((a2.getD x4.toNat dd).P).X))&&(((((a1.getD x4.toNat dd).P).Y)==(((a2.getD x4.toNat dd).P).Y))&&true))&&((((a1.getD x4.toNat dd).Ok)==((a2.getD x4.toNat dd).Ok))&&true))))] [] [] (q_cq hm (λhm=>?_) (λhm=>?_))
   ·refine s_vn [] 0 ⟨[(4,vb false)],[]⟩ ?_;obtain rfl:=oi hm;refine q_rt (zC false ?_);exact q_rm
   ·refine q_sk (q_vv [] 0 [13,24] [(13,vi (w64 (x4+1)))] ?_);exact q_hl (yV a1 a2 (w64 (x4+1))) (ih (w64 (x4+1)) _ hm)
  ·refine q_ex 0 ?_;obtain rfl:=oi hm;exact q_l1 ()
theorem HZ (a1:List qC) (a2:List qC) (r:Bool) (hm:yQ a1 a2=some r):CtX Tryz.prog globs 59 0 0 [.one (tl qF dd a1),.one (tl qF dd a2)] [] (ZA r) (ZB r):=by
 unfold yQ at hm;refine q_E f59 26 λE=>?_;refine s_vn [] 0 ⟨[(0,vc (tl qF dd a1)),(1,vc (tl qF dd a2))],[]⟩ (q_sq ?_);refine s_va 0 [(10,vb ((a1.length:Int) !=(a2.length:Int)))] (q_cq hm (λhm=>?_) (λhm=>?_))
 ·refine s_vn [] 0 ⟨[(4,vb false)],[]⟩ ?_;obtain rfl:=oi hm;exact q_rt q_rm
 ·refine q_sk (q_sq ?_);refine s_vv [] 0 [10] [(12,vi (a1.length:Int)),(13,vi 0)] ?_;obtain⟨u11,h10,hm⟩:=qE hm;refine zN (nd f59 116) 0 (by kernel_rfl) FUEL (λo=>JW) (λv st=>RetQ Tryz.prog f59 (ZA v) (ZB v) .ret st) u11 (q_hl (yV a1 a2 0) (NL E a1 a2 FUEL 0 u11 h10)) ?_ ?_
  ·rintro v12 rfl st hr;obtain rfl:=oi hm;exact hr
  ·rintro o9 rfl;replace hm:_=some r:=hm;refine s_vn [] 0 ⟨[(4,vb true)],[]⟩ ?_;obtain rfl:=oi hm;exact q_rt q_rm
open Go.Proofs Go.Proofs.Tryz
def qGl (r:Bool):V:=vb r
def qGD (r:Bool):List (Nat×(Nat×O)):=[]
def qCB (x6:Bool):St:=
 ⟨[(4,vb x6)],[]⟩
theorem qE0 (a1:Ring) (a2:Ring) (r:Bool) (hm:RC a1 a2=some r):CtX Tryz.prog globs 58 0 0 [.agg (qI a1),.agg (qI a2)] [] (qGl r) (qGD r):=by
 unfold RC at hm;refine q_E f58 17 λE=>?_;refine s_vn [] 0 ⟨[(2,vp 0 0),(3,vp 1 0)],[(0,bx 45 (qI a1)),(1,bx 45 (qI a2))]⟩ (q_jn (qCB) (λp=>KZ p=some r) ?_ ?_)
 ·rintro x6 hm;obtain rfl:=oi hm;exact q_rt q_rm
 ·rcases bif_c hm with⟨b3,hm⟩|⟨b3,hm⟩
  ·obtain⟨v4,h5,hm⟩:=qE hm;exact q_vn [qf 5 b3,qk 10 [10,12,14] 2 ⟨[(10,vb true),(12,vc (tl qF dd a1.Read)),(14,vc (tl qF dd a2.Read))],[]⟩ (HZ a1.Read a2.Read v4 h5)] 2 ⟨[(4,vb v4)],[]⟩ (q_J (v4) hm)
  ·exact q_vn [qf 5 b3] 2 ⟨[(4,vb false)],[]⟩ (q_J (false) hm)
def QO (r:Bool):V:=vb r
def QT (r:Bool):List (Nat×(Nat×O)):=[]
def yJ (a1:List Ring) (a2:List Ring) (x4:Int):St:=
 ⟨[(1,vc (tl qI dd a2)),(2,vc (.fn 58 [])),(15,vc (tl qI dd a1)),(16,vi (a1.length:Int)),(17,vi x4)],[]⟩
def JD :St:=
 ⟨[],[]⟩
theorem DQ (E:Env 0) (a1:List Ring) (a2:List Ring):∀(n:Nat) (x4:Int) (res:Bool⊕Unit),zO a1 a2 n x4=some res->HL (kx E 32 0) (nd f60 116) (wF 0 (λo=>JD) (λv st=>RetQ Tryz.prog f60 (QO v) (QT v) .ret st) res) n (yJ a1 a2 x4):=by
 intro n
 induction n with
 |zero=>
  intro x4 res hm;cases hm
 |succ n ih=>
  intro x4 res hm;refine qR (s_va 0 [(18,vb (decide (x4<(a1.length:Int))))] ?_);refine q_sq (q_cq hm (λhm=>?_) (λhm=>?_))
  ·refine q_sk (q_sq ?_);refine q_bk 1 ?_;obtain⟨g6,hm⟩:=qJ hm;refine s_vu [qi 1 g6] 0 [18] [(7,vi x4),(8,vp 0 0)] [] [(0,bx 45 (qI (a1.getD x4.toNat dd)))] ?_;obtain⟨g7,hm⟩:=qJ hm;refine s_vu [qi 2 g7] 1 [7] [(9,vp 1 0)] [] [(1,bx 45 (qI (a2.getD x4.toNat dd)))] ?_;obtain⟨v8,h9,hm⟩:=qE hm
   refine s_vu [qk 3 [26,27,28] 2 ⟨[(26,vc (.fn 58 [])),(27,va [ci ((a1.getD x4.toNat dd).Z),tl qF dd ((a1.getD x4.toNat dd).Read)]),(28,va [ci ((a2.getD x4.toNat dd).Z),tl qF dd ((a2.getD x4.toNat dd).Read)])],[]⟩ (qE0 (a1.getD x4.toNat dd) (a2.getD x4.toNat dd) v8 h9)] 2 [8,9] [(30,vb (!v8))] [0,1] [] (q_cq hm (λhm=>?_) (λhm=>?_))
   ·refine s_vn [] 2 ⟨[(6,vb false)],[]⟩ ?_;obtain rfl:=oi hm;refine q_rt (zC false ?_);exact q_rm
   ·refine q_sk (q_vv [] 2 [17,30] [(17,vi (w64 (x4+1)))] ?_);exact q_hl (yJ a1 a2 (w64 (x4+1))) (ih (w64 (x4+1)) _ hm)
  ·refine q_ex 0 ?_;obtain rfl:=oi hm;exact q_l1 ()
theorem XF (a1:List Ring) (a2:List Ring) (r:Bool) (hm:yG a1 a2=some r):CtX Tryz.prog globs 60 0 0 [.one (tl qI dd a1),.one (tl qI dd a2),.one (.fn 58 [])] [] (QO r) (QT r):=by
 unfold yG at hm;refine q_E f60 32 λE=>?_;refine s_vn [] 0 ⟨[(0,vc (tl qI dd a1)),(1,vc (tl qI dd a2)),(2,vc (.fn 58 []))],[]⟩ (q_sq ?_);refine s_va 0 [(14,vb ((a1.length:Int) !=(a2.length:Int)))] (q_cq hm (λhm=>?_) (λhm=>?_))
 ·refine s_vn [] 0 ⟨[(6,vb false)],[]⟩ ?_;obtain rfl:=oi hm;exact q_rt q_rm
 ·refine q_sk (q_sq ?_);refine s_vv [] 0 [0,14] [(15,vc (tl qI dd a1)),(16,vi (a1.length:Int)),(17,vi 0)] ?_;obtain⟨u13,h12,hm⟩:=qE hm;refine zN (nd f60 116) 0 (by kernel_rfl) FUEL (λo=>JD) (λv st=>RetQ Tryz.prog f60 (QO v) (QT v) .ret st) u13 (q_hl (yJ a1 a2 0) (DQ E a1 a2 FUEL 0 u13 h12)) ?_ ?_
  ·rintro v14 rfl st hr;obtain rfl:=oi hm;exact hr
  ·rintro o11 rfl;replace hm:_=some r:=hm;refine s_vn [] 0 ⟨[(6,vb true)],[]⟩ ?_;obtain rfl:=oi hm;exact q_rt q_rm
def WD (r:Bool):V:=vb r
def ZY (r:Bool):List (Nat×(Nat×O)):=[]
def QC (a1:List qD) (a2:List qD) (x4:Int):St:=
 ⟨[(0,vc (tl qG dd a1)),(1,vc (tl qG dd a2)),(12,vi (a1.length:Int)),(13,vi x4)],[]⟩
def XM :St:=
 ⟨[],[]⟩
theorem FD (E:Env 0) (a1:List qD) (a2:List qD):∀(n:Nat) (x4:Int) (res:Bool⊕Unit),zM a1 a2 n x4=some res->HL (kx E 26 0) (nd f61 116) (wF 0 (λo=>XM) (λv st=>RetQ Tryz.prog f61 (WD v) (ZY v) .ret st) res) n (QC a1 a2 x4):=by
 intro n
 induction n with
 |zero=>
  intro x4 res hm;cases hm
 |succ n ih=>
  intro x4 res hm;refine qR (s_va 0 [(14,vb (decide (x4<(a1.length:Int))))] ?_);refine q_sq (q_cq hm (λhm=>?_) (λhm=>?_))
  ·refine q_sk (q_sq ?_);refine q_bk 1 (s_vv [] 0 [14] [(5,vi x4)] ?_);obtain⟨g6,hm⟩:=qJ hm;obtain⟨g7,hm⟩:=qJ hm
   refine s_du [qi 2 g6,qi 6 g7] [0,0,3,7,0,0,48,112,255] 0 [5] [(24,vb (!((((a1.getD x4.toNat dd).Kind)==((a2.getD x4.toNat dd).Kind))&&((((((((a1.getD x4.toNat dd).Box).X).A)==((((a2.getD x4.toNat dd).Box).X).A))&&((((((a1.getD x4.toNat dd).Box).X).B)==((((a2.getD x4.toNat dd).Box).X).B))&&true))&&(((((((a1.getD x4.toNat dd).Box).Y).A)==((((a2.getD x4.toNat dd).Box).Y).A))&&((((((a1.getD x4.toNat dd).Box).Y).B)==((((a2.getD x4.toNat dd).Box).Y).B))&&true))&&(((((((a1.getD x4.toNat dd).Box).Z).A)==((((a2.getD x4.toNat dd).Box).Z).A))&&((((((a1.getD x4.toNat dd).Box).Z).B)==((((a2.getD x4.toNat dd).Box).Z).B))&&true))&&true)))&&true))))] [] [] (q_cq hm (λhm=>?_) (λhm=>?_))
   ·refine s_vn [] 0 ⟨[(4,vb false)],[]⟩ ?_;obtain rfl:=oi hm;refine q_rt (zC false ?_);exact q_rm
   ·refine q_sk (q_vv [] 0 [13,24] [(13,vi (w64 (x4+1)))] ?_);exact q_hl (QC a1 a2 (w64 (x4+1))) (ih (w64 (x4+1)) _ hm)
  ·refine q_ex 0 ?_;obtain rfl:=oi hm;exact q_l1 ()
theorem SH (a1:List qD) (a2:List qD) (r:Bool) (hm:jK a1 a2=some r):CtX Tryz.prog globs 61 0 0 [.one (tl qG dd a1),.one (tl qG dd a2)] [] (WD r) (ZY r):=by
 unfold jK at hm;refine q_E f61 26 λE=>?_;refine s_vn [] 0 ⟨[(0,vc (tl qG dd a1)),(1,vc (tl qG dd a2))],[]⟩ (q_sq ?_);refine s_va 0 [(10,vb ((a1.length:Int) !=(a2.length:Int)))] (q_cq hm (λhm=>?_) (λhm=>?_))
 ·refine s_vn [] 0 ⟨[(4,vb false)],[]⟩ ?_;obtain rfl:=oi hm;exact q_rt q_rm
 ·refine q_sk (q_sq ?_);refine s_vv [] 0 [10] [(12,vi (a1.length:Int)),(13,vi 0)] ?_;obtain⟨u11,h10,hm⟩:=qE hm;refine zN (nd f61 116) 0 (by kernel_rfl) FUEL (λo=>XM) (λv st=>RetQ Tryz.prog f61 (WD v) (ZY v) .ret st) u11 (q_hl (QC a1 a2 0) (FD E a1 a2 FUEL 0 u11 h10)) ?_ ?_
  ·rintro v12 rfl st hr;obtain rfl:=oi hm;exact hr
  ·rintro o9 rfl;replace hm:_=some r:=hm;refine s_vn [] 0 ⟨[(4,vb true)],[]⟩ ?_;obtain rfl:=oi hm;exact q_rt q_rm
open Go.Proofs Go.Proofs.Tryz
def qIP (r:Bool):V:=vb r
def qIy (r:Bool):List (Nat×(Nat×O)):=[]
def qEV (x8:Bool):St:=
 ⟨[(4,vb x8)],[]⟩
theorem MO (a1:Scan) (a2:Scan) (r:Bool) (hm:JE a1 a2=some r):CtX Tryz.prog globs 24 0 0 [.agg (qP a1),.agg (qP a2)] [] (qIP r) (qIy r):=by
 unfold JE at hm;refine q_E f24 19 λE=>?_;refine s_vn [] 0 ⟨[(2,vp 0 0),(3,vp 1 0)],[(0,bx 25 (qP a1)),(1,bx 25 (qP a2))]⟩ (s_va 2 [(5,vc (.fn 58 []))] ?_);refine q_jn (qEV) (λp=>MV p=some r) ?_ ?_
 ·rintro x8 hm;obtain rfl:=oi hm;exact q_rt q_rm
 ·obtain⟨v3,h4,hm⟩:=qE hm;rcases bif_c hm with⟨b5,hm⟩|⟨b5,hm⟩
  ·obtain⟨v6,h7,hm⟩:=qE hm;exact q_vn [qc 5 [7,9,10] 2 (XF a1.Rings a2.Rings v3 h4),qf 6 b5,qk 11 [12,14,16] 2 ⟨[(12,vb true),(14,vc (tl qG dd a1.Defects)),(16,vc (tl qG dd a2.Defects))],[]⟩ (SH a1.Defects a2.Defects v6 h7)] 2 ⟨[(4,vb v6)],[]⟩ (q_J (v6) hm)
  ·exact q_vn [qc 5 [7,9,10] 2 (XF a1.Rings a2.Rings v3 h4),qf 6 b5] 2 ⟨[(4,vb false)],[]⟩ (q_J (false) hm)
def qIR (r:Int):V:=vc (.val (.int .u64 r))
def qIY (r:Int):List (Nat×(Nat×O)):=[]
theorem qG1 (a1:Span) (r:Int) (hm:qAY a1=some r):CtX Tryz.prog globs 176 0 0 [.agg (qL a1)] [] (qIR r) (qIY r):=by
 unfold qAY at hm;refine q_E f176 15 λE=>?_;refine s_vn [] 0 ⟨[(1,vp 0 0)],[(0,bx 64 (qL a1))]⟩ (q_sq ?_);refine s_va 1 [(7,vb (decide (a1.A≥a1.B)))] (q_cq hm (λhm=>?_) (λhm=>?_))
 ·refine s_vn [] 1 ⟨[(2,vc (.val (.int .u64 0)))],[]⟩ ?_;obtain rfl:=oi hm;exact q_rt q_rm
 ·refine q_sk (s_vn [] 1 ⟨[(2,vc (.val (.int .u64 (IntKind.u64.wrap ((IntKind.u64.wrap (a1.B))-(IntKind.u64.wrap (a1.A)))))))],[]⟩ ?_);obtain rfl:=oi hm;exact q_rt q_rm
def qEZ (r:Int):V:=vi r
def qET (r:Int):List (Nat×(Nat×O)):=[]
theorem qDz (a1:Int) (r:Int) (hm:HN a1=some r):CtX Tryz.prog globs 175 0 0 [.one (.val (.int .u64 a1))] [] (qEZ r) (qET r):=by
 unfold HN at hm;refine q_E f175 6 λE=>?_;refine s_vn [] 0 ⟨[(0,vc (.val (.int .u64 a1)))],[]⟩ (s_vn [] 0 ⟨[(2,vi (w64 (imin a1 9223372036854775807)))],[]⟩ ?_);obtain rfl:=oi hm;exact q_rt q_rm
open Go.Proofs Go.Proofs.Tryz
def qJv (r:Int):V:=vi r
def qJC (r:Int):List (Nat×(Nat×O)):=[]
theorem qIG (a1:Span) (r:Int) (hm:qCx a1=some r):CtX Tryz.prog globs 144 0 0 [.agg (qL a1)] [] (qJv r) (qJC r):=by
 unfold qCx at hm;refine q_E f144 6 λE=>?_;refine s_vn [] 0 ⟨[(1,vp 0 0)],[(0,bx 64 (qL a1))]⟩ ?_;obtain⟨v2,h3,hm⟩:=qE hm;obtain⟨v4,h5,hm⟩:=qE hm;refine s_vn [qc 1 [3] 1 (qG1 a1 v2 h3),qc 2 [4] 1 (qDz v2 v4 h5)] 1 ⟨[(2,vi v4)],[]⟩ ?_;obtain rfl:=oi hm;exact q_rt q_rm
def qEG (r:Int):V:=vi r
def qE7 (r:Int):List (Nat×(Nat×O)):=[]
def PP (v2:qK) (x4:Int) (x5:Int):St:=
 ⟨[(3,vi x4),(8,vc (tl qL dd v2.Rows)),(9,vi (v2.Rows.length:Int)),(10,vi x5)],[]⟩
def FO (x10:Int):St:=
 ⟨[(3,vi x10)],[]⟩
theorem qAz (E:Env 0) (v2:qK):∀(n:Nat) (x4:Int) (x5:Int) (res:Int),UU v2 n x4 x5=some res->HL (kx E 21 0) (nd f89 116) (zF 0 FO res) n (PP v2 x4 x5):=by
 intro n
 induction n with
 |zero=>
  intro x4 x5 res hm;cases hm
 |succ n ih=>
  intro x4 x5 res hm;refine qR (s_va 1 [(11,vb (decide (x5<(v2.Rows.length:Int))))] ?_);refine q_sq (q_cq hm (λhm=>?_) (λhm=>?_))
  ·refine q_sk (q_sq ?_);refine q_bk 1 ?_;obtain⟨g7,hm⟩:=qJ hm;refine s_vu [qi 0 g7] 1 [11] [(5,vp 1 0)] [] [(1,bx 64 (qL (v2.Rows.getD x5.toNat dd)))] ?_;obtain⟨v8,h9,hm⟩:=qE hm;refine q_vu [qc 2 [15] 2 (qIG (v2.Rows.getD x5.toNat dd) v8 h9)] 2 [3,5] [(3,vi (w64 (x4+v8)))] [1] [] (q_vv [] 2 [10] [(10,vi (w64 (x5+1)))] ?_);exact q_hl (PP v2 (w64 (x4+v8)) (w64 (x5+1))) (ih (w64 (x4+v8)) (w64 (x5+1)) _ hm)
  ·refine q_ex 0 ?_;obtain rfl:=oi hm;exact q_l0
theorem qDy (a1:qK) (r:Int) (hm:MC a1=some r):CtX Tryz.prog globs 89 0 0 [.agg (qQ a1)] [] (qEG r) (qE7 r):=by
 unfold MC at hm;refine q_E f89 21 λE=>?_;refine s_vn [] 0 ⟨[(1,vp 0 0)],[(0,bx 48 (qQ a1))]⟩ (s_va 1 [(3,vi 0)] ?_);refine q_sq ?_;obtain⟨v2,h3,hm⟩:=qE hm;refine s_vu [qc 1 [6] 1 (TF a1 v2 h3)] 1 [1] [(8,vc (tl qL dd v2.Rows)),(9,vi (v2.Rows.length:Int)),(10,vi 0)] [0] [] ?_;obtain⟨o11,h12,hm⟩:=qE hm;refine qZ (nd f89 116) 0 (by kernel_rfl) FUEL FO o11 (q_hl (PP v2 0 0) (qAz E v2 FUEL 0 0 o11 h12)) (s_vn [] 1 ⟨[(2,vi (w64 (10*o11)))],[]⟩ ?_);obtain rfl:=oi hm;exact q_rt q_rm
def FA (r:Int):V:=vi r
def NP (r:Int):List (Nat×(Nat×O)):=[]
def qC7 (a1:List qV) (x4:Int) (x5:Int) (x13:Bool):St:=
 ⟨[(3,vi x4),(5,vp 0 0),(13,vc (tl qX dd a1)),(14,vi (a1.length:Int)),(15,vi x5),(39,vb x13)],[(0,bx 50 (qX (a1.getD x5.toNat dd)))]⟩
def TE (a1:List qV) (x4:Int) (x5:Int):St:=
 ⟨[(3,vi x4),(13,vc (tl qX dd a1)),(14,vi (a1.length:Int)),(15,vi x5)],[]⟩
def MM :St:=
 ⟨[],[]⟩
theorem qCa (E:Env 0) (a1:List qV):∀(n:Nat) (x4:Int) (x5:Int) (res:Int⊕Unit),WQ a1 n x4 x5=some res->HL (kx E 45 0) (nd f26 500) (wF 0 (λo=>MM) (λv st=>RetQ Tryz.prog f26 (FA v) (NP v) .ret st) res) n (TE a1 x4 x5):=by
 intro n
 induction n with
 |zero=>
  intro x4 x5 res hm;cases hm
 |succ n ih=>
  intro x4 x5 res hm;refine qR (s_va 0 [(16,vb (decide (x5<(a1.length:Int))))] ?_);refine q_sq (q_cq hm (λhm=>?_) (λhm=>?_))
  ·refine q_sk (q_sq ?_);refine q_bk 1 ?_;obtain⟨g7,hm⟩:=qJ hm;refine s_vu [qi 0 g7] 0 [16] [(5,vp 0 0)] [] [(0,bx 50 (qX (a1.getD x5.toNat dd)))] (q_sq ?_);obtain⟨v8,h9,hm⟩:=qE hm;refine s_vv [qc 2 [20] 1 (HD ((a1.getD x5.toNat dd).Sec) v8 h9)] 1 [] [(6,vi v8)] (s_va 1 [(23,vb (v8 !=0))] ?_);refine q_cq hm (λhm=>?_) (λhm=>?_)
   ·refine s_vn [] 1 ⟨[(2,vi v8)],[]⟩ ?_;obtain rfl:=oi hm;refine q_rt (zC v8 ?_);exact q_rm
   ·refine q_sk (q_sq ?_);refine s_vv [] 1 [6,23] [(29,vb ((((((a1.getD x5.toNat dd).Sec).Rows).length:Nat):Int)==0))] (q_cq hm (λhm=>?_) (λhm=>?_))
    ·refine s_vn [] 1 ⟨[(2,vi 18)],[]⟩ ?_;obtain rfl:=oi hm;refine q_rt (zC 18 ?_);exact q_rm
    ·refine q_sk (q_sq ?_);refine q_jn (qC7 a1 x4 x5) (λp=>DI a1 x4 x5 (WQ a1 n) p=some res) ?_ ?_
     ·rintro x13 hm;refine q_cq hm (λhm=>?_) (λhm=>?_)
      ·refine s_vn [] 1 ⟨[(2,vi 9)],[]⟩ ?_;obtain rfl:=oi hm;refine q_rt (zC 9 ?_);exact q_rm
      ·refine q_sk (q_vu [] 1 [3,5,39] [(3,vi (w64 (x4+((a1.getD x5.toNat dd).Len))))] [0] [] ?_);exact q_vv [] 1 [15] [(15,vi (w64 (x5+1)))] (q_hl (TE a1 (w64 (x4+((a1.getD x5.toNat dd).Len))) (w64 (x5+1))) (ih (w64 (x4+((a1.getD x5.toNat dd).Len))) (w64 (x5+1)) _ hm))
     ·rcases bif_c hm with⟨b12,hm⟩|⟨b12,hm⟩
      ·exact q_vv [qf 3 b12] 1 [29] [(39,vb true)] (q_J (true) hm)
      ·exact q_vv [qf 3 b12] 1 [29] [(39,vb (decide (((a1.getD x5.toNat dd).Len)>(w64 (20000-x4)))))] (q_J (decide (((a1.getD x5.toNat dd).Len)>(w64 (20000-x4)))) hm)
  ·refine q_ex 0 ?_;obtain rfl:=oi hm;exact q_l1 ()
theorem qEM (a1:List qV) (r:Int) (hm:AT a1=some r):CtX Tryz.prog globs 26 0 0 [.one (tl qX dd a1)] [] (FA r) (NP r):=by
 unfold AT at hm;refine q_E f26 45 λE=>?_;refine s_vn [] 0 ⟨[(0,vc (tl qX dd a1))],[]⟩ (q_sq ?_);refine s_va 0 [(9,vb ((a1.length:Int)==0))] (q_cq hm (λhm=>?_) (λhm=>?_))
 ·refine s_vn [] 0 ⟨[(2,vi 3)],[]⟩ ?_;obtain rfl:=oi hm;exact q_rt q_rm
 ·refine q_sk (q_sq ?_);refine s_vv [] 0 [9] [(12,vb (decide ((a1.length:Int)>24)))] (q_cq hm (λhm=>?_) (λhm=>?_))
  ·refine s_vn [] 0 ⟨[(2,vi 4)],[]⟩ ?_;obtain rfl:=oi hm;exact q_rt q_rm
  ·refine q_sk (s_vv [] 0 [12] [(3,vi 0)] ?_);refine q_sq (s_vv [] 0 [0] [(13,vc (tl qX dd a1)),(14,vi (a1.length:Int)),(15,vi 0)] ?_);obtain⟨u17,h16,hm⟩:=qE hm;refine zN (nd f26 500) 0 (by kernel_rfl) FUEL (λo=>MM) (λv st=>RetQ Tryz.prog f26 (FA v) (NP v) .ret st) u17 (q_hl (TE a1 0 0) (qCa E a1 FUEL 0 0 u17 h16)) ?_ ?_
   ·rintro v18 rfl st hr;obtain rfl:=oi hm;exact hr
   ·rintro o15 rfl;replace hm:_=some r:=hm;refine s_vn [] 0 ⟨[(2,vi 0)],[]⟩ ?_;obtain rfl:=oi hm;exact q_rt q_rm
open Go.Proofs Go.Proofs.Tryz
def qF6 (r:(List qV)):V:=vc (tl qX dd r)
def qF8 (r:(List qV)):List (Nat×(Nat×O)):=[]
theorem qEK (a1:List qV) (r:(List qV)) (hm:AX a1=some r):CtX Tryz.prog globs 63 0 0 [.one (tl qX dd a1)] [] (qF6 r) (qF8 r):=by
 unfold AX at hm;refine q_E f63 7 λE=>?_;refine s_vn [] 0 ⟨[(0,vc (tl qX dd a1))],[]⟩ (q_sq ?_);obtain⟨v2,h3,hm⟩:=qE hm;refine s_vv [qc 1 [3] 0 (qEM a1 v2 h3)] 0 [] [(5,vb (v2 !=0))] (q_cq hm (λhm=>?_) (λhm=>?_))
 ·refine s_vn [] 0 ⟨[(2,vc (.emp))],[]⟩ (q_fn [.own 2 0 50 3 (rf qX [])] ⟨[(2,vo 0 0 3 0)],[(0,ro 0 50 3 0 (rf qX []))]⟩ o0 ?_);refine q_fn [.len 0 (([]:List qV).length),.frz 0] ⟨[(2,vc (tl qX dd ([]:List qV)))],[]⟩ (o1 (And.intro (And.intro (show 0=([]:List qV).length from rfl) (show 0=([]:List qV).length from rfl)) (kg (([]:List qV).length)))) ?_;obtain rfl:=oi hm;exact q_rt q_rm
 ·refine q_sk (s_vn [] 0 ⟨[(2,vc (tl qX dd a1))],[]⟩ ?_);obtain rfl:=oi hm;exact q_rt q_rm
def qFh (r:Int):V:=vi r
def qEF (r:Int):List (Nat×(Nat×O)):=[]
def PL (v2:(List qV)) (x4:Int) (x5:Int):St:=
 ⟨[(3,vi x4),(7,vc (tl qX dd v2)),(8,vi (v2.length:Int)),(9,vi x5)],[]⟩
def FY (x10:Int):St:=
 ⟨[(3,vi x10)],[]⟩
theorem qBl (E:Env 0) (v2:(List qV)):∀(n:Nat) (x4:Int) (x5:Int) (res:Int),VE v2 n x4 x5=some res->HL (kx E 23 0) (nd f43 116) (zF 0 FY res) n (PL v2 x4 x5):=by
 intro n
 induction n with
 |zero=>
  intro x4 x5 res hm;cases hm
 |succ n ih=>
  intro x4 x5 res hm;refine qR (s_va 0 [(10,vb (decide (x5<(v2.length:Int))))] ?_);refine q_sq (q_cq hm (λhm=>?_) (λhm=>?_))
  ·refine q_sk (q_sq ?_);refine q_bk 1 ?_;obtain⟨g7,hm⟩:=qJ hm;refine s_vu [qi 0 g7] 0 [10] [(5,vp 0 0)] [] [(0,bx 50 (qX (v2.getD x5.toNat dd)))] ?_;obtain⟨v8,h9,hm⟩:=qE hm;refine q_du [qc 5 [17] 1 (qDy ((v2.getD x5.toNat dd).Sec) v8 h9)] [0,0,2,0,8,24,62,127,255] 1 [3,5] [(3,vi (w64 (x4+(w64 (((v2.getD x5.toNat dd).Len)*v8)))))] [0] [] (q_vv [] 1 [9] [(9,vi (w64 (x5+1)))] ?_);exact q_hl (PL v2 (w64 (x4+(w64 (((v2.getD x5.toNat dd).Len)*v8)))) (w64 (x5+1))) (ih (w64 (x4+(w64 (((v2.getD x5.toNat dd).Len)*v8)))) (w64 (x5+1)) _ hm)
  ·refine q_ex 0 ?_;obtain rfl:=oi hm;exact q_l0
theorem qD3 (a1:List qV) (r:Int) (hm:VV a1=some r):CtX Tryz.prog globs 43 0 0 [.one (tl qX dd a1)] [] (qFh r) (qEF r):=by
 unfold VV at hm;refine q_E f43 23 λE=>?_;refine s_vn [] 0 ⟨[(0,vc (tl qX dd a1))],[]⟩ (s_va 0 [(3,vi 0)] ?_);refine q_sq ?_;obtain⟨v2,h3,hm⟩:=qE hm;refine s_vv [qc 1 [6] 0 (qEK a1 v2 h3)] 0 [0] [(7,vc (tl qX dd v2)),(8,vi (v2.length:Int)),(9,vi 0)] ?_;obtain⟨o11,h12,hm⟩:=qE hm;refine qZ (nd f43 116) 0 (by kernel_rfl) FUEL FY o11 (q_hl (PL v2 0 0) (qBl E v2 FUEL 0 0 o11 h12)) (s_vn [] 0 ⟨[(2,vi o11)],[]⟩ ?_);obtain rfl:=oi hm;exact q_rt q_rm
def DP (r:Bool):V:=vb r
def DX (r:Bool):List (Nat×(Nat×O)):=[]
def qBN (a1:List qA) (x2:Int) (x6:Bool):St:=
 ⟨[(5,vc (tl qB dd a1)),(6,vi (a1.length:Int)),(7,vi x2),(18,vb x6)],[]⟩
def PQ (a1:List qA) (x2:Int):St:=
 ⟨[(5,vc (tl qB dd a1)),(6,vi (a1.length:Int)),(7,vi x2)],[]⟩
def FQ :St:=
 ⟨[],[]⟩
theorem qAW (E:Env 0) (a1:List qA):∀(n:Nat) (x2:Int) (res:Bool⊕Unit),wS a1 n x2=some res->HL (kx E 20 0) (nd f174 52) (wF 0 (λo=>FQ) (λv st=>RetQ Tryz.prog f174 (DP v) (DX v) .ret st) res) n (PQ a1 x2):=by
 intro n
 induction n with
 |zero=>
  intro x2 res hm;cases hm
 |succ n ih=>
  intro x2 res hm;refine qR (s_va 0 [(8,vb (decide (x2<(a1.length:Int))))] ?_);refine q_sq (q_cq hm (λhm=>?_) (λhm=>?_))
  ·refine q_sk (q_sq ?_);refine q_bk 1 ?_;obtain⟨g4,hm⟩:=qJ hm;refine s_vu [qi 0 g4] 0 [8] [(4,vp 0 0)] [] [(0,bx 71 (qB (a1.getD x2.toNat dd)))] (q_jn (qBN a1 x2) (λp=>XG x2 (wS a1 n) p=some res) ?_ ?_)
   ·rintro x6 hm;refine q_cq hm (λhm=>?_) (λhm=>?_)
    ·refine s_vn [] 1 ⟨[(2,vb false)],[]⟩ ?_;obtain rfl:=oi hm;refine q_rt (zC false ?_);exact q_rm
    ·refine q_sk (q_vv [] 1 [7,18] [(7,vi (w64 (x2+1)))] ?_);exact q_hl (PQ a1 (w64 (x2+1))) (ih (w64 (x2+1)) _ hm)
   ·rcases bif_c hm with⟨b5,hm⟩|⟨b5,hm⟩
    ·exact q_vu [qf 3 b5] 1 [4] [(18,vb true)] [0] [] (q_J (true) hm)
    ·exact q_vu [qf 3 b5] 1 [4] [(18,vb (((a1.getD x2.toNat dd).Y)==(-9223372036854775808)))] [0] [] (q_J (((a1.getD x2.toNat dd).Y)==(-9223372036854775808)) hm)
  ·refine q_ex 0 ?_;obtain rfl:=oi hm;exact q_l1 ()
theorem qDK (a1:List qA) (r:Bool) (hm:XZ a1=some r):CtX Tryz.prog globs 174 0 0 [.one (tl qB dd a1)] [] (DP r) (DX r):=by
 unfold XZ at hm;refine q_E f174 20 λE=>?_;refine s_vn [] 0 ⟨[(0,vc (tl qB dd a1))],[]⟩ (q_sq ?_);refine s_vn [] 0 ⟨[(5,vc (tl qB dd a1)),(6,vi (a1.length:Int)),(7,vi 0)],[]⟩ ?_;obtain⟨u10,h9,hm⟩:=qE hm;refine zN (nd f174 52) 0 (by kernel_rfl) FUEL (λo=>FQ) (λv st=>RetQ Tryz.prog f174 (DP v) (DX v) .ret st) u10 (q_hl (PQ a1 0) (qAW E a1 FUEL 0 u10 h9)) ?_ ?_
 ·rintro v11 rfl st hr;obtain rfl:=oi hm;exact hr
 ·rintro o8 rfl;replace hm:_=some r:=hm;refine s_vn [] 0 ⟨[(2,vb true)],[]⟩ ?_;obtain rfl:=oi hm;exact q_rt q_rm
open Go.Proofs Go.Proofs.Tryz
def qCn (r:(List qA)):V:=vo 0 0 2 r.length
def BK (r:(List qA)):List (Nat×(Nat×O)):=[(0,ro 0 71 2 r.length (rf qB r))]
theorem qIC (r:(List qA)):yM (BK r):=by
 intro i k o h;unfold BK at h;rw[look_cons] at h;split at h
 ·cases h;exact λ_ _=>rfl
 ·cases h
def GX (a1:List qA) (a2:Int) (l8:List qA) (l8n:Nat) (x9:Int):St:=
 ⟨[(5,vp 0 0),(6,vo 1 0 2 l8n),(21,vc (tl qB dd a1)),(22,vi (a1.length:Int)),(23,vi x9)],[(0,bx 71 (qB (qT.getD (Int.tmod (w64 ((Int.tmod a2 4)+4)) 4).toNat dd))),(1,ro 0 71 2 l8n (rf qB l8))]⟩
def IY (l13:List qA):St:=
 ⟨[(6,vo 1 0 2 l13.length)],[(1,ro 0 71 2 l13.length (rf qB l13))]⟩
theorem qDO (E:Env 0) (a1:List qA) (a2:Int):∀(n:Nat) (l8:List qA) (l8n:Nat) (x9:Int) (res:(List qA)),l8.length=l8n->WR a1 a2 n l8 x9=some res->HL (kx E 56 0) (nd f137 500) (zF 0 IY res) n (GX a1 a2 l8 l8n x9):=by
 intro n
 induction n with
 |zero=>
  intro l8 l8n x9 res hl0 hm;cases hm
 |succ n ih=>
  intro l8 l8n x9 res hl0 hm;subst hl0;refine qR (s_va 2 [(24,vb (decide (x9<(a1.length:Int))))] ?_);refine q_sq (q_cq hm (λhm=>?_) (λhm=>?_))
  ·refine q_sk (q_sq ?_);refine q_bk 1 ?_;obtain⟨g11,hm⟩:=qJ hm;refine s_vu [qi 1 g11] 2 [24] [(7,vi x9),(8,vp 2 0)] [] [(2,bx 71 (qB (a1.getD x9.toNat dd)))] ?_;obtain⟨g12,hm⟩:=qJ hm
   refine q_vu [qi 25 g12,qd 26 (drw 0 0 (rf qB (l8.set x9.toNat (qA.mk (w64 ((w64 (((qT.getD (Int.tmod (w64 ((Int.tmod a2 4)+4)) 4).toNat dd).X)*((a1.getD x9.toNat dd).X)))-(w64 (((qT.getD (Int.tmod (w64 ((Int.tmod a2 4)+4)) 4).toNat dd).Y)*((a1.getD x9.toNat dd).Y))))) (w64 ((w64 (((qT.getD (Int.tmod (w64 ((Int.tmod a2 4)+4)) 4).toNat dd).Y)*((a1.getD x9.toNat dd).X)))+(w64 (((qT.getD (Int.tmod (w64 ((Int.tmod a2 4)+4)) 4).toNat dd).X)*((a1.getD x9.toNat dd).Y))))))))) (stP qB dd (qA.mk (w64 ((w64 (((qT.getD (Int.tmod (w64 ((Int.tmod a2 4)+4)) 4).toNat dd).X)*((a1.getD x9.toNat dd).X)))-(w64 (((qT.getD (Int.tmod (w64 ((Int.tmod a2 4)+4)) 4).toNat dd).Y)*((a1.getD x9.toNat dd).Y))))) (w64 ((w64 (((qT.getD (Int.tmod (w64 ((Int.tmod a2 4)+4)) 4).toNat dd).Y)*((a1.getD x9.toNat dd).X)))+(w64 (((qT.getD (Int.tmod (w64 ((Int.tmod a2 4)+4)) 4).toNat dd).X)*((a1.getD x9.toNat dd).Y)))))) l8 l8.length x9.toNat 0 [ci (w64 ((w64 (((qT.getD (Int.tmod (w64 ((Int.tmod a2 4)+4)) 4).toNat dd).X)*((a1.getD x9.toNat dd).X)))-(w64 (((qT.getD (Int.tmod (w64 ((Int.tmod a2 4)+4)) 4).toNat dd).Y)*((a1.getD x9.toNat dd).Y))))),ci (w64 ((w64 (((qT.getD (Int.tmod (w64 ((Int.tmod a2 4)+4)) 4).toNat dd).Y)*((a1.getD x9.toNat dd).X)))+(w64 (((qT.getD (Int.tmod (w64 ((Int.tmod a2 4)+4)) 4).toNat dd).X)*((a1.getD x9.toNat dd).Y)))))] rfl (qU (zA g12)) rfl)] 3 [7,8] [] [1,2] [(1,ro 0 71 2 l8.length (rf qB (l8.set x9.toNat (qA.mk (w64 ((w64 (((qT.getD (Int.tmod (w64 ((Int.tmod a2 4)+4)) 4).toNat dd).X)*((a1.getD x9.toNat dd).X)))-(w64 (((qT.getD (Int.tmod (w64 ((Int.tmod a2 4)+4)) 4).toNat dd).Y)*((a1.getD x9.toNat dd).Y))))) (w64 ((w64 (((qT.getD (Int.tmod (w64 ((Int.tmod a2 4)+4)) 4).toNat dd).Y)*((a1.getD x9.toNat dd).X)))+(w64 (((qT.getD (Int.tmod (w64 ((Int.tmod a2 4)+4)) 4).toNat dd).X)*((a1.getD x9.toNat dd).Y)))))))))] ?_
   refine q_vv [] 3 [23] [(23,vi (w64 (x9+1)))] ?_
   exact q_hl (GX a1 a2 (l8.set x9.toNat (qA.mk (w64 ((w64 (((qT.getD (Int.tmod (w64 ((Int.tmod a2 4)+4)) 4).toNat dd).X)*((a1.getD x9.toNat dd).X)))-(w64 (((qT.getD (Int.tmod (w64 ((Int.tmod a2 4)+4)) 4).toNat dd).Y)*((a1.getD x9.toNat dd).Y))))) (w64 ((w64 (((qT.getD (Int.tmod (w64 ((Int.tmod a2 4)+4)) 4).toNat dd).Y)*((a1.getD x9.toNat dd).X)))+(w64 (((qT.getD (Int.tmod (w64 ((Int.tmod a2 4)+4)) 4).toNat dd).X)*((a1.getD x9.toNat dd).Y))))))) l8.length (w64 (x9+1))) (ih (l8.set x9.toNat (qA.mk (w64 ((w64 (((qT.getD (Int.tmod (w64 ((Int.tmod a2 4)+4)) 4).toNat dd).X)*((a1.getD x9.toNat dd).X)))-(w64 (((qT.getD (Int.tmod (w64 ((Int.tmod a2 4)+4)) 4).toNat dd).Y)*((a1.getD x9.toNat dd).Y))))) (w64 ((w64 (((qT.getD (Int.tmod (w64 ((Int.tmod a2 4)+4)) 4).toNat dd).Y)*((a1.getD x9.toNat dd).X)))+(w64 (((qT.getD (Int.tmod (w64 ((Int.tmod a2 4)+4)) 4).toNat dd).X)*((a1.getD x9.toNat dd).Y))))))) l8.length (w64 (x9+1)) _ (jP rfl) hm)
  ·refine q_ex 0 ?_;obtain rfl:=oi hm;exact q_l0
theorem qHy (a1:List qA) (a2:Int) (r:(List qA)) (hm:NG a1 a2=some r):CtX Tryz.prog globs 137 0 0 [.one (tl qB dd a1),.one (ci a2)] [] (qCn r) (BK r):=by
 unfold NG at hm;refine q_E f137 56 λE=>?_;refine s_vn [] 0 ⟨[(0,vc (tl qB dd a1)),(1,vi a2)],[]⟩ (q_sq ?_);obtain⟨v3,h4,hm⟩:=qE hm;refine s_vv [qc 1 [9] 0 (qDK a1 v3 h4)] 0 [] [(11,vb (!v3))] (q_cq hm (λhm=>?_) (λhm=>?_))
 ·refine s_vn [] 0 ⟨[(4,vc (.emp))],[]⟩ (q_fn [.own 4 0 71 2 (rf qB [])] ⟨[(4,vo 0 0 2 0)],[(0,ro 0 71 2 0 (rf qB []))]⟩ o0 ?_);refine q_fn [.len 0 (([]:List qA).length)] ⟨[(4,vo 0 0 2 (([]:List qA).length))],[(0,ro 0 71 2 (([]:List qA).length) (rf qB []))]⟩ (o1 (And.intro (show 0=([]:List qA).length from rfl) (show 0=([]:List qA).length from rfl))) ?_;obtain rfl:=oi hm;exact q_rt q_rm
 ·refine q_sk ?_;obtain⟨g6,hm⟩:=qJ hm;refine s_vu [qd 1 dN (show(4:Int)≠0 by decide),qd 3 dN (show(4:Int)≠0 by decide),qi 4 g6] 0 [1,11] [(5,vp 0 0)] [] [(0,bx 71 (qB (qT.getD (Int.tmod (w64 ((Int.tmod a2 4)+4)) 4).toNat dd)))] ?_;obtain⟨g7,hm⟩:=qJ hm;refine s_vu [qd 2 (drw 1 0 (rf qB (List.replicate ((a1.length:Int).toNat) (qA.mk 0 0)))) (mkP qB dd (qA.mk 0 0) (a1.length:Int) 16 [ci 0,ci 0] (DW g7) rfl)] 1 [] [(6,vo 1 0 2 ((a1.length:Int).toNat))] [] [(1,ro 0 71 2 ((a1.length:Int).toNat) (rf qB (List.replicate ((a1.length:Int).toNat) (qA.mk 0 0))))] (q_sq ?_)
  refine s_vv [] 2 [0] [(21,vc (tl qB dd a1)),(22,vi (a1.length:Int)),(23,vi 0)] ?_;obtain⟨o14,h15,hm⟩:=qE hm;refine qZ (nd f137 500) 0 (by kernel_rfl) FUEL IY o14 (q_hl (GX a1 a2 (List.replicate ((a1.length:Int).toNat) (qA.mk 0 0)) ((a1.length:Int).toNat) 0) (qDO E a1 a2 FUEL (List.replicate ((a1.length:Int).toNat) (qA.mk 0 0)) ((a1.length:Int).toNat) 0 o14 GT h15)) (s_vv [] 2 [6] [(4,vo 1 0 2 o14.length)] ?_);obtain rfl:=oi hm;exact q_sw 1 0 (q_rt q_rm)
end Saw
end Go.SL

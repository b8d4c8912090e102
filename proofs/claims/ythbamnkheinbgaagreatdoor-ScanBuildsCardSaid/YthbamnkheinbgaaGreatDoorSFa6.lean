import Derived.Test.YthbamnkheinbgaaGreatDoorSBase
import Derived.Test.YthbamnkheinbgaaGreatDoorSFa5
import Derived.Test.YthbamnkheinbgaaGreatDoorSFa4
import Derived.Test.YthbamnkheinbgaaGreatDoorSFa3
set_option linter.unusedVariables false
set_option linter.unusedSimpArgs false
namespace Go.SL
namespace Saw
open Go.Proofs Go.Proofs.Tryz
set_option maxHeartbeats 4000000
set_option maxRecDepth 100000
def qAd (r:Scan×Bool):V:= .tup [.agg [.own 0 0 2 r.1.Rings.length,.own 1 0 7 r.1.Defects.length],.one (cb r.2)]
def qAm (r:Scan×Bool):List (Nat×(Nat×O)):=[(0,ro 0 45 2 r.1.Rings.length (rf qN r.1.Rings)),(1,ro 0 68 7 r.1.Defects.length (rf qR r.1.Defects))]
def GC :St:=
 ⟨[(2,vp 0 0),(4,vp 2 0),(5,vc (.fn 108 [.bptr 2 0 0])),(6,vp 3 0)],[(0,bx 25 [.emp,.emp]),(2,bx 129 [.bptr 1 0 0])]⟩
def FP (v2:qI) (v4:(List Int)×Int×Int) (x6:Int) (l7:List Ring) (l7n:Nat) (x8:Int) (x9:Int):St:=
 (GC).up [] [(17,vo 4 0 1 v4.1.length),(18,vi (v4.1.length:Int)),(19,vi x6)] [] [(1,bx 172 [cs v2.s,ci x8,ci x9]),(3,bx 25 [.own 5 0 2 l7n,.emp]),(4,ro 0 3 1 v4.1.length (rf qM v4.1)),(5,ro 0 45 2 l7n (rf qN l7))]
def qBh (l18:List Ring) (x19:qI):St:=
 (GC).up [] [] [] [(1,bx 172 (qK x19)),(3,bx 25 [.own 5 0 2 l18.length,.emp]),(5,ro 0 45 2 l18.length (rf qN l18))]
def qIq (o20:(List Ring)×qI) (v26:(List qL)×Bool) (x31:Bool):St:=
 (GC).up [4,5] [(11,vo 7 0 7 v26.1.length),(53,vb x31)] [2] [(3,bx 25 [.own 5 0 2 o20.1.length,.emp]),(5,ro 0 45 2 o20.1.length (rf qN o20.1)),(7,ro 0 68 7 v26.1.length (rf qR v26.1))]
theorem qGA (E:Env 0) (v2:qI) (v4:(List Int)×Int×Int):∀(n:Nat) (x6:Int) (l7:List Ring) (l7n:Nat) (x8:Int) (x9:Int) (res:(Scan×Bool)⊕((List Ring)×qI)),l7.length=l7n->AH v2 v4 n x6 l7 x8 x9=some res->HL (kx E 58 0) (nd f54 500) (wL 0 (λo=>qBh o.1 o.2) (λv st=>RetQ Tryz.prog f54 (qAd v) (qAm v) .ret st) res) n (FP v2 v4 x6 l7 l7n x8 x9):=by
 intro n
 induction n with
 |zero=>
  intro x6 l7 l7n x8 x9 res hl0 hm;cases hm
 |succ n ih=>
  intro x6 l7 l7n x8 x9 res hl0 hm;subst hl0;refine qP (s_va 6 [(20,vb (decide (x6<(v4.1.length:Int))))] ?_);refine q_sq (q_cq hm (λhm=>?_) (λhm=>?_))
  ·refine q_sk (q_sq ?_);refine q_bk 1 ?_;obtain⟨g11,hm⟩:=qH hm;refine s_vv [qi 0 g11,qd 1 dN (zC (zO g11))] 6 [20] [(8,vi (v4.1.getD x6.toNat dd))] ?_;obtain⟨v12,h13,hm⟩:=qD hm;obtain⟨v14,h15,hm⟩:=qD hm
   refine s_vu [qd 1 (dex (cen [(2,0),(1,0)] [0,0] 4 2 (VI 96 (qI.mk v2.s x8 x9) v12) (UQ 96 (qI.mk v2.s x8 x9) v12) [24] [2,1])) (zJ (K:=(kx E 58 0)) ⟨[(24,vc (.fn 108 [.bptr 2 0 0]))],[(2,bx 129 [.bptr 1 0 0]),(1,bx 172 [cs v2.s,ci x8,ci x9])]⟩ (opAt (rg f54 32050) 1) [(2,0),(1,0)] [0,0] 4 o0 rfl (FL 96 (qI.mk v2.s x8 x9) v12 h13) (.inl rfl) (by kernel_rfl)),qd 2 (dex (cen [] [] 7 0 (YV v14) (yV v14) [25] [6])) (zJ (K:=(kx E 58 0)) (b:=false) ⟨[(25,vo 6 0 1 v12.1.length)],[(6,ro 0 3 1 v12.1.length (rf qM v12.1))]⟩ (opAt (rg f54 32050) 2) [] [] 7 (o1 (ki v12.1.length)) rfl (qEx v12.1 v14 h15) (.inr ⟨(by kernel_rfl),qFq v14⟩) (by kernel_rfl))] 6 [] [(9,vo 7 0 3 v14.1.length),(10,vb v14.2)] [1] [(1,bx 172 [cs ((qI.mk v2.s x8 x9).s),ci v12.2.1,ci v12.2.2]),(7,ro 0 73 3 v14.1.length (rf qG v14.1))] ?_
   refine q_sq (s_vv [] 8 [10] [(30,vb (!v14.2))] ?_);refine q_cq hm (λhm=>?_) (λhm=>?_)
   ·refine s_vn [] 8 ⟨[(2,vp 0 0),(3,vb false)],[(0,bx 25 [.emp,.emp])]⟩ (q_fu [.ownB 0 0 8 45 2 (rf qN [])] [] [] [0] [(0,bx 25 [.own 8 0 2 0,.emp]),(8,ro 0 45 2 0 (rf qN []))] o0 ?_);refine q_fu [.ownB 0 1 9 68 7 (rf qR [])] [] [] [0] [(0,bx 25 [.own 8 0 2 0,.own 9 0 7 0]),(9,ro 0 68 7 0 (rf qR []))] o0 (q_fu [.len 8 (([]:List Ring).length)] [] [] [0,8] [(0,bx 25 [.own 8 0 2 (([]:List Ring).length),.own 9 0 7 0]),(8,ro 0 45 2 (([]:List Ring).length) (rf qN []))] (o1 (And.intro (show 0=([]:List Ring).length from rfl) (show 0=([]:List Ring).length from rfl))) ?_)
    refine q_fu [.len 9 (([]:List qL).length)] [] [] [0,9] [(0,bx 25 [.own 8 0 2 (([]:List Ring).length),.own 9 0 7 (([]:List qL).length)]),(9,ro 0 68 7 (([]:List qL).length) (rf qR []))] (o1 (And.intro (show 0=([]:List qL).length from rfl) (show 0=([]:List qL).length from rfl))) ?_;obtain rfl:=oi hm;refine q_sw 8 0 (q_sw 9 1 ?_);refine q_rt (zG ((Scan.mk ([]:List Ring) ([]:List qL)),false) ?_);exact q_rm
   ·refine q_sk ?_;obtain⟨g17,hm⟩:=qH hm
    refine q_vu [qd 5 (dpr [.frz 7] (drw 8 0 (rf qN [(Ring.mk (v4.1.getD x6.toNat dd) v14.1)]))) (And.intro (ki v14.1.length) (And.intro (ki v14.1.length) (ki v14.1.length))),qd 5 dN (litP qN dd 2 (λ_=>rfl) ([(Ring.mk (v4.1.getD x6.toNat dd) v14.1)]:List Ring) 1 rfl),qd 6 (drw 5 1 (rf qN (l7++[(Ring.mk (v4.1.getD x6.toNat dd) v14.1)]))) (apP qN dd l7 ([(Ring.mk (v4.1.getD x6.toNat dd) v14.1)]:List Ring) l7.length 1 2 32 (1<=1) (ki _) rfl rfl (λ_=>rfl) (zK g17))] 8 [8,9,30] [] [3,5,7] [(3,bx 25 [.own 5 1 2 (l7.length+1),.emp]),(5,ro 1 45 2 (l7.length+1) (rf qN (l7++[(Ring.mk (v4.1.getD x6.toNat dd) v14.1)])))] (q_vv [] 9 [19] [(19,vi (w64 (x6+1)))] ?_)
    exact q_hl (FP v2 v4 (w64 (x6+1)) (l7++[(Ring.mk (v4.1.getD x6.toNat dd) v14.1)]) (l7.length+1) v12.2.1 v12.2.2) (ih (w64 (x6+1)) (l7++[(Ring.mk (v4.1.getD x6.toNat dd) v14.1)]) (l7.length+1) v12.2.1 v12.2.2 _ (zA rfl rfl) hm)
  ·refine q_ex 0 ?_;obtain rfl:=oi hm;exact L1_mk (l7,(qI.mk v2.s x8 x9)) (by kernel_rfl) (by kernel_rfl)
theorem qK7 (a1:ByteArray) (r:Scan×Bool) (hm:qCA a1=some r):CtX Tryz.prog globs 54 0 0 [.one (cs a1)] [] (qAd r) (qAm r):=by
 unfold qCA at hm;refine q_E f54 58 λE=>?_;refine s_vn [] 0 ⟨[(0,vc (cs a1)),(2,vp 0 0)],[(0,bx 25 [.emp,.emp])]⟩ ?_;obtain⟨v2,h3,hm⟩:=qD hm;refine s_vu [qc 1 [13] 1 (qFj a1 v2 h3)] 1 [0] [(4,vp 2 0)] [] [(1,bx 172 (qK v2)),(2,bx 129 [.bptr 1 0 0])] (s_va 3 [(5,vc (.fn 108 [.bptr 2 0 0]))] ?_);refine s_vu [] 3 [] [(6,vp 3 0)] [] [(3,bx 25 [.emp,.emp])] (q_sq ?_);obtain⟨v4,h5,hm⟩:=qD hm
 refine s_vu [qd 1 (dex (cen [(2,0),(1,0)] [0,0] 2 2 (VI 24 v2 v4) (UQ 24 v2 v4) [16] [2,1])) (zJ (K:=(kx E 58 0)) ⟨[(16,vc (.fn 108 [.bptr 2 0 0]))],[(2,bx 129 [.bptr 1 0 0]),(1,bx 172 (qK v2))]⟩ (opAt (rg f54 124) 1) [(2,0),(1,0)] [0,0] 2 o0 rfl (FL 24 v2 v4 h5) (.inl rfl) (by kernel_rfl))] 4 [] [(17,vo 4 0 1 v4.1.length),(18,vi (v4.1.length:Int)),(19,vi 0)] [1] [(1,bx 172 [cs v2.s,ci v4.2.1,ci v4.2.2]),(4,ro 0 3 1 v4.1.length (rf qM v4.1))] (q_fu [.ownB 3 0 5 45 2 (rf qN [])] [] [] [3] [(3,bx 25 [.own 5 0 2 0,.emp]),(5,ro 0 45 2 0 (rf qN []))] o0 ?_);obtain⟨u22,h21,hm⟩:=qD hm
 refine zR (nd f54 500) 0 (by kernel_rfl) FUEL (λo=>qBh o.1 o.2) (λv st=>RetQ Tryz.prog f54 (qAd v) (qAm v) .ret st) u22 (q_hl (FP v2 v4 0 ([]:List Ring) 0 v4.2.1 v4.2.2) (qGA E v2 v4 FUEL 0 ([]:List Ring) 0 v4.2.1 v4.2.2 u22 rfl h21)) ?_ ?_
 ·rintro v23 rfl st hr;obtain rfl:=oi hm;exact hr
 ·rintro o20 rfl;replace hm:_=some r:=hm;obtain⟨v24,h25,hm⟩:=qD hm;obtain⟨v26,h27,hm⟩:=qD hm
  refine s_vu [qd 1 (dex (cen [(2,0),(1,0)] [0,0] 4 2 (VI 448 o20.2 v24) (UQ 448 o20.2 v24) [42] [2,1])) (zJ (K:=(kx E 58 0)) ⟨[(42,vc (.fn 108 [.bptr 2 0 0]))],[(2,bx 129 [.bptr 1 0 0]),(1,bx 172 (qK o20.2))]⟩ (opAt (rg f54 126) 1) [(2,0),(1,0)] [0,0] 4 o0 rfl (FL 448 o20.2 v24 h25) (.inl rfl) (by kernel_rfl)),qd 2 (dex (cen [] [] 7 0 (CW v26) (KY v26) [43] [6])) (zJ (K:=(kx E 58 0)) (b:=false) ⟨[(43,vo 6 0 1 v24.1.length)],[(6,ro 0 3 1 v24.1.length (rf qM v24.1))]⟩ (opAt (rg f54 126) 2) [] [] 7 (o1 (ki v24.1.length)) rfl (qFl v24.1 v26 h27) (.inr ⟨(by kernel_rfl),qGN v26⟩) (by kernel_rfl))] 6 [5] [(11,vo 7 0 7 v26.1.length),(12,vb v26.2)] [1] [(1,bx 172 [cs o20.2.s,ci v24.2.1,ci v24.2.2]),(7,ro 0 68 7 v26.1.length (rf qR v26.1))] ?_
  refine q_sq (q_jn (qIq o20 v26) (λp=>AJ o20 v26 p=some r) ?_ ?_)
  ·rintro x31 hm;refine q_cq hm (λhm=>?_) (λhm=>?_)
   ·refine s_vu [] 8 [6,11,53] [(3,vb false)] [3,5,7] [] (q_fu [.ownB 0 0 8 45 2 (rf qN [])] [] [] [0] [(0,bx 25 [.own 8 0 2 0,.emp]),(8,ro 0 45 2 0 (rf qN []))] o0 ?_);refine q_fu [.ownB 0 1 9 68 7 (rf qR [])] [] [] [0] [(0,bx 25 [.own 8 0 2 0,.own 9 0 7 0]),(9,ro 0 68 7 0 (rf qR []))] o0 (q_fu [.len 8 (([]:List Ring).length)] [] [] [0,8] [(0,bx 25 [.own 8 0 2 (([]:List Ring).length),.own 9 0 7 0]),(8,ro 0 45 2 (([]:List Ring).length) (rf qN []))] (o1 (And.intro (show 0=([]:List Ring).length from rfl) (show 0=([]:List Ring).length from rfl))) ?_)
    refine q_fu [.len 9 (([]:List qL).length)] [] [] [0,9] [(0,bx 25 [.own 8 0 2 (([]:List Ring).length),.own 9 0 7 (([]:List qL).length)]),(9,ro 0 68 7 (([]:List qL).length) (rf qR []))] (o1 (And.intro (show 0=([]:List qL).length from rfl) (show 0=([]:List qL).length from rfl))) ?_;obtain rfl:=oi hm;refine q_sw 8 0 (q_sw 9 1 ?_);exact q_rt q_rm
   ·refine q_sk (s_vu [] 8 [11,53] [] [3] [(3,bx 25 [.own 5 0 2 o20.1.length,.own 7 0 7 v26.1.length])] ?_);refine s_vu [] 8 [6] [(3,vb true)] [0,3] [(0,bx 25 [.own 5 0 2 o20.1.length,.own 7 0 7 v26.1.length])] ?_;obtain rfl:=oi hm;refine q_sw 5 0 (q_sw 7 1 ?_);exact q_rt q_rm
  ·rcases bif_c hm with⟨b28,hm⟩|⟨b28,hm⟩
   ·exact q_vu [qf 2 b28] 8 [4,12] [(53,vb true)] [1,2] [] (q_J (true) hm)
   ·obtain⟨v29,h30,hm⟩:=qD hm;exact q_vu [qf 2 b28,qd 4 (dex (cen [(1,0)] [0] 7 1 (IQ (qI.mk o20.2.s v24.2.1 v24.2.2) v29) (IL (qI.mk o20.2.s v24.2.1 v24.2.2) v29) [49,50] [1])) (zJ (K:=(kx E 58 0)) ⟨[(49,vb false),(50,vp 1 0)],[(1,bx 172 [cs o20.2.s,ci v24.2.1,ci v24.2.2])]⟩ (opAt (rg f54 508) 4) [(1,0)] [0] 7 o0 rfl (qEe (qI.mk o20.2.s v24.2.1 v24.2.2) v29 h30) (.inl rfl) (by kernel_rfl))] 8 [4,12] [(53,vb (v29 !=0))] [1,2] [] (q_J (v29 !=0) hm)
def qLo (r:Scan×Int):V:= .tup [.agg [.own 0 0 2 r.1.Rings.length,.own 1 0 7 r.1.Defects.length],.one (ci r.2)]
def qLz (r:Scan×Int):List (Nat×(Nat×O)):=[(0,ro 0 45 2 r.1.Rings.length (rf qN r.1.Rings)),(1,ro 0 68 7 r.1.Defects.length (rf qR r.1.Defects))]
theorem qJD (a1:ByteArray) (r:Scan×Int) (hm:PW a1=some r):CtX Tryz.prog globs 21 0 0 [.one (cs a1)] [] (qLo r) (qLz r):=by
 unfold PW at hm;refine q_E f21 22 λE=>?_;refine s_vn [] 0 ⟨[(0,vc (cs a1)),(2,vp 0 0)],[(0,bx 25 [.emp,.emp])]⟩ ?_;obtain⟨v2,h3,hm⟩:=qD hm;refine s_vu [qc 1 [8] 1 (qK7 a1 v2 h3)] 1 [0] [(4,vp 3 0),(5,vb v2.2)] [] [(1,ro 0 45 2 v2.1.Rings.length (rf qN v2.1.Rings)),(2,ro 0 68 7 v2.1.Defects.length (rf qR v2.1.Defects)),(3,bx 25 [.own 1 0 2 v2.1.Rings.length,.own 2 0 7 v2.1.Defects.length])] (q_sq ?_);refine s_vv [] 4 [5] [(13,vb (!v2.2))] (q_cq hm (λhm=>?_) (λhm=>?_))
 ·refine s_vu [] 4 [4,13] [(3,vi 5)] [1,2,3] [] (q_fu [.ownB 0 0 4 45 2 (rf qN [])] [] [] [0] [(0,bx 25 [.own 4 0 2 0,.emp]),(4,ro 0 45 2 0 (rf qN []))] o0 ?_);refine q_fu [.ownB 0 1 5 68 7 (rf qR [])] [] [] [0] [(0,bx 25 [.own 4 0 2 0,.own 5 0 7 0]),(5,ro 0 68 7 0 (rf qR []))] o0 (q_fu [.len 4 (([]:List Ring).length)] [] [] [0,4] [(0,bx 25 [.own 4 0 2 (([]:List Ring).length),.own 5 0 7 0]),(4,ro 0 45 2 (([]:List Ring).length) (rf qN []))] (o1 (And.intro (show 0=([]:List Ring).length from rfl) (show 0=([]:List Ring).length from rfl))) ?_)
  refine q_fu [.len 5 (([]:List qL).length)] [] [] [0,5] [(0,bx 25 [.own 4 0 2 (([]:List Ring).length),.own 5 0 7 (([]:List qL).length)]),(5,ro 0 68 7 (([]:List qL).length) (rf qR []))] (o1 (And.intro (show 0=([]:List qL).length from rfl) (show 0=([]:List qL).length from rfl))) ?_;obtain rfl:=oi hm;refine q_sw 4 0 (q_sw 5 1 ?_);exact q_rt q_rm
 ·refine q_sk (q_sq ?_);obtain⟨v5,h6,hm⟩:=qD hm;refine s_vv [qd 1 (dex (cen [] [] 4 0 (XE v5) (QV v5) [15] [1,2])) (zJ (K:=(kx E 22 0)) (b:=false) ⟨[(15,va [.own 1 0 2 v2.1.Rings.length,.own 2 0 7 v2.1.Defects.length])],[(1,ro 0 45 2 v2.1.Rings.length (rf qN v2.1.Rings)),(2,ro 0 68 7 v2.1.Defects.length (rf qR v2.1.Defects))]⟩ (opAt (rg f21 60) 1) [] [] 4 (o1 (And.intro (ki v2.1.Rings.length) (ki v2.1.Defects.length))) rfl (BB (Scan.mk v2.1.Rings v2.1.Defects) v5 h6) (.inr ⟨(by kernel_rfl),qNv v5⟩) (by kernel_rfl))] 4 [13] [(6,vi v5)] (s_va 4 [(18,vb (v5 !=0))] ?_)
  refine q_cq hm (λhm=>?_) (λhm=>?_)
  ·refine s_vu [] 4 [4,6,18] [(3,vi v5)] [1,2,3] [] (q_fu [.ownB 0 0 4 45 2 (rf qN [])] [] [] [0] [(0,bx 25 [.own 4 0 2 0,.emp]),(4,ro 0 45 2 0 (rf qN []))] o0 ?_);refine q_fu [.ownB 0 1 5 68 7 (rf qR [])] [] [] [0] [(0,bx 25 [.own 4 0 2 0,.own 5 0 7 0]),(5,ro 0 68 7 0 (rf qR []))] o0 (q_fu [.len 4 (([]:List Ring).length)] [] [] [0,4] [(0,bx 25 [.own 4 0 2 (([]:List Ring).length),.own 5 0 7 0]),(4,ro 0 45 2 (([]:List Ring).length) (rf qN []))] (o1 (And.intro (show 0=([]:List Ring).length from rfl) (show 0=([]:List Ring).length from rfl))) ?_)
   refine q_fu [.len 5 (([]:List qL).length)] [] [] [0,5] [(0,bx 25 [.own 4 0 2 (([]:List Ring).length),.own 5 0 7 (([]:List qL).length)]),(5,ro 0 68 7 (([]:List qL).length) (rf qR []))] (o1 (And.intro (show 0=([]:List qL).length from rfl) (show 0=([]:List qL).length from rfl))) ?_;obtain rfl:=oi hm;refine q_sw 4 0 (q_sw 5 1 ?_);exact q_rt q_rm
  ·refine q_sk (s_vu [] 4 [4,6,18] [(3,vi 0)] [0,3] [(0,bx 25 [.own 1 0 2 v2.1.Rings.length,.own 2 0 7 v2.1.Defects.length])] ?_);obtain rfl:=oi hm;refine q_sw 1 0 (q_sw 2 1 ?_);exact q_rt q_rm
def WZ (r:Bool):V:=vb r
def JB (r:Bool):List (Nat×(Nat×O)):=[]
def ZL (a1:List qE) (a2:List qE) (x4:Int):St:=
 ⟨[(0,vc (tl qG dd a1)),(1,vc (tl qG dd a2)),(12,vi (a1.length:Int)),(13,vi x4)],[]⟩
def PN :St:=
 ⟨[],[]⟩
theorem EC (E:Env 0) (a1:List qE) (a2:List qE):∀(n:Nat) (x4:Int) (res:Bool⊕Unit),WP a1 a2 n x4=some res->HL (kx E 26 0) (nd f59 116) (wL 0 (λo=>PN) (λv st=>RetQ Tryz.prog f59 (WZ v) (JB v) .ret st) res) n (ZL a1 a2 x4):=by
 intro n
 induction n with
 |zero=>
  intro x4 res hm;cases hm
 |succ n ih=>
  intro x4 res hm;refine qP (s_va 0 [(14,vb (decide (x4<(a1.length:Int))))] ?_);refine q_sq (q_cq hm (λhm=>?_) (λhm=>?_))
  ·refine q_sk (q_sq ?_);refine q_bk 1 (s_vv [] 0 [14] [(5,vi x4)] ?_);obtain⟨g6,hm⟩:=qH hm;obtain⟨g7,hm⟩:=qH hm;refine s_du [qi 2 g6,qi 6 g7] [0,0,3,7,0,0,48,112,255] 0 [5] [(24,vb (!((((((a1.getD x4.toNat dd).P).X)==(((a2.getD x4.toNat dd).P).X))&&(((((a1.getD x4.toNat dd).P).Y)==(((a2.getD x4.toNat dd).P).Y))&&true))&&((((a1.getD x4.toNat dd).Ok)==((a2.getD x4.toNat dd).Ok))&&true))))] [] [] (q_cq hm (λhm=>?_) (λhm=>?_))
   ·refine s_vn [] 0 ⟨[(4,vb false)],[]⟩ ?_;obtain rfl:=oi hm;refine q_rt (zG false ?_);exact q_rm
   ·refine q_sk (q_vv [] 0 [13,24] [(13,vi (w64 (x4+1)))] ?_);exact q_hl (ZL a1 a2 (w64 (x4+1))) (ih (w64 (x4+1)) _ hm)
  ·refine q_ex 0 ?_;obtain rfl:=oi hm;exact q_l1 ()
theorem CU (a1:List qE) (a2:List qE) (r:Bool) (hm:XY a1 a2=some r):CtX Tryz.prog globs 59 0 0 [.one (tl qG dd a1),.one (tl qG dd a2)] [] (WZ r) (JB r):=by
 unfold XY at hm;refine q_E f59 26 λE=>?_;refine s_vn [] 0 ⟨[(0,vc (tl qG dd a1)),(1,vc (tl qG dd a2))],[]⟩ (q_sq ?_);refine s_va 0 [(10,vb ((a1.length:Int) !=(a2.length:Int)))] (q_cq hm (λhm=>?_) (λhm=>?_))
 ·refine s_vn [] 0 ⟨[(4,vb false)],[]⟩ ?_;obtain rfl:=oi hm;exact q_rt q_rm
 ·refine q_sk (q_sq ?_);refine s_vv [] 0 [10] [(12,vi (a1.length:Int)),(13,vi 0)] ?_;obtain⟨u11,h10,hm⟩:=qD hm;refine zR (nd f59 116) 0 (by kernel_rfl) FUEL (λo=>PN) (λv st=>RetQ Tryz.prog f59 (WZ v) (JB v) .ret st) u11 (q_hl (ZL a1 a2 0) (EC E a1 a2 FUEL 0 u11 h10)) ?_ ?_
  ·rintro v12 rfl st hr;obtain rfl:=oi hm;exact hr
  ·rintro o9 rfl;replace hm:_=some r:=hm;refine s_vn [] 0 ⟨[(4,vb true)],[]⟩ ?_;obtain rfl:=oi hm;exact q_rt q_rm
open Go.Proofs Go.Proofs.Tryz
def qLd (r:Bool):V:=vb r
def qKT (r:Bool):List (Nat×(Nat×O)):=[]
def qGs (x6:Bool):St:=
 ⟨[(4,vb x6)],[]⟩
theorem qI5 (a1:Ring) (a2:Ring) (r:Bool) (hm:qBP a1 a2=some r):CtX Tryz.prog globs 58 0 0 [.agg (qN a1),.agg (qN a2)] [] (qLd r) (qKT r):=by
 unfold qBP at hm;refine q_E f58 17 λE=>?_;refine s_vn [] 0 ⟨[(2,vp 0 0),(3,vp 1 0)],[(0,bx 45 (qN a1)),(1,bx 45 (qN a2))]⟩ (q_jn (qGs) (λp=>MS p=some r) ?_ ?_)
 ·rintro x6 hm;obtain rfl:=oi hm;exact q_rt q_rm
 ·rcases bif_c hm with⟨b3,hm⟩|⟨b3,hm⟩
  ·obtain⟨v4,h5,hm⟩:=qD hm;exact q_vn [qf 5 b3,qk 10 [10,12,14] 2 ⟨[(10,vb true),(12,vc (tl qG dd a1.Read)),(14,vc (tl qG dd a2.Read))],[]⟩ (CU a1.Read a2.Read v4 h5)] 2 ⟨[(4,vb v4)],[]⟩ (q_J (v4) hm)
  ·exact q_vn [qf 5 b3] 2 ⟨[(4,vb false)],[]⟩ (q_J (false) hm)
def WS (r:Bool):V:=vb r
def WL (r:Bool):List (Nat×(Nat×O)):=[]
def QW (a1:List Ring) (a2:List Ring) (x4:Int):St:=
 ⟨[(1,vc (tl qN dd a2)),(2,vc (.fn 58 [])),(15,vc (tl qN dd a1)),(16,vi (a1.length:Int)),(17,vi x4)],[]⟩
def KF :St:=
 ⟨[],[]⟩
theorem HE (E:Env 0) (a1:List Ring) (a2:List Ring):∀(n:Nat) (x4:Int) (res:Bool⊕Unit),ZU a1 a2 n x4=some res->HL (kx E 32 0) (nd f60 116) (wL 0 (λo=>KF) (λv st=>RetQ Tryz.prog f60 (WS v) (WL v) .ret st) res) n (QW a1 a2 x4):=by
 intro n
 induction n with
 |zero=>
  intro x4 res hm;cases hm
 |succ n ih=>
  intro x4 res hm;refine qP (s_va 0 [(18,vb (decide (x4<(a1.length:Int))))] ?_);refine q_sq (q_cq hm (λhm=>?_) (λhm=>?_))
  ·refine q_sk (q_sq ?_);refine q_bk 1 ?_;obtain⟨g6,hm⟩:=qH hm;refine s_vu [qi 1 g6] 0 [18] [(7,vi x4),(8,vp 0 0)] [] [(0,bx 45 (qN (a1.getD x4.toNat dd)))] ?_;obtain⟨g7,hm⟩:=qH hm;refine s_vu [qi 2 g7] 1 [7] [(9,vp 1 0)] [] [(1,bx 45 (qN (a2.getD x4.toNat dd)))] ?_;obtain⟨v8,h9,hm⟩:=qD hm
   refine s_vu [qk 3 [26,27,28] 2 ⟨[(26,vc (.fn 58 [])),(27,va [ci ((a1.getD x4.toNat dd).Z),tl qG dd ((a1.getD x4.toNat dd).Read)]),(28,va [ci ((a2.getD x4.toNat dd).Z),tl qG dd ((a2.getD x4.toNat dd).Read)])],[]⟩ (qI5 (a1.getD x4.toNat dd) (a2.getD x4.toNat dd) v8 h9)] 2 [8,9] [(30,vb (!v8))] [0,1] [] (q_cq hm (λhm=>?_) (λhm=>?_))
   ·refine s_vn [] 2 ⟨[(6,vb false)],[]⟩ ?_;obtain rfl:=oi hm;refine q_rt (zG false ?_);exact q_rm
   ·refine q_sk (q_vv [] 2 [17,30] [(17,vi (w64 (x4+1)))] ?_);exact q_hl (QW a1 a2 (w64 (x4+1))) (ih (w64 (x4+1)) _ hm)
  ·refine q_ex 0 ?_;obtain rfl:=oi hm;exact q_l1 ()
theorem RX (a1:List Ring) (a2:List Ring) (r:Bool) (hm:YS a1 a2=some r):CtX Tryz.prog globs 60 0 0 [.one (tl qN dd a1),.one (tl qN dd a2),.one (.fn 58 [])] [] (WS r) (WL r):=by
 unfold YS at hm;refine q_E f60 32 λE=>?_;refine s_vn [] 0 ⟨[(0,vc (tl qN dd a1)),(1,vc (tl qN dd a2)),(2,vc (.fn 58 []))],[]⟩ (q_sq ?_);refine s_va 0 [(14,vb ((a1.length:Int) !=(a2.length:Int)))] (q_cq hm (λhm=>?_) (λhm=>?_))
 ·refine s_vn [] 0 ⟨[(6,vb false)],[]⟩ ?_;obtain rfl:=oi hm;exact q_rt q_rm
 ·refine q_sk (q_sq ?_);refine s_vv [] 0 [0,14] [(15,vc (tl qN dd a1)),(16,vi (a1.length:Int)),(17,vi 0)] ?_;obtain⟨u13,h12,hm⟩:=qD hm;refine zR (nd f60 116) 0 (by kernel_rfl) FUEL (λo=>KF) (λv st=>RetQ Tryz.prog f60 (WS v) (WL v) .ret st) u13 (q_hl (QW a1 a2 0) (HE E a1 a2 FUEL 0 u13 h12)) ?_ ?_
  ·rintro v14 rfl st hr;obtain rfl:=oi hm;exact hr
  ·rintro o11 rfl;replace hm:_=some r:=hm;refine s_vn [] 0 ⟨[(6,vb true)],[]⟩ ?_;obtain rfl:=oi hm;exact q_rt q_rm
def YT (r:Bool):V:=vb r
def YQ (r:Bool):List (Nat×(Nat×O)):=[]
def ZV (a1:List qL) (a2:List qL) (x4:Int):St:=
 ⟨[(0,vc (tl qR dd a1)),(1,vc (tl qR dd a2)),(12,vi (a1.length:Int)),(13,vi x4)],[]⟩
def TB :St:=
 ⟨[],[]⟩
theorem AR (E:Env 0) (a1:List qL) (a2:List qL):∀(n:Nat) (x4:Int) (res:Bool⊕Unit),WY a1 a2 n x4=some res->HL (kx E 26 0) (nd f61 116) (wL 0 (λo=>TB) (λv st=>RetQ Tryz.prog f61 (YT v) (YQ v) .ret st) res) n (ZV a1 a2 x4):=by
 intro n
 induction n with
 |zero=>
  intro x4 res hm;cases hm
 |succ n ih=>
  intro x4 res hm;refine qP (s_va 0 [(14,vb (decide (x4<(a1.length:Int))))] ?_);refine q_sq (q_cq hm (λhm=>?_) (λhm=>?_))
  ·refine q_sk (q_sq ?_);refine q_bk 1 (s_vv [] 0 [14] [(5,vi x4)] ?_);obtain⟨g6,hm⟩:=qH hm;obtain⟨g7,hm⟩:=qH hm
   refine s_du [qi 2 g6,qi 6 g7] [0,0,3,7,0,0,48,112,255] 0 [5] [(24,vb (!((((a1.getD x4.toNat dd).Kind)==((a2.getD x4.toNat dd).Kind))&&((((((((a1.getD x4.toNat dd).Box).X).A)==((((a2.getD x4.toNat dd).Box).X).A))&&((((((a1.getD x4.toNat dd).Box).X).B)==((((a2.getD x4.toNat dd).Box).X).B))&&true))&&(((((((a1.getD x4.toNat dd).Box).Y).A)==((((a2.getD x4.toNat dd).Box).Y).A))&&((((((a1.getD x4.toNat dd).Box).Y).B)==((((a2.getD x4.toNat dd).Box).Y).B))&&true))&&(((((((a1.getD x4.toNat dd).Box).Z).A)==((((a2.getD x4.toNat dd).Box).Z).A))&&((((((a1.getD x4.toNat dd).Box).Z).B)==((((a2.getD x4.toNat dd).Box).Z).B))&&true))&&true)))&&true))))] [] [] (q_cq hm (λhm=>?_) (λhm=>?_))
   ·refine s_vn [] 0 ⟨[(4,vb false)],[]⟩ ?_;obtain rfl:=oi hm;refine q_rt (zG false ?_);exact q_rm
   ·refine q_sk (q_vv [] 0 [13,24] [(13,vi (w64 (x4+1)))] ?_);exact q_hl (ZV a1 a2 (w64 (x4+1))) (ih (w64 (x4+1)) _ hm)
  ·refine q_ex 0 ?_;obtain rfl:=oi hm;exact q_l1 ()
theorem qAz (a1:List qL) (a2:List qL) (r:Bool) (hm:KQ a1 a2=some r):CtX Tryz.prog globs 61 0 0 [.one (tl qR dd a1),.one (tl qR dd a2)] [] (YT r) (YQ r):=by
 unfold KQ at hm;refine q_E f61 26 λE=>?_;refine s_vn [] 0 ⟨[(0,vc (tl qR dd a1)),(1,vc (tl qR dd a2))],[]⟩ (q_sq ?_);refine s_va 0 [(10,vb ((a1.length:Int) !=(a2.length:Int)))] (q_cq hm (λhm=>?_) (λhm=>?_))
 ·refine s_vn [] 0 ⟨[(4,vb false)],[]⟩ ?_;obtain rfl:=oi hm;exact q_rt q_rm
 ·refine q_sk (q_sq ?_);refine s_vv [] 0 [10] [(12,vi (a1.length:Int)),(13,vi 0)] ?_;obtain⟨u11,h10,hm⟩:=qD hm;refine zR (nd f61 116) 0 (by kernel_rfl) FUEL (λo=>TB) (λv st=>RetQ Tryz.prog f61 (YT v) (YQ v) .ret st) u11 (q_hl (ZV a1 a2 0) (AR E a1 a2 FUEL 0 u11 h10)) ?_ ?_
  ·rintro v12 rfl st hr;obtain rfl:=oi hm;exact hr
  ·rintro o9 rfl;replace hm:_=some r:=hm;refine s_vn [] 0 ⟨[(4,vb true)],[]⟩ ?_;obtain rfl:=oi hm;exact q_rt q_rm
open Go.Proofs Go.Proofs.Tryz
def qNS (r:Bool):V:=vb r
def qOk (r:Bool):List (Nat×(Nat×O)):=[]
def qI0 (x8:Bool):St:=
 ⟨[(4,vb x8)],[]⟩
theorem qMN (a1:Scan) (a2:Scan) (r:Bool) (hm:EW a1 a2=some r):CtX Tryz.prog globs 24 0 0 [.agg (qZ a1),.agg (qZ a2)] [] (qNS r) (qOk r):=by
 unfold EW at hm;refine q_E f24 19 λE=>?_;refine s_vn [] 0 ⟨[(2,vp 0 0),(3,vp 1 0)],[(0,bx 25 (qZ a1)),(1,bx 25 (qZ a2))]⟩ (s_va 2 [(5,vc (.fn 58 []))] ?_);refine q_jn (qI0) (λp=>CM p=some r) ?_ ?_
 ·rintro x8 hm;obtain rfl:=oi hm;exact q_rt q_rm
 ·obtain⟨v3,h4,hm⟩:=qD hm;rcases bif_c hm with⟨b5,hm⟩|⟨b5,hm⟩
  ·obtain⟨v6,h7,hm⟩:=qD hm;exact q_vn [qc 5 [7,9,10] 2 (RX a1.Rings a2.Rings v3 h4),qf 6 b5,qk 11 [12,14,16] 2 ⟨[(12,vb true),(14,vc (tl qR dd a1.Defects)),(16,vc (tl qR dd a2.Defects))],[]⟩ (qAz a1.Defects a2.Defects v6 h7)] 2 ⟨[(4,vb v6)],[]⟩ (q_J (v6) hm)
  ·exact q_vn [qc 5 [7,9,10] 2 (RX a1.Rings a2.Rings v3 h4),qf 6 b5] 2 ⟨[(4,vb false)],[]⟩ (q_J (false) hm)
def qN8 (r:Int):V:=vc (.val (.int .u64 r))
def qN1 (r:Int):List (Nat×(Nat×O)):=[]
theorem qNn (a1:Span) (r:Int) (hm:qDT a1=some r):CtX Tryz.prog globs 176 0 0 [.agg (qF a1)] [] (qN8 r) (qN1 r):=by
 unfold qDT at hm;refine q_E f176 15 λE=>?_;refine s_vn [] 0 ⟨[(1,vp 0 0)],[(0,bx 64 (qF a1))]⟩ (q_sq ?_);refine s_va 1 [(7,vb (decide (a1.A≥a1.B)))] (q_cq hm (λhm=>?_) (λhm=>?_))
 ·refine s_vn [] 1 ⟨[(2,vc (.val (.int .u64 0)))],[]⟩ ?_;obtain rfl:=oi hm;exact q_rt q_rm
 ·refine q_sk (s_vn [] 1 ⟨[(2,vc (.val (.int .u64 (IntKind.u64.wrap ((IntKind.u64.wrap (a1.B))-(IntKind.u64.wrap (a1.A)))))))],[]⟩ ?_);obtain rfl:=oi hm;exact q_rt q_rm
def qJM (r:Int):V:=vi r
def qJc (r:Int):List (Nat×(Nat×O)):=[]
theorem qIs (a1:Int) (r:Int) (hm:qAe a1=some r):CtX Tryz.prog globs 175 0 0 [.one (.val (.int .u64 a1))] [] (qJM r) (qJc r):=by
 unfold qAe at hm;refine q_E f175 6 λE=>?_;refine s_vn [] 0 ⟨[(0,vc (.val (.int .u64 a1)))],[]⟩ (s_vn [] 0 ⟨[(2,vi (w64 (imin a1 9223372036854775807)))],[]⟩ ?_);obtain rfl:=oi hm;exact q_rt q_rm
open Go.Proofs Go.Proofs.Tryz
def qPe (r:Int):V:=vi r
def qO9 (r:Int):List (Nat×(Nat×O)):=[]
theorem qOl (a1:Span) (r:Int) (hm:qGz a1=some r):CtX Tryz.prog globs 144 0 0 [.agg (qF a1)] [] (qPe r) (qO9 r):=by
 unfold qGz at hm;refine q_E f144 6 λE=>?_;refine s_vn [] 0 ⟨[(1,vp 0 0)],[(0,bx 64 (qF a1))]⟩ ?_;obtain⟨v2,h3,hm⟩:=qD hm;obtain⟨v4,h5,hm⟩:=qD hm;refine s_vn [qc 1 [3] 1 (qNn a1 v2 h3),qc 2 [4] 1 (qIs v2 v4 h5)] 1 ⟨[(2,vi v4)],[]⟩ ?_;obtain rfl:=oi hm;exact q_rt q_rm
def qJR (r:Int):V:=vi r
def qI8 (r:Int):List (Nat×(Nat×O)):=[]
def GB (v2:qC) (x4:Int) (x5:Int):St:=
 ⟨[(3,vi x4),(8,vc (tl qF dd v2.Rows)),(9,vi (v2.Rows.length:Int)),(10,vi x5)],[]⟩
def IF (x10:Int):St:=
 ⟨[(3,vi x10)],[]⟩
theorem qEb (E:Env 0) (v2:qC):∀(n:Nat) (x4:Int) (x5:Int) (res:Int),FU v2 n x4 x5=some res->HL (kx E 21 0) (nd f89 116) (zH 0 IF res) n (GB v2 x4 x5):=by
 intro n
 induction n with
 |zero=>
  intro x4 x5 res hm;cases hm
 |succ n ih=>
  intro x4 x5 res hm;refine qP (s_va 1 [(11,vb (decide (x5<(v2.Rows.length:Int))))] ?_);refine q_sq (q_cq hm (λhm=>?_) (λhm=>?_))
  ·refine q_sk (q_sq ?_);refine q_bk 1 ?_;obtain⟨g7,hm⟩:=qH hm;refine s_vu [qi 0 g7] 1 [11] [(5,vp 1 0)] [] [(1,bx 64 (qF (v2.Rows.getD x5.toNat dd)))] ?_;obtain⟨v8,h9,hm⟩:=qD hm;refine q_vu [qc 2 [15] 2 (qOl (v2.Rows.getD x5.toNat dd) v8 h9)] 2 [3,5] [(3,vi (w64 (x4+v8)))] [1] [] (q_vv [] 2 [10] [(10,vi (w64 (x5+1)))] ?_);exact q_hl (GB v2 (w64 (x4+v8)) (w64 (x5+1))) (ih (w64 (x4+v8)) (w64 (x5+1)) _ hm)
  ·refine q_ex 0 ?_;obtain rfl:=oi hm;exact q_l0
theorem qIa (a1:qC) (r:Int) (hm:OZ a1=some r):CtX Tryz.prog globs 89 0 0 [.agg (qJ a1)] [] (qJR r) (qI8 r):=by
 unfold OZ at hm;refine q_E f89 21 λE=>?_;refine s_vn [] 0 ⟨[(1,vp 0 0)],[(0,bx 48 (qJ a1))]⟩ (s_va 1 [(3,vi 0)] ?_);refine q_sq ?_;obtain⟨v2,h3,hm⟩:=qD hm;refine s_vu [qc 1 [6] 1 (NB a1 v2 h3)] 1 [1] [(8,vc (tl qF dd v2.Rows)),(9,vi (v2.Rows.length:Int)),(10,vi 0)] [0] [] ?_;obtain⟨o11,h12,hm⟩:=qD hm;refine qY (nd f89 116) 0 (by kernel_rfl) FUEL IF o11 (q_hl (GB v2 0 0) (qEb E v2 FUEL 0 0 o11 h12)) (s_vn [] 1 ⟨[(2,vi (w64 (10*o11)))],[]⟩ ?_);obtain rfl:=oi hm;exact q_rt q_rm
def AW (r:Int):V:=vi r
def AV (r:Int):List (Nat×(Nat×O)):=[]
def qGf (a1:List qO) (x4:Int) (x5:Int) (x13:Bool):St:=
 ⟨[(3,vi x4),(5,vp 0 0),(13,vc (tl qQ dd a1)),(14,vi (a1.length:Int)),(15,vi x5),(39,vb x13)],[(0,bx 50 (qQ (a1.getD x5.toNat dd)))]⟩
def BP (a1:List qO) (x4:Int) (x5:Int):St:=
 ⟨[(3,vi x4),(13,vc (tl qQ dd a1)),(14,vi (a1.length:Int)),(15,vi x5)],[]⟩
def qAi :St:=
 ⟨[],[]⟩
theorem qFA (E:Env 0) (a1:List qO):∀(n:Nat) (x4:Int) (x5:Int) (res:Int⊕Unit),XS a1 n x4 x5=some res->HL (kx E 45 0) (nd f26 500) (wL 0 (λo=>qAi) (λv st=>RetQ Tryz.prog f26 (AW v) (AV v) .ret st) res) n (BP a1 x4 x5):=by
 intro n
 induction n with
 |zero=>
  intro x4 x5 res hm;cases hm
 |succ n ih=>
  intro x4 x5 res hm;refine qP (s_va 0 [(16,vb (decide (x5<(a1.length:Int))))] ?_);refine q_sq (q_cq hm (λhm=>?_) (λhm=>?_))
  ·refine q_sk (q_sq ?_);refine q_bk 1 ?_;obtain⟨g7,hm⟩:=qH hm;refine s_vu [qi 0 g7] 0 [16] [(5,vp 0 0)] [] [(0,bx 50 (qQ (a1.getD x5.toNat dd)))] (q_sq ?_);obtain⟨v8,h9,hm⟩:=qD hm;refine s_vv [qc 2 [20] 1 (OV ((a1.getD x5.toNat dd).Sec) v8 h9)] 1 [] [(6,vi v8)] (s_va 1 [(23,vb (v8 !=0))] ?_);refine q_cq hm (λhm=>?_) (λhm=>?_)
   ·refine s_vn [] 1 ⟨[(2,vi v8)],[]⟩ ?_;obtain rfl:=oi hm;refine q_rt (zG v8 ?_);exact q_rm
   ·refine q_sk (q_sq ?_);refine s_vv [] 1 [6,23] [(29,vb ((((((a1.getD x5.toNat dd).Sec).Rows).length:Nat):Int)==0))] (q_cq hm (λhm=>?_) (λhm=>?_))
    ·refine s_vn [] 1 ⟨[(2,vi 18)],[]⟩ ?_;obtain rfl:=oi hm;refine q_rt (zG 18 ?_);exact q_rm
    ·refine q_sk (q_sq ?_);refine q_jn (qGf a1 x4 x5) (λp=>HD a1 x4 x5 (XS a1 n) p=some res) ?_ ?_
     ·rintro x13 hm;refine q_cq hm (λhm=>?_) (λhm=>?_)
      ·refine s_vn [] 1 ⟨[(2,vi 9)],[]⟩ ?_;obtain rfl:=oi hm;refine q_rt (zG 9 ?_);exact q_rm
      ·refine q_sk (q_vu [] 1 [3,5,39] [(3,vi (w64 (x4+((a1.getD x5.toNat dd).Len))))] [0] [] ?_);exact q_vv [] 1 [15] [(15,vi (w64 (x5+1)))] (q_hl (BP a1 (w64 (x4+((a1.getD x5.toNat dd).Len))) (w64 (x5+1))) (ih (w64 (x4+((a1.getD x5.toNat dd).Len))) (w64 (x5+1)) _ hm))
     ·rcases bif_c hm with⟨b12,hm⟩|⟨b12,hm⟩
      ·exact q_vv [qf 3 b12] 1 [29] [(39,vb true)] (q_J (true) hm)
      ·exact q_vv [qf 3 b12] 1 [29] [(39,vb (decide (((a1.getD x5.toNat dd).Len)>(w64 (20000-x4)))))] (q_J (decide (((a1.getD x5.toNat dd).Len)>(w64 (20000-x4)))) hm)
  ·refine q_ex 0 ?_;obtain rfl:=oi hm;exact q_l1 ()
theorem qJo (a1:List qO) (r:Int) (hm:qBD a1=some r):CtX Tryz.prog globs 26 0 0 [.one (tl qQ dd a1)] [] (AW r) (AV r):=by
 unfold qBD at hm;refine q_E f26 45 λE=>?_;refine s_vn [] 0 ⟨[(0,vc (tl qQ dd a1))],[]⟩ (q_sq ?_);refine s_va 0 [(9,vb ((a1.length:Int)==0))] (q_cq hm (λhm=>?_) (λhm=>?_))
 ·refine s_vn [] 0 ⟨[(2,vi 3)],[]⟩ ?_;obtain rfl:=oi hm;exact q_rt q_rm
 ·refine q_sk (q_sq ?_);refine s_vv [] 0 [9] [(12,vb (decide ((a1.length:Int)>24)))] (q_cq hm (λhm=>?_) (λhm=>?_))
  ·refine s_vn [] 0 ⟨[(2,vi 4)],[]⟩ ?_;obtain rfl:=oi hm;exact q_rt q_rm
  ·refine q_sk (s_vv [] 0 [12] [(3,vi 0)] ?_);refine q_sq (s_vv [] 0 [0] [(13,vc (tl qQ dd a1)),(14,vi (a1.length:Int)),(15,vi 0)] ?_);obtain⟨u17,h16,hm⟩:=qD hm;refine zR (nd f26 500) 0 (by kernel_rfl) FUEL (λo=>qAi) (λv st=>RetQ Tryz.prog f26 (AW v) (AV v) .ret st) u17 (q_hl (BP a1 0 0) (qFA E a1 FUEL 0 0 u17 h16)) ?_ ?_
   ·rintro v18 rfl st hr;obtain rfl:=oi hm;exact hr
   ·rintro o15 rfl;replace hm:_=some r:=hm;refine s_vn [] 0 ⟨[(2,vi 0)],[]⟩ ?_;obtain rfl:=oi hm;exact q_rt q_rm
open Go.Proofs Go.Proofs.Tryz
def qLw (r:(List qO)):V:=vc (tl qQ dd r)
def qKV (r:(List qO)):List (Nat×(Nat×O)):=[]
theorem qJT (a1:List qO) (r:(List qO)) (hm:qBM a1=some r):CtX Tryz.prog globs 63 0 0 [.one (tl qQ dd a1)] [] (qLw r) (qKV r):=by
 unfold qBM at hm;refine q_E f63 7 λE=>?_;refine s_vn [] 0 ⟨[(0,vc (tl qQ dd a1))],[]⟩ (q_sq ?_);obtain⟨v2,h3,hm⟩:=qD hm;refine s_vv [qc 1 [3] 0 (qJo a1 v2 h3)] 0 [] [(5,vb (v2 !=0))] (q_cq hm (λhm=>?_) (λhm=>?_))
 ·refine s_vn [] 0 ⟨[(2,vc (.emp))],[]⟩ (q_fn [.own 2 0 50 3 (rf qQ [])] ⟨[(2,vo 0 0 3 0)],[(0,ro 0 50 3 0 (rf qQ []))]⟩ o0 ?_);refine q_fn [.len 0 (([]:List qO).length),.frz 0] ⟨[(2,vc (tl qQ dd ([]:List qO)))],[]⟩ (o1 (And.intro (And.intro (show 0=([]:List qO).length from rfl) (show 0=([]:List qO).length from rfl)) (ki (([]:List qO).length)))) ?_;obtain rfl:=oi hm;exact q_rt q_rm
 ·refine q_sk (s_vn [] 0 ⟨[(2,vc (tl qQ dd a1))],[]⟩ ?_);obtain rfl:=oi hm;exact q_rt q_rm
def qJQ (r:Int):V:=vi r
def qJj (r:Int):List (Nat×(Nat×O)):=[]
def GM (v2:(List qO)) (x4:Int) (x5:Int):St:=
 ⟨[(3,vi x4),(7,vc (tl qQ dd v2)),(8,vi (v2.length:Int)),(9,vi x5)],[]⟩
def IS (x10:Int):St:=
 ⟨[(3,vi x10)],[]⟩
theorem qEi (E:Env 0) (v2:(List qO)):∀(n:Nat) (x4:Int) (x5:Int) (res:Int),FJ v2 n x4 x5=some res->HL (kx E 23 0) (nd f43 116) (zH 0 IS res) n (GM v2 x4 x5):=by
 intro n
 induction n with
 |zero=>
  intro x4 x5 res hm;cases hm
 |succ n ih=>
  intro x4 x5 res hm;refine qP (s_va 0 [(10,vb (decide (x5<(v2.length:Int))))] ?_);refine q_sq (q_cq hm (λhm=>?_) (λhm=>?_))
  ·refine q_sk (q_sq ?_);refine q_bk 1 ?_;obtain⟨g7,hm⟩:=qH hm;refine s_vu [qi 0 g7] 0 [10] [(5,vp 0 0)] [] [(0,bx 50 (qQ (v2.getD x5.toNat dd)))] ?_;obtain⟨v8,h9,hm⟩:=qD hm;refine q_du [qc 5 [17] 1 (qIa ((v2.getD x5.toNat dd).Sec) v8 h9)] [0,0,2,0,8,24,62,127,255] 1 [3,5] [(3,vi (w64 (x4+(w64 (((v2.getD x5.toNat dd).Len)*v8)))))] [0] [] (q_vv [] 1 [9] [(9,vi (w64 (x5+1)))] ?_);exact q_hl (GM v2 (w64 (x4+(w64 (((v2.getD x5.toNat dd).Len)*v8)))) (w64 (x5+1))) (ih (w64 (x4+(w64 (((v2.getD x5.toNat dd).Len)*v8)))) (w64 (x5+1)) _ hm)
  ·refine q_ex 0 ?_;obtain rfl:=oi hm;exact q_l0
theorem qIj (a1:List qO) (r:Int) (hm:FT a1=some r):CtX Tryz.prog globs 43 0 0 [.one (tl qQ dd a1)] [] (qJQ r) (qJj r):=by
 unfold FT at hm;refine q_E f43 23 λE=>?_;refine s_vn [] 0 ⟨[(0,vc (tl qQ dd a1))],[]⟩ (s_va 0 [(3,vi 0)] ?_);refine q_sq ?_;obtain⟨v2,h3,hm⟩:=qD hm;refine s_vv [qc 1 [6] 0 (qJT a1 v2 h3)] 0 [0] [(7,vc (tl qQ dd v2)),(8,vi (v2.length:Int)),(9,vi 0)] ?_;obtain⟨o11,h12,hm⟩:=qD hm;refine qY (nd f43 116) 0 (by kernel_rfl) FUEL IS o11 (q_hl (GM v2 0 0) (qEi E v2 FUEL 0 0 o11 h12)) (s_vn [] 0 ⟨[(2,vi o11)],[]⟩ ?_);obtain rfl:=oi hm;exact q_rt q_rm
def qNG (r:Int):V:=vi r
def qMO (r:Int):List (Nat×(Nat×O)):=[]
def LB (a1:List qE) (a3:Int) (x5:Int):St:=
 ⟨[(0,vc (tl qG dd a1)),(2,vi a3),(7,vi (a1.length:Int)),(8,vi x5)],[]⟩
def qBf (x9:Int):St:=
 ⟨[(8,vi x9)],[]⟩
theorem qGq (E:Env 0) (a1:List qE) (a3:Int):∀(n:Nat) (x5:Int) (res:Int),ZF a1 a3 n x5=some res->HL (kx E 32 0) (nd f151 120) (zH 0 qBf res) n (LB a1 a3 x5):=by
 intro n
 induction n with
 |zero=>
  intro x5 res hm;cases hm
 |succ n ih=>
  intro x5 res hm;refine qP (q_sq ?_);obtain⟨g6,hm⟩:=qH hm;refine s_vv [qi 2 g6] 0 [] [(23,vb (!((a1.getD x5.toNat dd).Ok)))] (q_cq hm (λhm=>?_) (λhm=>?_))
  ·refine q_sk (q_bk 1 ?_);obtain⟨g8,hm⟩:=qH hm;exact q_vv [qd 6 dN (WT g8)] 0 [8,23] [(8,vi (Int.tmod (w64 ((w64 (x5+a3))+(a1.length:Int))) (a1.length:Int)))] (q_hl (LB a1 a3 (Int.tmod (w64 ((w64 (x5+a3))+(a1.length:Int))) (a1.length:Int))) (ih (Int.tmod (w64 ((w64 (x5+a3))+(a1.length:Int))) (a1.length:Int)) _ hm))
  ·refine q_ex 0 ?_;obtain rfl:=oi hm;exact q_l0
theorem BD (a1:List qE) (a2:Int) (a3:Int) (r:Int) (hm:jV a1 a2 a3=some r):CtX Tryz.prog globs 151 0 0 [.one (tl qG dd a1),.one (ci a2),.one (ci a3)] [] (qNG r) (qMO r):=by
 unfold jV at hm;refine q_E f151 32 λE=>?_;refine s_vn [] 0 ⟨[(0,vc (tl qG dd a1)),(1,vi a2),(2,vi a3)],[]⟩ (s_va 0 [(7,vi (a1.length:Int))] ?_);obtain⟨g4,hm⟩:=qH hm;refine s_vv [qd 6 dN (WT g4)] 0 [1] [(8,vi (Int.tmod (w64 ((w64 (a2+a3))+(a1.length:Int))) (a1.length:Int)))] (q_sq ?_);obtain⟨o10,h11,hm⟩:=qD hm;refine qY (nd f151 120) 0 (by kernel_rfl) FUEL qBf o10 (q_hl (LB a1 a3 (Int.tmod (w64 ((w64 (a2+a3))+(a1.length:Int))) (a1.length:Int))) (qGq E a1 a3 FUEL (Int.tmod (w64 ((w64 (a2+a3))+(a1.length:Int))) (a1.length:Int)) o10 h11)) (s_vn [] 0 ⟨[(6,vi o10)],[]⟩ ?_);obtain rfl:=oi hm
 exact q_rt q_rm
open Go.Proofs Go.Proofs.Tryz
def qLa (r:Bool):V:=vb r
def qKF (r:Bool):List (Nat×(Nat×O)):=[]
def qGP (x7:Bool):St:=
 ⟨[(6,vb x7)],[]⟩
theorem HX (a1:qA) (a2:qA) (a3:Int) (r:Bool) (hm:PX a1 a2 a3=some r):CtX Tryz.prog globs 153 0 0 [.agg (qB a1),.agg (qB a2),.one (ci a3)] [] (qLa r) (qKF r):=by
 unfold PX at hm;refine q_E f153 41 λE=>?_;refine s_vn [] 0 ⟨[(2,vi a3),(3,vp 0 0),(4,vp 1 0)],[(0,bx 71 (qB a1)),(1,bx 71 (qB a2))]⟩ (q_jn (qGP) (λp=>WB p=some r) ?_ ?_)
 ·rintro x7 hm;obtain rfl:=oi hm;exact q_rt q_rm
 ·rcases bif_c hm with⟨b4,hm⟩|⟨b4,hm⟩
  ·exact q_vn [qf 7 b4] 2 ⟨[(6,vb true)],[]⟩ (q_J (true) hm)
  ·rcases bif_c hm with⟨b5,hm⟩|⟨b5,hm⟩
   ·exact q_vn [qf 7 b4,qf 16 b5] 2 ⟨[(6,vb true)],[]⟩ (q_J (true) hm)
   ·rcases bif_c hm with⟨b6,hm⟩|⟨b6,hm⟩
    ·exact q_vn [qf 7 b4,qf 16 b5,qf 25 b6] 2 ⟨[(6,vb true)],[]⟩ (q_J (true) hm)
    ·exact q_vn [qf 7 b4,qf 16 b5,qf 25 b6] 2 ⟨[(6,vb (decide ((w64 (a2.Y-a1.Y))>a3)))],[]⟩ (q_J (decide ((w64 (a2.Y-a1.Y))>a3)) hm)
def qMS (r:Int×Int):V:= .tup [.one (ci r.1),.one (ci r.2)]
def qNi (r:Int×Int):List (Nat×(Nat×O)):=[]
def ZP (a1:Ring) (x4:Int):St:=
 ⟨[(1,vp 0 0),(4,vi (a1.Read.length:Int)),(7,vi x4)],[(0,bx 45 (qN a1))]⟩
def qHJ (a1:Ring) (x2:Int) (x3:Int) (x4:Int) (x8:Int) (x12:Bool):St:=
 (ZP a1 x4).up [] [(5,vi (w64 (x2+1))),(6,vi x3),(8,vi x8),(40,vb x12)] [] []
def LR (a1:Ring) (x2:Int) (x3:Int) (x4:Int) (x8:Int):St:=
 (ZP a1 x4).up [] [(5,vi (w64 (x2+1))),(6,vi x3),(8,vi x8)] [] []
def qBp (a1:Ring) (x2:Int) (x3:Int) (x4:Int) (x14:Int):St:=
 (ZP a1 x4).up [] [(5,vi (w64 (x2+1))),(6,vi x3),(8,vi x14)] [] []
def qBr (a1:Ring) (x4:Int) (x17:Int) (x18:Int):St:=
 (ZP a1 x4).up [] [(5,vi x17),(6,vi x18)] [] []
def LZ (a1:Ring) (x2:Int) (x3:Int) (x4:Int):St:=
 (ZP a1 x4).up [] [(5,vi x2),(6,vi x3)] [] []
def qAH (x19:Int) (x20:Int):St:=
 ⟨[(5,vi x19),(6,vi x20)],[]⟩
theorem qGM (E:Env 0) (a1:Ring) (x2:Int) (x3:Int) (x4:Int):∀(n:Nat) (x8:Int) (res:Int),wE a1 x4 n x8=some res->HL (kx E 48 0) (nd f150 125240) (zH 2 (λo=>qBp a1 x2 x3 x4 o) res) n (LR a1 x2 x3 x4 x8):=by
 intro n
 induction n with
 |zero=>
  intro x8 res hm;cases hm
 |succ n ih=>
  intro x8 res hm;refine qP (q_sq ?_);refine q_jn (qHJ a1 x2 x3 x4 x8) (λp=>BK x8 (wE a1 x4 n) p=some res) ?_ ?_
  ·rintro x12 hm;refine q_cq hm (λhm=>?_) (λhm=>?_)
   ·refine q_sk (q_bk 3 ?_);exact q_vv [] 1 [8,40] [(8,vi (w64 (x8+1)))] (q_hl (LR a1 x2 x3 x4 (w64 (x8+1))) (ih (w64 (x8+1)) _ hm))
   ·refine q_ex 2 ?_;obtain rfl:=oi hm;exact q_l0
  ·rcases bif_c hm with⟨b9,hm⟩|⟨b9,hm⟩
   ·obtain⟨g10,hm⟩:=qH hm;obtain⟨g11,hm⟩:=qH hm;exact q_du [qf 3 b9,qd 10 dN (WT g10),qi 11 g11] [0,0,3,7,15,31,15,15,207,15,975,2047,4095,8191,16383,32767] 1 [] [(40,vb (!((a1.Read.getD (Int.tmod (w64 (x4+x8)) (a1.Read.length:Int)).toNat dd).Ok)))] [] [] (q_J (!((a1.Read.getD (Int.tmod (w64 (x4+x8)) (a1.Read.length:Int)).toNat dd).Ok)) hm)
   ·exact q_du [qf 3 b9] [0,0,3,7,15,31,15,15,207,15,975,2047,4095,8191,16383,32767] 1 [] [(40,vb false)] [] [] (q_J (false) hm)
theorem qGm (E:Env 0) (a1:Ring):∀(n:Nat) (x2:Int) (x3:Int) (x4:Int) (res:Int×Int),yZ a1 n x2 x3 x4=some res->HL (kx E 48 0) (nd f150 244) (zH 0 (λo=>qAH o.1 o.2) res) n (LZ a1 x2 x3 x4):=by
 intro n
 induction n with
 |zero=>
  intro x2 x3 x4 res hm;cases hm
 |succ n ih=>
  intro x2 x3 x4 res hm;refine qP (q_sq ?_);refine s_va 1 [(14,vb (decide (x4<(a1.Read.length:Int))))] (q_cq hm (λhm=>?_) (λhm=>?_))
  ·refine q_sk (q_jn (ι:=Int×Int) (λp=>qBr a1 x4 p.1 p.2) (λp=>BG x4 (yZ a1 n) p.1 p.2=some res) ?_ ?_)
   ·rintro⟨x17,x18⟩ hm;show H _ (qBr a1 x4 x17 x18) _ _;exact q_vv [] 1 [7] [(7,vi (w64 (x4+1)))] (q_hl (LZ a1 x17 x18 (w64 (x4+1))) (ih x17 x18 (w64 (x4+1)) _ hm))
   ·refine q_bk 1 (q_sq ?_);obtain⟨g6,hm⟩:=qH hm;refine s_vv [qi 3 g6] 1 [14] [(22,vb ((a1.Read.getD x4.toNat dd).Ok))] (q_cq hm (λhm=>?_) (λhm=>?_))
    ·exact q_ex 1 (q_J (x2,x3) hm)
    ·refine q_sk (s_vv [] 1 [5,22] [(5,vi (w64 (x2+1)))] ?_);refine s_va 1 [(8,vi 0)] (q_sq ?_);obtain⟨o15,h16,hm⟩:=qD hm;refine qY (nd f150 125240) 2 (by kernel_rfl) FUEL (λo=>qBp a1 x2 x3 x4 o) o15 (q_hl (LR a1 x2 x3 x4 0) (qGM E a1 x2 x3 x4 FUEL 0 o15 h16)) (q_vv [] 1 [6,8] [(6,vi (imax x3 o15))] ?_);exact q_J (w64 (x2+1),imax x3 o15) hm
  ·refine q_ex 0 ?_;obtain rfl:=oi hm;exact q_l0
theorem qDd (a1:Ring) (r:Int×Int) (hm:KM a1=some r):CtX Tryz.prog globs 150 0 0 [.agg (qN a1)] [] (qMS r) (qNi r):=by
 unfold KM at hm;refine q_E f150 48 λE=>?_;refine s_vn [] 0 ⟨[(1,vp 0 0)],[(0,bx 45 (qN a1))]⟩ (s_va 1 [(4,vi (a1.Read.length:Int))] ?_);refine s_va 1 [(5,vi 0),(6,vi 0)] (q_sq ?_);refine s_va 1 [(7,vi 0)] ?_;obtain⟨o21,h22,hm⟩:=qD hm;refine qY (nd f150 244) 0 (by kernel_rfl) FUEL (λo=>qAH o.1 o.2) o21 (q_hl (LZ a1 0 0 0) (qGm E a1 FUEL 0 0 0 o21 h22)) (s_vn [] 1 ⟨[(2,vi o21.1),(3,vi o21.2)],[]⟩ ?_);obtain rfl:=oi hm;exact q_rt q_rm
end Saw
end Go.SL

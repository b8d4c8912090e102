import Derived.Test.YtigmogcdifllhaaGreatDoorEBase
import Derived.Test.YtigmogcdifllhaaGreatDoorEFa10
import Derived.Test.YtigmogcdifllhaaGreatDoorEFa7
import Derived.Test.YtigmogcdifllhaaGreatDoorEFa9
import Derived.Test.YtigmogcdifllhaaGreatDoorEFa8
import Derived.Test.YtigmogcdifllhaaGreatDoorYa7
import Derived.Ground.NamesProg
set_option linter.unusedVariables false
set_option linter.unusedSimpArgs false
namespace Go.SL
namespace Saw
open Go.Proofs Go.Proofs.Tryz
set_option maxHeartbeats 4000000
set_option maxRecDepth 100000
def BV (r:(List Node)×Int):V:= .tup [.one (.own 0 0 2 r.1.length),.one (ci r.2)]
def XY (r:(List Node)×Int):List (Nat×(Nat×O)):=[(0,ro 0 156 2 r.1.length (rf qL r.1))]
theorem qJc (r:(List Node)×Int):ZE (XY r):=by
 intro i k o h;unfold XY at h;rw[look_cons] at h;split at h
 ·cases h;exact λ_ _=>rfl
 ·cases h
def UB (a2:Int) (a3:Int) (a4:List Span) (a5:List (List Node)) (v17:Span) (x21:Int):St:=
 ⟨[(1,vi a2),(2,vi a3),(4,vc (tl (qU qL) dd a5)),(12,vp 1 0),(13,vp 2 0),(14,vc (.fn 117 [.bptr 2 0 0,.bptr 1 0 0])),(15,vp 3 0),(18,vi x21),(45,vc (tl qK dd a4)),(46,vi (a4.length:Int)),(47,vi x21)],[(3,bx 53 (qK v17))]⟩
def qEP (a2:Int) (a3:Int) (a4:List Span) (a5:List (List Node)) (v17:Span) (x21:Int) (x40:Int) (x41:Bool) (l42:List Node) (l42n:Nat) (x43:Int):St:=
 (UB a2 a3 a4 a5 v17 x21).up [] [(16,vi x40),(17,vb x41)] [] [(1,bx 56 [.own 4 0 2 l42n]),(2,bx 3 [ci x43]),(4,ro 0 156 2 l42n (rf qL l42))]
def qE0 (a2:Int) (a3:Int) (a4:List Span) (a5:List (List Node)) (v17:Span) (x19:Int) (x20:Bool) (x21:Int) (l35:List Node) (l35n:Nat) (x36:Int):St:=
 (UB a2 a3 a4 a5 v17 x21).up [] [(16,vi x19),(17,vb x20),(19,vp 5 0)] [] [(1,bx 56 [.own 4 0 2 l35n]),(2,bx 3 [ci x36]),(4,ro 0 156 2 l35n (rf qL l35)),(5,bx 53 (qK (a4.getD x21.toNat dd)))]
def qN4 (a2:Int) (a3:Int) (a4:List Span) (a5:List (List Node)) (v17:Span) (x19:Int) (x20:Bool) (x21:Int) (l22:List Node) (x23:Int) (x29:Bool):St:=
 (UB a2 a3 a4 a5 v17 x21).up [] [(16,vi x19),(17,vb x20),(19,vp 5 0),(58,vb x29)] [] [(1,bx 56 [.own 4 0 2 l22.length]),(2,bx 3 [ci x23]),(4,ro 0 156 2 l22.length (rf qL l22)),(5,bx 53 (qK (a4.getD x21.toNat dd)))]
def CF (a2:Int) (a3:Int) (a4:List Span) (a5:List (List Node)) (v17:Span) (x19:Int) (x20:Bool) (x21:Int) (l22:List Node) (l22n:Nat) (x23:Int):St:=
 (UB a2 a3 a4 a5 v17 x21).up [18] [(16,vi x19),(17,vb x20)] [] [(1,bx 56 [.own 4 0 2 l22n]),(2,bx 3 [ci x23]),(4,ro 0 156 2 l22n (rf qL l22))]
def qE5 (x47:Bool) (l48:List Node) (x49:Int):St:=
 ⟨[(12,vp 1 0),(13,vp 2 0),(14,vc (.fn 117 [.bptr 2 0 0,.bptr 1 0 0])),(17,vb x47)],[(1,bx 56 [.own 4 0 2 l48.length]),(2,bx 3 [ci x49]),(4,ro 0 156 2 l48.length (rf qL l48))]⟩
def qE3 (x57:Int) (l58:List Node) (l58n:Nat):St:=
 ⟨[(12,vp 1 0),(13,vp 2 0)],[(1,bx 56 [.own 4 0 2 l58n]),(2,bx 3 [ci x57]),(4,ro 0 156 2 l58n (rf qL l58))]⟩
def qNg (a1:Rect) (a2:Int) (a3:Int) (a4:List Span) (a5:List (List Node)) (x15:Bool):St:=
 ⟨[(1,vi a2),(2,vi a3),(3,vc (tl qK dd a4)),(4,vc (tl (qU qL) dd a5)),(5,vp 0 0),(38,vb x15)],[(0,bx 55 (qT a1))]⟩
def qNI (a1:Rect) (a2:Int) (a3:Int) (a4:List Span) (a5:List (List Node)) (x12:Bool):St:=
 ⟨[(1,vi a2),(2,vi a3),(3,vc (tl qK dd a4)),(4,vc (tl (qU qL) dd a5)),(5,vp 0 0),(32,vb x12)],[(0,bx 55 (qT a1))]⟩
theorem qMf (E:Env 0) (a2:Int) (a3:Int) (a4:List Span) (a5:List (List Node)) (v17:Span):∀(n:Nat) (x19:Int) (x20:Bool) (x21:Int) (l22:List Node) (l22n:Nat) (x23:Int) (res:((List Node)×Int)⊕(Bool×(List Node)×Int)),l22.length=l22n->wT a2 a3 a4 a5 v17 n x19 x20 x21 l22 x23=some res->HL (kx E 130 0) (nd f58 16372) (wL 0 (λo=>qE5 o.1 o.2.1 o.2.2) (λv st=>RetQ Tryz.prog f58 (BV v) (XY v) .ret st) res) n (CF a2 a3 a4 a5 v17 x19 x20 x21 l22 l22n x23):=by
 intro n
 induction n with
 |zero=>
  intro x19 x20 x21 l22 l22n x23 res hl0 hm;cases hm
 |succ n ih=>
  intro x19 x20 x21 l22 l22n x23 res hl0 hm;subst hl0;refine qS (s_va 5 [(48,vb (decide (x21<(a4.length:Int))))] ?_);refine q_sq (q_cq hm (λhm=>?_) (λhm=>?_))
  ·refine q_sk (q_sq ?_);refine q_bk 1 ?_;obtain⟨g25,hm⟩:=qJ hm;refine s_vu [qi 1 g25] 5 [48] [(18,vi x21),(19,vp 5 0)] [] [(5,bx 53 (qK (a4.getD x21.toNat dd)))] (q_sq ?_);refine q_bk 2 (s_va 6 [(52,vb (decide (((a4.getD x21.toNat dd).A)≥((a4.getD x21.toNat dd).B))))] ?_);refine q_cq hm (λhm=>?_) (λhm=>?_)
   ·refine s_vn [] 6 ⟨[(10,vc (.emp)),(11,vi 19)],[]⟩ (q_fo 10 6 156 2 qL ?_);refine q_fl 10 6 156 2 qL ?_;obtain rfl:=oi hm;refine q_sw 6 0 (q_rt ?_);exact zJ (([]:List Node),19) q_rm
   ·refine q_jn (qN4 a2 a3 a4 a5 v17 x19 x20 x21 l22 x23) (λp=>YC a2 a3 a4 a5 v17 x19 x20 x21 l22 x23 (wT a2 a3 a4 a5 v17 n) p=some res) ?_ ?_
    ·rintro x29 hm;refine q_cq hm (λhm=>?_) (λhm=>?_)
     ·refine s_vn [] 6 ⟨[(10,vc (.emp)),(11,vi 11)],[]⟩ (q_fo 10 6 156 2 qL ?_);refine q_fl 10 6 156 2 qL ?_;obtain rfl:=oi hm;refine q_sw 6 0 (q_rt ?_);exact zJ (([]:List Node),11) q_rm
     ·refine s_vv [] 6 [58] [(75,vb (decide (((a4.getD x21.toNat dd).B)>v17.B)))] (q_cq hm (λhm=>?_) (λhm=>?_))
      ·refine s_vn [] 6 ⟨[(10,vc (.emp)),(11,vi 20)],[]⟩ (q_fo 10 6 156 2 qL ?_);refine q_fl 10 6 156 2 qL ?_;obtain rfl:=oi hm;refine q_sw 6 0 (q_rt ?_);exact zJ (([]:List Node),20) q_rm
      ·refine q_sk (q_jn (ι:=(List Node)×Nat×Int) (λp=>qE0 a2 a3 a4 a5 v17 x19 x20 x21 p.1 p.2.1 p.2.2) (λp=>p.1.length=p.2.1/\VX a2 a3 a4 a5 v17 x19 x20 x21 (wT a2 a3 a4 a5 v17 n) p.1 p.2.2=some res) ?_ ?_)
       ·rintro⟨l35,l35n,x36⟩ ⟨el35,hm⟩;replace el35:l35.length=l35n:=el35;subst el35;show H _ (qE0 a2 a3 a4 a5 v17 x19 x20 x21 l35 l35.length x36) _ _;refine q_jn (ι:=Int×Bool×(List Node)×Nat×Int) (λp=>qEP a2 a3 a4 a5 v17 x21 p.1 p.2.1 p.2.2.1 p.2.2.2.1 p.2.2.2.2) (λp=>p.2.2.1.length=p.2.2.2.1/\VU a5 x21 (wT a2 a3 a4 a5 v17 n) p.1 p.2.1 p.2.2.1 p.2.2.2.2=some res) ?_ ?_
        ·rintro⟨x40,x41,l42,l42n,x43⟩ ⟨el42,hm⟩;replace el42:l42.length=l42n:=el42;subst el42;show H _ (qEP a2 a3 a4 a5 v17 x21 x40 x41 l42 l42.length x43) _ _;obtain⟨g44,hm⟩:=qJ hm;obtain⟨v45,h46,hm⟩:=qC hm
         refine q_vu [qi 3 g44,qd 5 (dex (cen [(2,0),(1,0),(4,0)] [0,0,1] 5 2 (XD (a5.getD x21.toNat dd) x43 l42 v45) (QN (a5.getD x21.toNat dd) x43 l42 v45) [114,118] [2,1,4])) (wK (K:=(kx E 130 0)) ⟨[(114,vc (.fn 117 [.bptr 2 0 0,.bptr 1 0 0])),(118,vc (tl qL dd (a5.getD x21.toNat dd)))],[(2,bx 3 [ci x43]),(1,bx 56 [.own 4 0 2 l42.length]),(4,ro 0 156 2 l42.length (rf qL l42))]⟩ (opAt (rg f58 4191439) 5) [(2,0),(1,0),(4,0)] [0,0,1] 5 o0 rfl (RY (a5.getD x21.toNat dd) x43 l42 v45 h46) (.inl rfl) (by kernel_rfl))] 8 [18] [] [1,2,4] [(1,bx 56 [.own 4 1 2 v45.2.length]),(2,bx 3 [ci v45.1]),(4,ro 1 156 2 v45.2.length (rf qL v45.2))] (q_vv [] 8 [47] [(47,vi (w64 (x21+1)))] ?_)
         exact q_hl (CF a2 a3 a4 a5 v17 x40 x41 (w64 (x21+1)) v45.2 v45.2.length v45.1) (ih x40 x41 (w64 (x21+1)) v45.2 v45.2.length v45.1 _ rfl hm)
        ·refine s_va 7 [(99,vb (decide (((a4.getD x21.toNat dd).B)<v17.B)))] (q_cq hm (λhm=>?_) (λhm=>?_))
         ·obtain⟨v38,h39,hm⟩:=qC hm
          refine s_vu [qd 5 (drw 7 0 (rf qL [(Node.mk a2 ((a4.getD x21.toNat dd).B))])) (litP qL dd 2 (λ_=>rfl) ([(Node.mk a2 ((a4.getD x21.toNat dd).B))]:List Node) 1 rfl),qd 6 (dex (cen [(2,0),(1,0),(4,0)] [0,0,1] 5 2 (XD ([(Node.mk a2 ((a4.getD x21.toNat dd).B))]:List Node) x36 l35 v38) (QN ([(Node.mk a2 ((a4.getD x21.toNat dd).B))]:List Node) x36 l35 v38) [100,105] [2,1,4,7])) (wK (K:=(kx E 130 0)) (xs':=[.one (.lst 1 (rf qL [(Node.mk a2 ((a4.getD x21.toNat dd).B))])),.one (.bptr 0 0 0),.one (.bptr 1 0 0)]) (b:=false) ⟨[(100,vc (.fn 117 [.bptr 2 0 0,.bptr 1 0 0])),(105,vo 7 0 2 1)],[(2,bx 3 [ci x36]),(1,bx 56 [.own 4 0 2 l35.length]),(4,ro 0 156 2 l35.length (rf qL l35)),(7,ro 0 156 2 1 (rf qL [(Node.mk a2 ((a4.getD x21.toNat dd).B))]))]⟩ (opAt (rg f58 33531508) 6) [(2,0),(1,0),(4,0)] [0,0,1] 5 (o1 (ke 1)) (by simp only[tl,rf,show([(Node.mk a2 ((a4.getD x21.toNat dd).B))]:List Node).length=1 from rfl]) (RY ([(Node.mk a2 ((a4.getD x21.toNat dd).B))]:List Node) x36 l35 v38 h39) (.inr ⟨(by kernel_rfl),HM ([(Node.mk a2 ((a4.getD x21.toNat dd).B))]:List Node) x36 l35 v38⟩) (by kernel_rfl))] 7 [16,99] [] [1,2,4] [(1,bx 56 [.own 4 1 2 v38.2.length]),(2,bx 3 [ci v38.1]),(4,ro 1 156 2 v38.2.length (rf qL v38.2))] ?_
          exact q_vu [] 8 [19] [(16,vi (imin (w64 (((a4.getD x21.toNat dd).B)+a3)) v17.B))] [5] [] (q_J (imin (w64 (((a4.getD x21.toNat dd).B)+a3)) v17.B,x20,v38.2,v38.2.length,v38.1) ⟨rfl,hm⟩)
         ·exact q_vu [] 7 [17,19,99] [(17,vb true)] [5] [] (q_J (x19,true,l35,l35.length,x36) ⟨rfl,hm⟩)
       ·refine s_vv [] 6 [75] [(84,vb (decide (((a4.getD x21.toNat dd).A)>x19)))] (q_cq hm (λhm=>?_) (λhm=>?_))
        ·obtain⟨v33,h34,hm⟩:=qC hm
         refine q_vu [qd 8 (drw 6 0 (rf qL [(Node.mk a2 (w64 (((a4.getD x21.toNat dd).A)-a3))),(Node.mk 0 0)])) (litP qL dd 2 (λ_=>rfl) ([(Node.mk a2 (w64 (((a4.getD x21.toNat dd).A)-a3))),(Node.mk 0 0)]:List Node) 2 rfl),qd 9 (dex (cen [(2,0),(1,0),(4,0)] [0,0,1] 4 2 (XD ([(Node.mk a2 (w64 (((a4.getD x21.toNat dd).A)-a3))),(Node.mk 0 0)]:List Node) x23 l22 v33) (QN ([(Node.mk a2 (w64 (((a4.getD x21.toNat dd).A)-a3))),(Node.mk 0 0)]:List Node) x23 l22 v33) [85,93] [2,1,4,6])) (wK (K:=(kx E 130 0)) (xs':=[.one (.lst 2 (rf qL [(Node.mk a2 (w64 (((a4.getD x21.toNat dd).A)-a3))),(Node.mk 0 0)])),.one (.bptr 0 0 0),.one (.bptr 1 0 0)]) (b:=false) ⟨[(85,vc (.fn 117 [.bptr 2 0 0,.bptr 1 0 0])),(93,vo 6 0 2 2)],[(2,bx 3 [ci x23]),(1,bx 56 [.own 4 0 2 l22.length]),(4,ro 0 156 2 l22.length (rf qL l22)),(6,ro 0 156 2 2 (rf qL [(Node.mk a2 (w64 (((a4.getD x21.toNat dd).A)-a3))),(Node.mk 0 0)]))]⟩ (opAt (rg f58 8382874) 9) [(2,0),(1,0),(4,0)] [0,0,1] 4 (o1 (ke 2)) (by simp only[tl,rf,show([(Node.mk a2 (w64 (((a4.getD x21.toNat dd).A)-a3))),(Node.mk 0 0)]:List Node).length=2 from rfl]) (RY ([(Node.mk a2 (w64 (((a4.getD x21.toNat dd).A)-a3))),(Node.mk 0 0)]:List Node) x23 l22 v33 h34) (.inr ⟨(by kernel_rfl),HM ([(Node.mk a2 (w64 (((a4.getD x21.toNat dd).A)-a3))),(Node.mk 0 0)]:List Node) x23 l22 v33⟩) (by kernel_rfl))] 6 [84] [] [1,2,4] [(1,bx 56 [.own 4 1 2 v33.2.length]),(2,bx 3 [ci v33.1]),(4,ro 1 156 2 v33.2.length (rf qL v33.2))] ?_
         exact q_J (v33.2,v33.2.length,v33.1) ⟨rfl,hm⟩
        ·exact q_sk (q_J (l22,l22.length,x23) ⟨rfl,hm⟩)
    ·rcases bif_c hm with⟨b27,hm⟩|⟨b27,hm⟩
     ·exact q_vv [qf 1 b27] 6 [52] [(58,vb true)] (q_J (true) hm)
     ·rcases bif_c hm with⟨b28,hm⟩|⟨b28,hm⟩
      ·exact q_vv [qf 1 b27,qf 6 b28] 6 [52] [(58,vb (decide (((a4.getD x21.toNat dd).A)<(w64 ((w64 (x19+a3))+1)))))] (q_J (decide (((a4.getD x21.toNat dd).A)<(w64 ((w64 (x19+a3))+1)))) hm)
      ·exact q_vv [qf 1 b27,qf 6 b28] 6 [52] [(58,vb false)] (q_J (false) hm)
  ·refine q_ex 0 ?_;obtain rfl:=oi hm;exact L1_mk (x20,l22,x23) (by kernel_rfl) (by kernel_rfl)
theorem qId (a1:Rect) (a2:Int) (a3:Int) (a4:List Span) (a5:List (List Node)) (r:(List Node)×Int) (hm:WL a1 a2 a3 a4 a5=some r):CtX Tryz.prog globs 58 0 0 [.agg (qT a1),.one (ci a2),.one (ci a3),.one (tl qK dd a4),.one (tl (qU qL) dd a5)] [] (BV r) (XY r):=by
 unfold WL at hm;refine q_E f58 130 λE=>?_;refine s_vn [] 0 ⟨[(1,vi a2),(2,vi a3),(3,vc (tl qK dd a4)),(4,vc (tl (qU qL) dd a5)),(5,vp 0 0)],[(0,bx 55 (qT a1))]⟩ (q_sq ?_);obtain⟨v6,h7,hm⟩:=qC hm;refine s_vv [qc 1 [20] 1 (qNV a2 v6 h7)] 1 [] [(22,vb (!v6))] (q_cq hm (λhm=>?_) (λhm=>?_))
 ·refine s_vn [] 1 ⟨[(10,vc (.emp)),(11,vi 10)],[]⟩ (q_fo 10 1 156 2 qL ?_);refine q_fl 10 1 156 2 qL ?_;obtain rfl:=oi hm;exact q_sw 1 0 (q_rt q_rm)
 ·refine q_sk (q_sq ?_);refine q_jn (qNI a1 a2 a3 a4 a5) (λp=>SG a1 a2 a3 a4 a5 p=some r) ?_ ?_
  ·rintro x12 hm;refine q_cq hm (λhm=>?_) (λhm=>?_)
   ·refine s_vn [] 1 ⟨[(10,vc (.emp)),(11,vi 19)],[]⟩ (q_fo 10 1 156 2 qL ?_);refine q_fl 10 1 156 2 qL ?_;obtain rfl:=oi hm;exact q_sw 1 0 (q_rt q_rm)
   ·refine q_sk (q_sq ?_);refine q_jn (qNg a1 a2 a3 a4 a5) (λp=>HS a1 a2 a3 a4 a5 p=some r) ?_ ?_
    ·rintro x15 hm;refine q_cq hm (λhm=>?_) (λhm=>?_)
     ·refine s_vn [] 1 ⟨[(10,vc (.emp)),(11,vi 9)],[]⟩ (q_fo 10 1 156 2 qL ?_);refine q_fl 10 1 156 2 qL ?_;obtain rfl:=oi hm;exact q_sw 1 0 (q_rt q_rm)
     ·refine q_sk (s_vu [] 1 [38] [(12,vp 1 0)] [] [(1,bx 56 [.emp])] ?_);refine s_vu [] 2 [] [(13,vp 2 0)] [] [(2,bx 3 [ci 0])] (s_va 3 [(14,vc (.fn 117 [.bptr 2 0 0,.bptr 1 0 0]))] ?_);obtain⟨v17,h18,hm⟩:=qC hm;refine s_vu [qc 2 [40,41] 3 (qNO a1 a2 v17 h18)] 3 [5] [(15,vp 3 0)] [0] [(3,bx 53 (qK v17))] (s_va 4 [(16,vi v17.A),(17,vb false)] ?_);refine q_sq (s_vv [] 4 [3] [(45,vc (tl qK dd a4)),(46,vi (a4.length:Int)),(47,vi 0)] ?_);refine q_fu [.ownB 1 0 4 156 2 (rf qL [])] [] [] [1] [(1,bx 56 [.own 4 0 2 0]),(4,ro 0 156 2 0 (rf qL []))] o0 ?_;obtain⟨u52,h51,hm⟩:=qC hm
      refine zO (nd f58 16372) 0 (by kernel_rfl) FUEL (λo=>qE5 o.1 o.2.1 o.2.2) (λv st=>RetQ Tryz.prog f58 (BV v) (XY v) .ret st) u52 (q_hl (CF a2 a3 a4 a5 v17 v17.A false 0 ([]:List Node) 0 0) (qMf E a2 a3 a4 a5 v17 FUEL v17.A false 0 ([]:List Node) 0 0 u52 rfl h51)) ?_ ?_
      ·rintro v53 rfl st hr;obtain rfl:=oi hm;exact hr
      ·rintro o50 rfl;replace hm:_=some r:=hm;refine q_jn (ι:=Int×(List Node)×Nat) (λp=>qE3 p.1 p.2.1 p.2.2) (λp=>p.2.1.length=p.2.2/\SM p.1 p.2.1=some r) ?_ ?_
       ·rintro⟨x57,l58,l58n⟩ ⟨el58,hm⟩;replace el58:l58.length=l58n:=el58;subst el58;show H _ (qE3 x57 l58 l58.length) _ _;refine q_sq (s_vu [] 6 [13] [(128,vb (decide (x57>127)))] [2] [] ?_);refine q_cq hm (λhm=>?_) (λhm=>?_)
        ·refine s_vn [] 6 ⟨[(10,vc (.emp)),(11,vi 4)],[]⟩ (q_fo 10 6 156 2 qL ?_);refine q_fl 10 6 156 2 qL ?_;obtain rfl:=oi hm;exact q_sw 6 0 (q_rt q_rm)
        ·refine q_sk (s_vu [] 6 [12,128] [(10,vo 4 0 2 l58.length),(11,vi 0)] [1] [] ?_);obtain rfl:=oi hm;exact q_sw 4 0 (q_rt q_rm)
       ·refine s_vv [] 5 [17] [(122,vb (!o50.1))] (q_cq hm (λhm=>?_) (λhm=>?_))
        ·obtain⟨v55,h56,hm⟩:=qC hm
         refine q_vu [qd 2 (drw 5 0 (rf qL [(Node.mk 0 0)])) (litP qL dd 2 (λ_=>rfl) ([(Node.mk 0 0)]:List Node) 1 rfl),qd 3 (dex (cen [(2,0),(1,0),(4,0)] [0,0,1] 3 2 (XD ([(Node.mk 0 0)]:List Node) o50.2.2 o50.2.1 v55) (QN ([(Node.mk 0 0)]:List Node) o50.2.2 o50.2.1 v55) [123,125] [2,1,4,5])) (wK (K:=(kx E 130 0)) (xs':=[.one (.lst 1 (rf qL [(Node.mk 0 0)])),.one (.bptr 0 0 0),.one (.bptr 1 0 0)]) (b:=false) ⟨[(123,vc (.fn 117 [.bptr 2 0 0,.bptr 1 0 0])),(125,vo 5 0 2 1)],[(2,bx 3 [ci o50.2.2]),(1,bx 56 [.own 4 0 2 o50.2.1.length]),(4,ro 0 156 2 o50.2.1.length (rf qL o50.2.1)),(5,ro 0 156 2 1 (rf qL [(Node.mk 0 0)]))]⟩ (opAt (rg f58 16378) 3) [(2,0),(1,0),(4,0)] [0,0,1] 3 (o1 (ke 1)) (by simp only[tl,rf,show([(Node.mk 0 0)]:List Node).length=1 from rfl]) (RY ([(Node.mk 0 0)]:List Node) o50.2.2 o50.2.1 v55 h56) (.inr ⟨(by kernel_rfl),HM ([(Node.mk 0 0)]:List Node) o50.2.2 o50.2.1 v55⟩) (by kernel_rfl))] 5 [14,122] [] [1,2,4] [(1,bx 56 [.own 4 1 2 v55.2.length]),(2,bx 3 [ci v55.1]),(4,ro 1 156 2 v55.2.length (rf qL v55.2))] ?_
         exact q_J (v55.1,v55.2,v55.2.length) ⟨rfl,hm⟩
        ·exact q_sk (q_J (o50.2.2,o50.2.1,o50.2.1.length) ⟨rfl,hm⟩)
    ·rcases bif_c hm with⟨b14,hm⟩|⟨b14,hm⟩
     ·exact q_vv [qf 2 b14] 1 [32] [(38,vb true)] (q_J (true) hm)
     ·exact q_vv [qf 2 b14] 1 [32] [(38,vb (decide (a3>20)))] (q_J (decide (a3>20)) hm)
  ·obtain⟨v9,h10,hm⟩:=qC hm;rcases bif_c hm with⟨b11,hm⟩|⟨b11,hm⟩
   ·exact q_vv [qc 1 [23] 1 (qCH a1 v9 h10),qf 3 b11] 1 [22] [(32,vb true)] (q_J (true) hm)
   ·exact q_vv [qc 1 [23] 1 (qCH a1 v9 h10),qf 3 b11] 1 [22] [(32,vb ((a4.length:Int) !=(a5.length:Int)))] (q_J ((a4.length:Int) !=(a5.length:Int)) hm)
def qWi (r:(List Node)×Int×Int):V:= .tup [.one (.own 0 0 2 r.1.length),.one (ci r.2.1),.one (ci r.2.2)]
def qV5 (r:(List Node)×Int×Int):List (Nat×(Nat×O)):=[(0,ro 0 156 2 r.1.length (rf qL r.1))]
def qBK (a4:Rect) (a5:Saw) (v10:(List zR)×Int×Int) (v13:(List Int)×(List Int)) (l15:List Span) (l15n:Nat) (l16:List (List Node)) (l16n:Nat) (x17:Int):St:=
 ⟨[(9,vp 0 0),(10,vp 1 0),(18,vi v10.2.1),(19,vo 9 0 1 v13.1.length),(20,vo 10 0 1 v13.2.length),(21,vo 11 0 2 l15n),(22,vo 12 0 1 l16n),(60,vo 8 0 2 v10.1.length),(61,vi (v10.1.length:Int)),(62,vi x17)],[(0,bx 55 (qT a4)),(1,bx 39 (jY a5)),(8,ro 0 132 2 v10.1.length (rf QB v10.1)),(9,ro 0 3 1 v13.1.length (rf qD v13.1)),(10,ro 0 3 1 v13.2.length (rf qD v13.2)),(11,ro 0 53 2 l15n (rf qK l15)),(12,ro 0 56 1 l16n (rf (qU qL) l16))]⟩
def qH3 (a4:Rect) (a5:Saw) (v10:(List zR)×Int×Int) (l27:List Span) (l28:List (List Node)):St:=
 ⟨[(9,vp 0 0),(10,vp 1 0),(18,vi v10.2.1),(21,vo 11 0 2 l27.length),(22,vo 12 0 1 l28.length)],[(0,bx 55 (qT a4)),(1,bx 39 (jY a5)),(11,ro 0 53 2 l27.length (rf qK l27)),(12,ro 0 56 1 l28.length (rf (qU qL) l28))]⟩
theorem qPA (E:Env 0) (a4:Rect) (a5:Saw) (v10:(List zR)×Int×Int) (v13:(List Int)×(List Int)):∀(n:Nat) (l15:List Span) (l15n:Nat) (l16:List (List Node)) (l16n:Nat) (x17:Int) (res:(List Span)×(List (List Node))),l15.length=l15n->l16.length=l16n->RC a4 v10 v13 n l15 l16 x17=some res->HL (kx E 106 0) (nd f111 8180) (zL 0 (λo=>qH3 a4 a5 v10 o.1 o.2) res) n (qBK a4 a5 v10 v13 l15 l15n l16 l16n x17):=by
 intro n
 induction n with
 |zero=>
  intro l15 l15n l16 l16n x17 res hl0 hl1 hm;cases hm
 |succ n ih=>
  intro l15 l15n l16 l16n x17 res hl0 hl1 hm;subst hl0;subst hl1;refine qS (s_va 13 [(63,vb (decide (x17<(v10.1.length:Int))))] ?_);refine q_sq (q_cq hm (λhm=>?_) (λhm=>?_))
  ·refine q_sk (q_sq ?_);refine q_bk 1 ?_;obtain⟨g19,hm⟩:=qJ hm;refine s_vu [qi 0 g19,qd 1 dN (qW (zC g19))] 13 [63] [(24,vp 13 0)] [] [(13,bx 132 (QB (v10.1.getD x17.toNat dd)))] ?_;obtain⟨g20,hm⟩:=qJ hm;obtain⟨v21,h22,hm⟩:=qC hm;obtain⟨g23,hm⟩:=qJ hm
   refine s_du [qi 9 g20,qd 10 dN (qW (zC g20)),qc 12 [67,69,77] 14 (qER a4 ((v10.1.getD x17.toNat dd).At) (w64 (((v10.1.getD x17.toNat dd).At)+(v13.1.getD (((v10.1.getD x17.toNat dd).Size).toNat) dd))) v21 h22),qd 14 (drw 14 0 (rf qK [v21.X])) (litP qK dd 2 (λ_=>rfl) ([v21.X]:List Span) 1 rfl),qd 15 (drw 11 1 (rf qK (l15++[v21.X]))) (apP qK dd l15 ([v21.X]:List Span) l15.length 1 2 16 (1<=1) (ke _) rfl rfl (λ_=>rfl) (wA g23))] [0,0,0,4,0,16,0,0,128,448,960,2032,4094,8190,16382,32767,65535] 14 [21] [(21,vo 11 1 2 (l15.length+1))] [11] [(11,ro 1 53 2 (l15.length+1) (rf qK (l15++[v21.X])))] ?_
   obtain⟨g24,hm⟩:=qJ hm;obtain⟨v25,h26,hm⟩:=qC hm
   refine q_vu [qi 4 g24,qd 5 dN (qW (zC g24)),qd 7 (drw 15 0 (rf qL [(Node.mk 1 (v13.2.getD (((v10.1.getD x17.toNat dd).Size).toNat) dd))])) (litP qL dd 2 (λ_=>rfl) ([(Node.mk 1 (v13.2.getD (((v10.1.getD x17.toNat dd).Size).toNat) dd))]:List Node) 1 rfl),qd 8 (dpr [.len 15 (([(Node.mk 1 (v13.2.getD (((v10.1.getD x17.toNat dd).Size).toNat) dd))]:List Node).length)] (dex (cen [(12,0),(15,0)] [1,1] 14 0 (qDZ l16 ([(Node.mk 1 (v13.2.getD (((v10.1.getD x17.toNat dd).Size).toNat) dd))]:List Node) v25) (qDV l16 ([(Node.mk 1 (v13.2.getD (((v10.1.getD x17.toNat dd).Size).toNat) dd))]:List Node) v25) [82,89] [12,15]))) (And.intro (show 1=([(Node.mk 1 (v13.2.getD (((v10.1.getD x17.toNat dd).Size).toNat) dd))]:List Node).length from rfl) (show 1=([(Node.mk 1 (v13.2.getD (((v10.1.getD x17.toNat dd).Size).toNat) dd))]:List Node).length from rfl)),qd 8 dN (wK (K:=(kx E 106 0)) ⟨[(82,vo 12 0 1 l16.length),(89,vo 15 0 2 (([(Node.mk 1 (v13.2.getD (((v10.1.getD x17.toNat dd).Size).toNat) dd))]:List Node).length))],[(12,ro 0 56 1 l16.length (rf (qU qL) l16)),(15,ro 0 156 2 (([(Node.mk 1 (v13.2.getD (((v10.1.getD x17.toNat dd).Size).toNat) dd))]:List Node).length) (rf qL [(Node.mk 1 (v13.2.getD (((v10.1.getD x17.toNat dd).Size).toNat) dd))]))]⟩ (opAt (rg f111 523571) 8) [(12,0),(15,0)] [1,1] 14 o0 rfl (qLd l16 ([(Node.mk 1 (v13.2.getD (((v10.1.getD x17.toNat dd).Size).toNat) dd))]:List Node) v25 h26) (.inl rfl) (by kernel_rfl))] 15 [22,24] [(22,vo 12 1 1 v25.2.length)] [12,13] [(12,ro 1 56 1 v25.2.length (rf (qU qL) v25.2))] ?_
   exact q_vv [] 16 [62] [(62,vi (w64 (x17+1)))] (q_hl (qBK a4 a5 v10 v13 (l15++[v21.X]) (l15.length+1) v25.2 v25.2.length (w64 (x17+1))) (ih (l15++[v21.X]) (l15.length+1) v25.2 v25.2.length (w64 (x17+1)) _ (wB rfl rfl) rfl hm))
  ·refine q_ex 0 ?_;obtain rfl:=oi hm;exact q_l0
theorem qVU (a1:List qN) (a2:List qG) (a3:List qE) (a4:Rect) (a5:Saw) (a6:Rates) (r:(List Node)×Int×Int) (hm:wZ a1 a2 a3 a4 a5 a6=some r):CtX Tryz.prog globs 111 0 0 [.one (tl qR dd a1),.one (tl qM dd a2),.one (tl qP dd a3),.agg (qT a4),.agg (jY a5),.agg (wC a6)] [] (qWi r) (qV5 r):=by
 unfold wZ at hm;refine q_E f111 106 λE=>?_;refine s_vn [] 0 ⟨[(0,vc (tl qR dd a1)),(1,vc (tl qM dd a2)),(2,vc (tl qP dd a3)),(9,vp 0 0),(10,vp 1 0),(11,vp 2 0)],[(0,bx 55 (qT a4)),(1,bx 39 (jY a5)),(2,bx 41 (wC a6))]⟩ ?_;obtain⟨v7,h8,hm⟩:=qC hm
 refine s_vu [qc 6 [27,28,29,30,31,32] 3 (qUn a1 a2 a3 a4 a5 a6 v7 h8)] 3 [0,1,11] [(15,vp 7 0),(16,vi v7.2)] [2] [(3,ro 0 3 1 v7.1.Sizes.length (rf qD v7.1.Sizes)),(4,ro 0 72 1 v7.1.Gain.length (rf (qU qD) v7.1.Gain)),(5,ro 0 3 1 v7.1.Chip.length (rf qD v7.1.Chip)),(6,ro 0 3 1 v7.1.Dust.length (rf qD v7.1.Dust)),(7,bx 123 [ci v7.1.Len,ci v7.1.Kerf,ci v7.1.Pitch,.own 3 0 1 v7.1.Sizes.length,.own 4 0 1 v7.1.Gain.length,.own 5 0 1 v7.1.Chip.length,.own 6 0 1 v7.1.Dust.length])] (q_sq ?_);refine s_va 8 [(37,vb (v7.2 !=0))] (q_cq hm (λhm=>?_) (λhm=>?_))
 ·refine s_vn [] 8 ⟨[(12,vc (.emp)),(13,vi 0),(14,vi v7.2)],[]⟩ (q_fo 12 8 156 2 qL ?_);refine q_fl 12 8 156 2 qL ?_;obtain rfl:=oi hm;exact q_sw 8 0 (q_rt q_rm)
 ·refine q_sk ?_;obtain⟨v10,h11,hm⟩:=qC hm
  refine s_vu [qd 1 (dex (cen [] [] 8 0 (qB2 v10) (DJ v10) [40] [3,4,5,6])) (wK (K:=(kx E 106 0)) (b:=false) ⟨[(40,va [ci v7.1.Len,ci v7.1.Kerf,ci v7.1.Pitch,.own 3 0 1 v7.1.Sizes.length,.own 4 0 1 v7.1.Gain.length,.own 5 0 1 v7.1.Chip.length,.own 6 0 1 v7.1.Dust.length])],[(3,ro 0 3 1 v7.1.Sizes.length (rf qD v7.1.Sizes)),(4,ro 0 72 1 v7.1.Gain.length (rf (qU qD) v7.1.Gain)),(5,ro 0 3 1 v7.1.Chip.length (rf qD v7.1.Chip)),(6,ro 0 3 1 v7.1.Dust.length (rf qD v7.1.Dust))]⟩ (opAt (rg f111 30) 1) [] [] 8 (o1 (And.intro (ke v7.1.Sizes.length) (And.intro (ke v7.1.Gain.length) (And.intro (ke v7.1.Chip.length) (ke v7.1.Dust.length))))) rfl (qGy (Line.mk v7.1.Len v7.1.Kerf v7.1.Pitch v7.1.Sizes v7.1.Gain v7.1.Chip v7.1.Dust) v10 h11) (.inr ⟨(by kernel_rfl),qHx v10⟩) (by kernel_rfl))] 8 [15,16,37] [(16,vi v10.2.2),(17,vo 8 0 2 v10.1.length),(18,vi v10.2.1)] [3,4,5,6,7] [(8,ro 0 132 2 v10.1.length (rf QB v10.1))] ?_
  refine q_sq (s_va 9 [(46,vb (v10.2.2 !=0))] ?_);refine q_cq hm (λhm=>?_) (λhm=>?_)
  ·refine s_vn [] 9 ⟨[(12,vc (.emp)),(13,vi 0),(14,vi v10.2.2)],[]⟩ (q_fo 12 9 156 2 qL ?_);refine q_fl 12 9 156 2 qL ?_;obtain rfl:=oi hm;exact q_sw 9 0 (q_rt q_rm)
  ·refine q_sk ?_;obtain⟨v13,h14,hm⟩:=qC hm;refine s_vu [qc 8 [49,56] 9 (qJq a3 (w64 (a4.Y.B-a4.Y.A)) v13 h14)] 9 [2,16,46] [(19,vo 9 0 1 v13.1.length),(20,vo 10 0 1 v13.2.length)] [] [(9,ro 0 3 1 v13.1.length (rf qD v13.1)),(10,ro 0 3 1 v13.2.length (rf qD v13.2))] (s_va 11 [(21,vc (.emp))] ?_);refine s_va 11 [(22,vc (.emp))] (q_sq ?_);refine s_vv [] 11 [17] [(60,vo 8 0 2 v10.1.length),(61,vi (v10.1.length:Int)),(62,vi 0)] (q_fo 21 11 53 2 qK ?_);refine q_fo 22 12 56 1 (qU qL) ?_;obtain⟨o29,h30,hm⟩:=qC hm
   refine zG (nd f111 8180) 0 (by kernel_rfl) FUEL (λo=>qH3 a4 a5 v10 o.1 o.2) o29 (q_hl (qBK a4 a5 v10 v13 ([]:List Span) 0 ([]:List (List Node)) 0 0) (qPA E a4 a5 v10 v13 FUEL ([]:List Span) 0 ([]:List (List Node)) 0 0 o29 rfl rfl h30)) ?_;obtain⟨v31,h32,hm⟩:=qC hm
   refine s_vn [qd 5 (dex (cen [] [] 13 0 (BV v31) (XY v31) [93,95,96,97] [11,12])) (wK (K:=(kx E 106 0)) (b:=false) ⟨[(93,va (qT a4)),(95,vi a5.Kerf),(96,vo 11 0 2 o29.1.length),(97,vo 12 0 1 o29.2.length)],[(11,ro 0 53 2 o29.1.length (rf qK o29.1)),(12,ro 0 56 1 o29.2.length (rf (qU qL) o29.2))]⟩ (opAt (rg f111 2046) 5) [] [] 13 (o1 (And.intro (ke o29.1.length) (ke o29.2.length))) rfl (qId a4 2 a5.Kerf o29.1 o29.2 v31 h32) (.inr ⟨(by kernel_rfl),qJc v31⟩) (by kernel_rfl))] 13 ⟨[(16,vi v31.2),(18,vi v10.2.1),(25,vo 13 0 2 v31.1.length)],[(13,ro 0 156 2 v31.1.length (rf qL v31.1))]⟩ (q_sq ?_)
   refine s_va 14 [(102,vb (v31.2 !=0))] (q_cq hm (λhm=>?_) (λhm=>?_))
   ·refine s_vn [] 14 ⟨[(12,vc (.emp)),(13,vi 0),(14,vi v31.2)],[]⟩ (q_fo 12 14 156 2 qL ?_);refine q_fl 12 14 156 2 qL ?_;obtain rfl:=oi hm;exact q_sw 14 0 (q_rt q_rm)
   ·refine q_sk (s_vv [] 14 [16,18,25,102] [(12,vo 13 0 2 v31.1.length),(13,vi v10.2.1),(14,vi 0)] ?_);obtain rfl:=oi hm;exact q_sw 13 0 (q_rt q_rm)
def qLF (r:Bool):V:=vb r
def qL8 (r:Bool):List (Nat×(Nat×O)):=[]
theorem qJ5 (a1:Node) (r:Bool) (hm:qAj a1=some r):CtX Tryz.prog globs 177 0 0 [.agg (qL a1)] [] (qLF r) (qL8 r):=by
 unfold qAj at hm;refine q_E f177 6 λE=>?_;refine s_vn [] 0 ⟨[(1,vp 0 0)],[(0,bx 156 (qL a1))]⟩ (s_vn [] 1 ⟨[(2,vb (a1.Kind==1))],[]⟩ ?_);obtain rfl:=oi hm;exact q_rt q_rm
open Go.Proofs Go.Proofs.Tryz
def RO (r:Int):V:=vi r
def RG (r:Int):List (Nat×(Nat×O)):=[]
def XA (a1:List Node) (x2:Int):St:=
 ⟨[(0,vc (tl qL dd a1)),(1,vc (.fn 177 [])),(7,vi (a1.length:Int)),(8,vi x2)],[]⟩
def DN :St:=
 ⟨[],[]⟩
theorem qBe (E:Env 0) (a1:List Node):∀(n:Nat) (x2:Int) (res:Int⊕Unit),jJ a1 n x2=some res->HL (kx E 19 0) (nd f218 52) (wL 0 (λo=>DN) (λv st=>RetQ Tryz.prog f218 (RO v) (RG v) .ret st) res) n (XA a1 x2):=by
 intro n
 induction n with
 |zero=>
  intro x2 res hm;cases hm
 |succ n ih=>
  intro x2 res hm;refine qS (s_va 0 [(9,vb (decide (x2<(a1.length:Int))))] ?_);refine q_sq (q_cq hm (λhm=>?_) (λhm=>?_))
  ·refine q_sk (q_sq ?_);refine q_bk 1 (s_vv [] 0 [9] [(5,vi x2)] ?_);obtain⟨g4,hm⟩:=qJ hm;obtain⟨v5,h6,hm⟩:=qC hm;refine s_vv [qi 3 g4,qk 5 [11,15] 0 ⟨[(11,vc (.fn 177 [])),(15,va [ci ((a1.getD x2.toNat dd).Kind),ci ((a1.getD x2.toNat dd).At)])],[]⟩ (qJ5 (a1.getD x2.toNat dd) v5 h6)] 0 [] [(16,vb v5)] (q_cq hm (λhm=>?_) (λhm=>?_))
   ·refine s_vn [] 0 ⟨[(4,vi x2)],[]⟩ ?_;obtain rfl:=oi hm;refine q_rt (zJ x2 ?_);exact q_rm
   ·refine q_sk (q_vv [] 0 [5,8,16] [(8,vi (w64 (x2+1)))] ?_);exact q_hl (XA a1 (w64 (x2+1))) (ih (w64 (x2+1)) _ hm)
  ·refine q_ex 0 ?_;obtain rfl:=oi hm;exact q_l1 ()
theorem qEn (a1:List Node) (r:Int) (hm:YV a1=some r):CtX Tryz.prog globs 218 0 0 [.one (tl qL dd a1),.one (.fn 177 [])] [] (RO r) (RG r):=by
 unfold YV at hm;refine q_E f218 19 λE=>?_;refine s_vn [] 0 ⟨[(0,vc (tl qL dd a1)),(1,vc (.fn 177 []))],[]⟩ (q_sq ?_);refine s_va 0 [(7,vi (a1.length:Int)),(8,vi 0)] ?_;obtain⟨u10,h9,hm⟩:=qC hm;refine zO (nd f218 52) 0 (by kernel_rfl) FUEL (λo=>DN) (λv st=>RetQ Tryz.prog f218 (RO v) (RG v) .ret st) u10 (q_hl (XA a1 0) (qBe E a1 FUEL 0 u10 h9)) ?_ ?_
 ·rintro v11 rfl st hr;obtain rfl:=oi hm;exact hr
 ·rintro o8 rfl;replace hm:_=some r:=hm;refine s_vn [] 0 ⟨[(4,vi (-1))],[]⟩ ?_;obtain rfl:=oi hm;exact q_rt q_rm
def qC1 (r:Bool):V:=vb r
def qCE (r:Bool):List (Nat×(Nat×O)):=[]
theorem qBP (a1:List Node) (r:Bool) (hm:WI a1=some r):CtX Tryz.prog globs 176 0 0 [.one (tl qL dd a1),.one (.fn 177 [])] [] (qC1 r) (qCE r):=by
 unfold WI at hm;refine q_E f176 9 λE=>?_;refine s_vn [] 0 ⟨[(0,vc (tl qL dd a1)),(1,vc (.fn 177 []))],[]⟩ ?_;obtain⟨v2,h3,hm⟩:=qC hm;refine s_vn [qc 2 [5,6] 0 (qEn a1 v2 h3)] 0 ⟨[(4,vb (decide (v2≥0)))],[]⟩ ?_;obtain rfl:=oi hm;exact q_rt q_rm
def qGv (r:Bool):V:=vb r
def FF (r:Bool):List (Nat×(Nat×O)):=[]
theorem qQs (r:Bool):ZE (FF r):=by
 intro i k o h;unfold FF at h;cases h
theorem qNG (a1:List Node) (r:Bool) (hm:TI a1=some r):CtX Tryz.prog globs 112 0 0 [.one (tl qL dd a1)] [] (qGv r) (FF r):=by
 unfold TI at hm;refine q_E f112 5 λE=>?_;refine s_vn [] 0 ⟨[(0,vc (tl qL dd a1))],[]⟩ ?_;obtain⟨v2,h3,hm⟩:=qC hm;refine s_vn [qk 1 [3] 0 ⟨[(3,vc (tl qL dd a1))],[]⟩ (qBP a1 v2 h3)] 0 ⟨[(2,vb v2)],[]⟩ ?_;obtain rfl:=oi hm;exact q_rt q_rm
open Go.Proofs Go.Proofs.Tryz
def qSz (r:Int):V:=vi r
def qS5 (r:Int):List (Nat×(Nat×O)):=[]
theorem qHH (a1:List qN) (a2:Rect) (r:Int) (hm:PD a1 a2=some r):CtX Tryz.prog globs 60 0 0 [.one (tl qR dd a1),.agg (qT a2)] [] (qSz r) (qS5 r):=by
 unfold PD at hm;refine q_E f60 15 λE=>?_;refine s_vn [] 0 ⟨[(0,vc (tl qR dd a1)),(3,vp 0 0)],[(0,bx 55 (qT a2))]⟩ ?_;obtain⟨v3,h4,hm⟩:=qC hm;obtain⟨v5,h6,hm⟩:=qC hm;refine s_dn [qc 6 [10] 1 (FL a1 v3 h4),qc 9 [5,13] 1 (qFM a1 (Box.mk a2.X a2.Y (Span.mk 0 v3)) v5 h6)] [0,0,2,0,8,0,32,96,254,511,1023] 1 ⟨[(4,vi v5)],[]⟩ ?_;obtain rfl:=oi hm;exact q_rt q_rm
open Go.Proofs
def qDa (a1:List Int) (r:List Int):V:= .undef
def qCP (a1:List Int) (r:List Int):List (Nat×(Nat×O)):=[(0,ro 0 3 1 r.length (rf qD r))]
theorem lfA {α:Type} {o:Option α} {a b:α} (h:o=some a) (e:a=b:=by kernel_rfl):o=some b:=h.trans (congrArg some e)
def slices_Sort_Si64_lay_ren :Go.Shelf.Ren:=⟨fun |189=>170|125=>213|257=>212|128=>247|129=>248|294=>238|295=>239|296=>240|297=>241|298=>242|299=>243|216=>244|300=>245|301=>246|328=>258|329=>259|330=>260|331=>261|332=>262|215=>254|343=>277|n=>n,fun |28=>72|3=>3|46=>246|0=>0|51=>267|53=>161|4=>4|183=>260|182=>259|131=>221|5=>5|9=>9|218=>274|222=>278|228=>294|229=>107|n=>n,fun n=>n⟩
theorem slices_Sort_Si64_lay : Go.Proofs.Lays.n189 Tryz.prog slices_Sort_Si64_lay_ren :={mixed:=by kernel_rfl,f125:=lfA Tryz.func213,f128:=lfA Tryz.func247,f129:=lfA Tryz.func248,f189:=lfA Tryz.func170,f215:=lfA Tryz.func254,f216:=lfA Tryz.func244,f257:=lfA Tryz.func212,f294:=lfA Tryz.func238,f295:=lfA Tryz.func239,f296:=lfA Tryz.func240,f297:=lfA Tryz.func241,f298:=lfA Tryz.func242,f299:=lfA Tryz.func243,f300:=lfA Tryz.func245,f301:=lfA Tryz.func246,f328:=lfA Tryz.func258,f329:=lfA Tryz.func259,f330:=lfA Tryz.func260,f331:=lfA Tryz.func261,f332:=lfA Tryz.func262,f343:=lfA Tryz.func277,t0:=Tryz.underlying0,a0:=Tryz.isAgg0,z0:=Tryz.sizeOf0,v0:=Tryz.zeroValue0,t3:=Tryz.underlying3,a3:=Tryz.isAgg3,z3:=Tryz.sizeOf3,v3:=Tryz.zeroValue3,t4:=Tryz.underlying4,a4:=Tryz.isAgg4,z4:=Tryz.sizeOf4,v4:=Tryz.zeroValue4,t5:=Tryz.underlying5,a5:=Tryz.isAgg5,z5:=Tryz.sizeOf5,v5:=Tryz.zeroValue5,t9:=Tryz.underlying9,a9:=Tryz.isAgg9,z9:=Tryz.sizeOf9,v9:=Tryz.zeroValue9,t28:=Tryz.underlying72,a28:=Tryz.isAgg72,z28:=Tryz.sizeOf72,v28:=Tryz.zeroValue72,t46:=Tryz.underlying246,a46:=Tryz.isAgg246,z46:=Tryz.sizeOf246,v46:=Tryz.zeroValue246,t51:=Tryz.underlying267,a51:=Tryz.isAgg267,z51:=Tryz.sizeOf267,v51:=Tryz.zeroValue267,t53:=Tryz.underlying161,a53:=Tryz.isAgg161,z53:=Tryz.sizeOf161,v53:=Tryz.zeroValue161,t131:=Tryz.underlying221,a131:=Tryz.isAgg221,z131:=Tryz.sizeOf221,v131:=Tryz.zeroValue221,t182:=Tryz.underlying259,a182:=Tryz.isAgg259,z182:=Tryz.sizeOf259,v182:=Tryz.zeroValue259,t183:=Tryz.underlying260,a183:=Tryz.isAgg260,z183:=Tryz.sizeOf260,v183:=Tryz.zeroValue260,t218:=Tryz.underlying274,a218:=Tryz.isAgg274,z218:=Tryz.sizeOf274,v218:=Tryz.zeroValue274,t222:=Tryz.underlying278,a222:=Tryz.isAgg278,z222:=Tryz.sizeOf278,v222:=Tryz.zeroValue278,t228:=Tryz.underlying294,a228:=Tryz.isAgg294,z228:=Tryz.sizeOf294,v228:=Tryz.zeroValue294,t229:=Tryz.underlying107,a229:=Tryz.isAgg107,z229:=Tryz.sizeOf107,v229:=Tryz.zeroValue107}
theorem qJH (a1:List Int) (r:List Int) (hm:DZ a1=some r):CtX Tryz.prog globs 170 1 1 [.one (.own 0 0 1 a1.length)] [(0,ro 0 3 1 a1.length (rf qD a1))] (qDa a1 r) (qCP a1 r):=by
 unfold DZ at hm;obtain⟨g1,hm⟩:=qJ hm;obtain rfl:=oi hm;exact qX7 (gl:=globs) slices_Sort_Si64_lay 3 a1 (by simpa using g1)
def XS (a1:List Int) (r:(List Int)×(List Int)):V:=vo 0 0 1 r.2.length
def XP (a1:List Int) (r:(List Int)×(List Int)):List (Nat×(Nat×O)):=[(0,ro 0 3 1 r.2.length (rf qD r.2))]
def FZ (l3:List Int) (x4:Int) (x12:Int) (l19:List Int) (l19n:Nat) (x20:Int):St:=
 ⟨[(0,vo 0 0 1 l19n),(3,vi x20),(4,vc (.sub 0 0 1 x4.toNat (l3.length-x4.toNat))),(5,vi x12)],[(0,ro 0 3 1 l19n (rf qD l19))]⟩
def RP (l3:List Int) (x4:Int) (l10:List Int) (l10n:Nat) (x11:Int) (x12:Int):St:=
 ⟨[(0,vo 0 0 1 l10n),(3,vi x11),(4,vc (.sub 0 0 1 x4.toNat (l3.length-x4.toNat))),(5,vi x12)],[(0,ro 0 3 1 l10n (rf qD l10))]⟩
def MC (l21:List Int) (x22:Int):St:=
 ⟨[(0,vo 0 0 1 l21.length),(3,vi x22)],[(0,ro 0 3 1 l21.length (rf qD l21))]⟩
def RE (l3:List Int) (l3n:Nat) (x4:Int):St:=
 ⟨[(0,vo 0 0 1 l3n),(3,vi x4)],[(0,ro 0 3 1 l3n (rf qD l3))]⟩
def MV (l27:List Int):St:=
 ⟨[(0,vo 0 0 1 l27.length)],[(0,ro 0 3 1 l27.length (rf qD l27))]⟩
theorem qEr (E:Env 1) (l3:List Int) (x4:Int):∀(n:Nat) (l10:List Int) (l10n:Nat) (x11:Int) (x12:Int) (res:(List Int)×Int),l10.length=l10n->wY l3 x4 n l10 x11 x12=some res->HL (kx E 61 1) (nd f171 119380) (zL 2 (λo=>MC o.1 o.2) res) n (RP l3 x4 l10 l10n x11 x12):=by
 intro n
 induction n with
 |zero=>
  intro l10 l10n x11 x12 res hl0 hm;cases hm
 |succ n ih=>
  intro l10 l10n x11 x12 res hl0 hm;subst hl0;refine qS (q_sq ?_);refine s_va 1 [(32,vb (decide (x12<(((l3.length-x4.toNat):Nat):Int))))] (q_cq hm (λhm=>?_) (λhm=>?_))
  ·refine q_sk (q_jn (ι:=(List Int)×Nat×Int) (λp=>FZ l3 x4 x12 p.1 p.2.1 p.2.2) (λp=>p.1.length=p.2.1/\VE x12 (wY l3 x4 n) p.1 p.2.2=some res) ?_ ?_)
   ·rintro⟨l19,l19n,x20⟩ ⟨el19,hm⟩;replace el19:l19.length=l19n:=el19;subst el19;show H _ (FZ l3 x4 x12 l19 l19.length x20) _ _;exact q_vv [] 1 [5] [(5,vi (w64 (x12+1)))] (q_hl (RP l3 x4 l19 l19.length x20 (w64 (x12+1))) (ih l19 l19.length x20 (w64 (x12+1)) _ rfl hm))
   ·refine q_bk 3 ?_;obtain⟨g14,hm⟩:=qJ hm;obtain⟨g15,hm⟩:=qJ hm;obtain⟨g16,hm⟩:=qJ hm;refine s_du [qi 2 g14,qd 3 dN (uh (uP (qW (zC g14)) x4.toNat) (kK g15)),qi 7 g16,qd 8 dN (uh (uP (qW (zC g16)) x4.toNat) (kK g15))] [0,0,3,7,0,0,32,112,240,511] 1 [32] [(44,vb ((l10.getD (x4.toNat+x12.toNat) dd) !=(l10.getD (x4.toNat+((w64 (x12-1)).toNat)) dd)))] [] [] (q_cq hm (λhm=>?_) (λhm=>?_))
    ·obtain⟨g18,hm⟩:=qJ hm;refine s_vu [qi 4 g14,qd 5 dN (uh (uP (qW (zC g14)) x4.toNat) (kK g15)),qi 6 g18,qd 7 (drw 0 0 (rf qD (l10.set x11.toNat (l10.getD (x4.toNat+x12.toNat) dd)))) (stP qD dd (l10.getD (x4.toNat+x12.toNat) dd) l10 l10.length x11.toNat 0 [ci (l10.getD (x4.toNat+x12.toNat) dd)] rfl (qW (zC g18)) rfl)] 1 [44] [] [0] [(0,ro 0 3 1 l10.length (rf qD (l10.set x11.toNat (l10.getD (x4.toNat+x12.toNat) dd))))] (q_vv [] 1 [3] [(3,vi (w64 (x11+1)))] ?_);exact q_J ((l10.set x11.toNat (l10.getD (x4.toNat+x12.toNat) dd)),l10.length,w64 (x11+1)) ⟨(QC rfl),hm⟩
    ·exact q_sk (q_J (l10,l10.length,x11) ⟨rfl,hm⟩)
  ·refine q_ex 2 ?_;obtain rfl:=oi hm;exact q_l0
theorem qEj (E:Env 1) (a1:List Int):∀(n:Nat) (l3:List Int) (l3n:Nat) (x4:Int) (res:((List Int)×(List Int))⊕(List Int)),l3.length=l3n->yR n l3 x4=some res->HL (kx E 61 1) (nd f171 116) (wL 0 MV (λv st=>RetQ Tryz.prog f171 (XS a1 v) (XP a1 v) .ret st) res) n (RE l3 l3n x4):=by
 intro n
 induction n with
 |zero=>
  intro l3 l3n x4 res hl0 hm;cases hm
 |succ n ih=>
  intro l3 l3n x4 res hl0 hm;subst hl0;refine qS (q_sq ?_);refine s_va 1 [(13,vb (decide (x4<(l3.length:Int))))] (q_cq hm (λhm=>?_) (λhm=>?_))
  ·refine q_sk (q_sq ?_);refine q_bk 1 ?_;obtain⟨g6,hm⟩:=qJ hm;obtain⟨g7,hm⟩:=qJ hm;refine s_du [qi 2 g6,qd 3 dN (qW (zC g6)),qi 7 g7,qd 8 dN (qW (zC g7))] [0,0,3,7,0,0,32,112,240,511] 1 [13] [(25,vb ((l3.getD x4.toNat dd)==(l3.getD ((w64 (x4-1)).toNat) dd)))] [] [] (q_cq hm (λhm=>?_) (λhm=>?_))
   ·obtain⟨g9,hm⟩:=qJ hm;refine s_vv [qd 2 dN (And.intro (zU g9).1 (zU g9).2.1)] 1 [25] [(4,vc (.sub 0 0 1 x4.toNat (l3.length-x4.toNat)))] (q_sq ?_);refine s_va 1 [(5,vi 1)] ?_;obtain⟨o23,h24,hm⟩:=qC hm;refine zG (nd f171 119380) 2 (by kernel_rfl) FUEL (λo=>MC o.1 o.2) o23 (q_hl (RP l3 x4 l3 l3.length x4 1) (qEr E l3 x4 FUEL l3 l3.length x4 1 o23 rfl h24)) ?_;obtain⟨g25,hm⟩:=qJ hm
    refine s_wu [qd 2 dN (And.intro (zU g25).1 (zU g25).2.1),qd 3 (drw 0 0 (rf qD o23.1)) (show o23.2.toNat+(o23.1.length-o23.2.toNat)<=o23.1.length by have:=(zU g25);omega)] [.row 0 o23.2.toNat (rf qD (o23.1.take o23.2.toNat))] (o1 (tkP qD dd o23.1 o23.2.toNat o23.2.toNat (ke _))) 1 [] [] [0] [(0,ro 0 3 1 o23.2.toNat (rf qD (o23.1.take o23.2.toNat)))] ?_;obtain⟨g26,hm⟩:=qJ hm
    refine s_vv [qd 2 dN (And.intro (zU g26).2.1 (zU g26).2.2)] 1 [0,3] [(2,vo 0 0 1 o23.2.toNat)] (q_fn [.len 0 ((o23.1.take o23.2.toNat).length)] ⟨[(2,vo 0 0 1 ((o23.1.take o23.2.toNat).length))],[(0,ro 0 3 1 ((o23.1.take o23.2.toNat).length) (rf qD (o23.1.take o23.2.toNat)))]⟩ (o1 (And.intro (Eq.symm (show(o23.1.take o23.2.toNat).length=o23.2.toNat from(PY rfl (uq (gj _ _) (show o23.2.toNat+(o23.1.length-o23.2.toNat)<=o23.1.length by have:=(zU g25);omega))))) (Eq.symm (show(o23.1.take o23.2.toNat).length=o23.2.toNat from(PY rfl (uq (gj _ _) (show o23.2.toNat+(o23.1.length-o23.2.toNat)<=o23.1.length by have:=(zU g25);omega))))))) ?_)
    obtain rfl:=oi hm;refine q_rt (zJ ((o23.1.take o23.2.toNat),(o23.1.take o23.2.toNat)) ?_);exact q_rm
   ·refine q_sk (q_vv [] 1 [3,25] [(3,vi (w64 (x4+1)))] ?_);exact q_hl (RE l3 l3.length (w64 (x4+1))) (ih l3 l3.length (w64 (x4+1)) _ rfl hm)
  ·refine q_ex 0 ?_;obtain rfl:=oi hm;exact q_l1 l3
theorem qGW (a1:List Int) (r:(List Int)×(List Int)) (hm:JX a1=some r):CtX Tryz.prog globs 171 1 1 [.one (.own 0 0 1 a1.length)] [(0,ro 0 3 1 a1.length (rf qD a1))] (XS a1 r) (XP a1 r):=by
 unfold JX at hm;refine q_E f171 61 λE=>?_;refine s_vn [] 1 ⟨[(0,vo 0 0 1 a1.length)],[(0,ro 0 3 1 a1.length (rf qD a1))]⟩ (q_sq ?_);refine s_va 1 [(8,vb (decide ((a1.length:Int)<2)))] (q_cq hm (λhm=>?_) (λhm=>?_))
 ·refine s_vv [] 1 [0,8] [(2,vo 0 0 1 a1.length)] ?_;obtain rfl:=oi hm;exact q_rt q_rm
 ·refine q_sk (q_sq ?_);refine s_vv [] 1 [8] [(3,vi 1)] ?_;obtain⟨u30,h29,hm⟩:=qC hm;refine zO (nd f171 116) 0 (by kernel_rfl) FUEL MV (λv st=>RetQ Tryz.prog f171 (XS a1 v) (XP a1 v) .ret st) u30 (q_hl (RE a1 a1.length 1) (qEj E a1 FUEL a1 a1.length 1 u30 rfl h29)) ?_ ?_
  ·rintro v31 rfl st hr;obtain rfl:=oi hm;exact hr
  ·rintro o28 rfl;replace hm:_=some r:=hm;refine s_vv [] 1 [0] [(2,vo 0 0 1 o28.length)] ?_;obtain rfl:=oi hm;exact q_rt q_rm
end Saw
end Go.SL

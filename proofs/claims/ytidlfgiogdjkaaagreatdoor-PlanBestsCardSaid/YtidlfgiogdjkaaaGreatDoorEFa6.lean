import Derived.Test.YtidlfgiogdjkaaaGreatDoorEBase
import Derived.Test.YtidlfgiogdjkaaaGreatDoorEFa5
import Derived.Test.YtidlfgiogdjkaaaGreatDoorEFa2
import Derived.Test.YtidlfgiogdjkaaaGreatDoorEFa4
import Derived.Test.YtidlfgiogdjkaaaGreatDoorEFa1
import Derived.Test.YtidlfgiogdjkaaaGreatDoorYa6
import Derived.Ground.NamesProg
set_option linter.unusedVariables false
set_option linter.unusedSimpArgs false
namespace Go.SL
namespace Saw
open Go.Proofs Go.Proofs.Tryz
set_option maxHeartbeats 4000000
set_option maxRecDepth 100000
def TR (r:(List Node)×Int):V:= .tup [.one (.own 0 0 2 r.1.length),.one (ci r.2)]
def JR (r:(List Node)×Int):List (Nat×(Nat×O)):=[(0,ro 0 65 2 r.1.length (rf qE r.1))]
theorem qDE (r:(List Node)×Int):jS (JR r):=by
 intro i k o h;unfold JR at h;rw[look_cons] at h;split at h
 ·cases h;exact λ_ _=>rfl
 ·cases h
def VC (a2:Int) (a3:Int) (a4:List Span) (a5:List (List Node)) (v17:Span) (x21:Int):St:=
 ⟨[(1,vi a2),(2,vi a3),(4,vc (tl (qM qE) du a5)),(12,vp 1 0),(13,vp 2 0),(14,vc (.fn 154 [.bptr 2 0 0,.bptr 1 0 0])),(15,vp 3 0),(18,vi x21),(45,vc (tl qG du a4)),(46,vi (a4.length:Int)),(47,vi x21)],[(3,bx 31 (qG v17))]⟩
def qFr (a2:Int) (a3:Int) (a4:List Span) (a5:List (List Node)) (v17:Span) (x21:Int) (x40:Int) (x41:Bool) (l42:List Node) (l42n:Nat) (x43:Int):St:=
 (VC a2 a3 a4 a5 v17 x21).up [] [(16,vi x40),(17,vb x41)] [] [(1,bx 44 [.own 4 0 2 l42n]),(2,bx 3 [ci x43]),(4,ro 0 65 2 l42n (rf qE l42))]
def qE2 (a2:Int) (a3:Int) (a4:List Span) (a5:List (List Node)) (v17:Span) (x19:Int) (x20:Bool) (x21:Int) (l35:List Node) (l35n:Nat) (x36:Int):St:=
 (VC a2 a3 a4 a5 v17 x21).up [] [(16,vi x19),(17,vb x20),(19,vp 5 0)] [] [(1,bx 44 [.own 4 0 2 l35n]),(2,bx 3 [ci x36]),(4,ro 0 65 2 l35n (rf qE l35)),(5,bx 31 (qG (a4.getD x21.toNat du)))]
def qN3 (a2:Int) (a3:Int) (a4:List Span) (a5:List (List Node)) (v17:Span) (x19:Int) (x20:Bool) (x21:Int) (l22:List Node) (x23:Int) (x29:Bool):St:=
 (VC a2 a3 a4 a5 v17 x21).up [] [(16,vi x19),(17,vb x20),(19,vp 5 0),(58,vb x29)] [] [(1,bx 44 [.own 4 0 2 l22.length]),(2,bx 3 [ci x23]),(4,ro 0 65 2 l22.length (rf qE l22)),(5,bx 31 (qG (a4.getD x21.toNat du)))]
def qAu (a2:Int) (a3:Int) (a4:List Span) (a5:List (List Node)) (v17:Span) (x19:Int) (x20:Bool) (x21:Int) (l22:List Node) (l22n:Nat) (x23:Int):St:=
 (VC a2 a3 a4 a5 v17 x21).up [18] [(16,vi x19),(17,vb x20)] [] [(1,bx 44 [.own 4 0 2 l22n]),(2,bx 3 [ci x23]),(4,ro 0 65 2 l22n (rf qE l22))]
def qFo (x47:Bool) (l48:List Node) (x49:Int):St:=
 ⟨[(12,vp 1 0),(13,vp 2 0),(14,vc (.fn 154 [.bptr 2 0 0,.bptr 1 0 0])),(17,vb x47)],[(1,bx 44 [.own 4 0 2 l48.length]),(2,bx 3 [ci x49]),(4,ro 0 65 2 l48.length (rf qE l48))]⟩
def qFf (x57:Int) (l58:List Node) (l58n:Nat):St:=
 ⟨[(12,vp 1 0),(13,vp 2 0)],[(1,bx 44 [.own 4 0 2 l58n]),(2,bx 3 [ci x57]),(4,ro 0 65 2 l58n (rf qE l58))]⟩
def qNi (a1:Rect) (a2:Int) (a3:Int) (a4:List Span) (a5:List (List Node)) (x15:Bool):St:=
 ⟨[(1,vi a2),(2,vi a3),(3,vc (tl qG du a4)),(4,vc (tl (qM qE) du a5)),(5,vp 0 0),(38,vb x15)],[(0,bx 33 (qO a1))]⟩
def qNY (a1:Rect) (a2:Int) (a3:Int) (a4:List Span) (a5:List (List Node)) (x12:Bool):St:=
 ⟨[(1,vi a2),(2,vi a3),(3,vc (tl qG du a4)),(4,vc (tl (qM qE) du a5)),(5,vp 0 0),(32,vb x12)],[(0,bx 33 (qO a1))]⟩
theorem qMg (E:Env 0) (a2:Int) (a3:Int) (a4:List Span) (a5:List (List Node)) (v17:Span):∀(n:Nat) (x19:Int) (x20:Bool) (x21:Int) (l22:List Node) (l22n:Nat) (x23:Int) (res:((List Node)×Int)⊕(Bool×(List Node)×Int)),l22.length=l22n->jB a2 a3 a4 a5 v17 n x19 x20 x21 l22 x23=some res->HL (kx E 130 0) (nd f90 16372) (wN 0 (λo=>qFo o.1 o.2.1 o.2.2) (λv st=>RetQ Tryz.prog f90 (TR v) (JR v) .ret st) res) n (qAu a2 a3 a4 a5 v17 x19 x20 x21 l22 l22n x23):=by
 intro n
 induction n with
 |zero=>
  intro x19 x20 x21 l22 l22n x23 res hl0 hm;cases hm
 |succ n ih=>
  intro x19 x20 x21 l22 l22n x23 res hl0 hm;subst hl0;refine qT (s_va 5 [(48,vb (decide (x21<(a4.length:Int))))] ?_);refine q_sq (q_cq hm (λhm=>?_) (λhm=>?_))
  ·refine q_sk (q_sq ?_);refine q_bk 1 ?_;obtain⟨g25,hm⟩:=qI hm;refine s_vu [qi 1 g25] 5 [48] [(18,vi x21),(19,vp 5 0)] [] [(5,bx 31 (qG (a4.getD x21.toNat du)))] (q_sq ?_);refine q_bk 2 (s_va 6 [(52,vb (decide (((a4.getD x21.toNat du).A)≥((a4.getD x21.toNat du).B))))] ?_);refine q_cq hm (λhm=>?_) (λhm=>?_)
   ·refine s_vn [] 6 ⟨[(10,vc (.emp)),(11,vi 19)],[]⟩ (q_fo 10 6 65 2 qE ?_);refine q_fl 10 6 65 2 qE ?_;obtain rfl:=oi hm;refine q_sw 6 0 (q_rt ?_);exact zG (([]:List Node),19) q_rm
   ·refine q_jn (qN3 a2 a3 a4 a5 v17 x19 x20 x21 l22 x23) (λp=>DR a2 a3 a4 a5 v17 x19 x20 x21 l22 x23 (jB a2 a3 a4 a5 v17 n) p=some res) ?_ ?_
    ·rintro x29 hm;refine q_cq hm (λhm=>?_) (λhm=>?_)
     ·refine s_vn [] 6 ⟨[(10,vc (.emp)),(11,vi 11)],[]⟩ (q_fo 10 6 65 2 qE ?_);refine q_fl 10 6 65 2 qE ?_;obtain rfl:=oi hm;refine q_sw 6 0 (q_rt ?_);exact zG (([]:List Node),11) q_rm
     ·refine s_vv [] 6 [58] [(75,vb (decide (((a4.getD x21.toNat du).B)>v17.B)))] (q_cq hm (λhm=>?_) (λhm=>?_))
      ·refine s_vn [] 6 ⟨[(10,vc (.emp)),(11,vi 20)],[]⟩ (q_fo 10 6 65 2 qE ?_);refine q_fl 10 6 65 2 qE ?_;obtain rfl:=oi hm;refine q_sw 6 0 (q_rt ?_);exact zG (([]:List Node),20) q_rm
      ·refine q_sk (q_jn (ι:=(List Node)×Nat×Int) (λp=>qE2 a2 a3 a4 a5 v17 x19 x20 x21 p.1 p.2.1 p.2.2) (λp=>p.1.length=p.2.1/\BH a2 a3 a4 a5 v17 x19 x20 x21 (jB a2 a3 a4 a5 v17 n) p.1 p.2.2=some res) ?_ ?_)
       ·rintro⟨l35,l35n,x36⟩ ⟨el35,hm⟩;replace el35:l35.length=l35n:=el35;subst el35;show H _ (qE2 a2 a3 a4 a5 v17 x19 x20 x21 l35 l35.length x36) _ _;refine q_jn (ι:=Int×Bool×(List Node)×Nat×Int) (λp=>qFr a2 a3 a4 a5 v17 x21 p.1 p.2.1 p.2.2.1 p.2.2.2.1 p.2.2.2.2) (λp=>p.2.2.1.length=p.2.2.2.1/\SW a5 x21 (jB a2 a3 a4 a5 v17 n) p.1 p.2.1 p.2.2.1 p.2.2.2.2=some res) ?_ ?_
        ·rintro⟨x40,x41,l42,l42n,x43⟩ ⟨el42,hm⟩;replace el42:l42.length=l42n:=el42;subst el42;show H _ (qFr a2 a3 a4 a5 v17 x21 x40 x41 l42 l42.length x43) _ _;obtain⟨g44,hm⟩:=qI hm;obtain⟨v45,h46,hm⟩:=qB hm
         refine q_vu [qi 3 g44,qd 5 (dex (cen [(2,0),(1,0),(4,0)] [0,0,1] 5 2 (XN (a5.getD x21.toNat du) x43 l42 v45) (yY (a5.getD x21.toNat du) x43 l42 v45) [114,118] [2,1,4])) (wU (K:=(kx E 130 0)) ⟨[(114,vc (.fn 154 [.bptr 2 0 0,.bptr 1 0 0])),(118,vc (tl qE du (a5.getD x21.toNat du)))],[(2,bx 3 [ci x43]),(1,bx 44 [.own 4 0 2 l42.length]),(4,ro 0 65 2 l42.length (rf qE l42))]⟩ (opAt (rg f90 4191439) 5) [(2,0),(1,0),(4,0)] [0,0,1] 5 o0 rfl (TF (a5.getD x21.toNat du) x43 l42 v45 h46) (.inl rfl) (by kernel_rfl))] 8 [18] [] [1,2,4] [(1,bx 44 [.own 4 1 2 v45.2.length]),(2,bx 3 [ci v45.1]),(4,ro 1 65 2 v45.2.length (rf qE v45.2))] (q_vv [] 8 [47] [(47,vi (w64 (x21+1)))] ?_)
         exact q_hl (qAu a2 a3 a4 a5 v17 x40 x41 (w64 (x21+1)) v45.2 v45.2.length v45.1) (ih x40 x41 (w64 (x21+1)) v45.2 v45.2.length v45.1 _ rfl hm)
        ·refine s_va 7 [(99,vb (decide (((a4.getD x21.toNat du).B)<v17.B)))] (q_cq hm (λhm=>?_) (λhm=>?_))
         ·obtain⟨v38,h39,hm⟩:=qB hm
          refine s_vu [qd 5 (drw 7 0 (rf qE [(Node.mk a2 ((a4.getD x21.toNat du).B))])) (litP qE du 2 (λ_=>rfl) ([(Node.mk a2 ((a4.getD x21.toNat du).B))]:List Node) 1 rfl),qd 6 (dex (cen [(2,0),(1,0),(4,0)] [0,0,1] 5 2 (XN ([(Node.mk a2 ((a4.getD x21.toNat du).B))]:List Node) x36 l35 v38) (yY ([(Node.mk a2 ((a4.getD x21.toNat du).B))]:List Node) x36 l35 v38) [100,105] [2,1,4,7])) (wU (K:=(kx E 130 0)) (xs':=[.one (.lst 1 (rf qE [(Node.mk a2 ((a4.getD x21.toNat du).B))])),.one (.bptr 0 0 0),.one (.bptr 1 0 0)]) (b:=false) ⟨[(100,vc (.fn 154 [.bptr 2 0 0,.bptr 1 0 0])),(105,vo 7 0 2 1)],[(2,bx 3 [ci x36]),(1,bx 44 [.own 4 0 2 l35.length]),(4,ro 0 65 2 l35.length (rf qE l35)),(7,ro 0 65 2 1 (rf qE [(Node.mk a2 ((a4.getD x21.toNat du).B))]))]⟩ (opAt (rg f90 33531508) 6) [(2,0),(1,0),(4,0)] [0,0,1] 5 (o1 (ki 1)) (by simp only[tl,rf,show([(Node.mk a2 ((a4.getD x21.toNat du).B))]:List Node).length=1 from rfl]) (TF ([(Node.mk a2 ((a4.getD x21.toNat du).B))]:List Node) x36 l35 v38 h39) (.inr ⟨(by kernel_rfl),HO ([(Node.mk a2 ((a4.getD x21.toNat du).B))]:List Node) x36 l35 v38⟩) (by kernel_rfl))] 7 [16,99] [] [1,2,4] [(1,bx 44 [.own 4 1 2 v38.2.length]),(2,bx 3 [ci v38.1]),(4,ro 1 65 2 v38.2.length (rf qE v38.2))] ?_
          exact q_vu [] 8 [19] [(16,vi (imin (w64 (((a4.getD x21.toNat du).B)+a3)) v17.B))] [5] [] (q_J (imin (w64 (((a4.getD x21.toNat du).B)+a3)) v17.B,x20,v38.2,v38.2.length,v38.1) ⟨rfl,hm⟩)
         ·exact q_vu [] 7 [17,19,99] [(17,vb true)] [5] [] (q_J (x19,true,l35,l35.length,x36) ⟨rfl,hm⟩)
       ·refine s_vv [] 6 [75] [(84,vb (decide (((a4.getD x21.toNat du).A)>x19)))] (q_cq hm (λhm=>?_) (λhm=>?_))
        ·obtain⟨v33,h34,hm⟩:=qB hm
         refine q_vu [qd 8 (drw 6 0 (rf qE [(Node.mk a2 (w64 (((a4.getD x21.toNat du).A)-a3))),(Node.mk 0 0)])) (litP qE du 2 (λ_=>rfl) ([(Node.mk a2 (w64 (((a4.getD x21.toNat du).A)-a3))),(Node.mk 0 0)]:List Node) 2 rfl),qd 9 (dex (cen [(2,0),(1,0),(4,0)] [0,0,1] 4 2 (XN ([(Node.mk a2 (w64 (((a4.getD x21.toNat du).A)-a3))),(Node.mk 0 0)]:List Node) x23 l22 v33) (yY ([(Node.mk a2 (w64 (((a4.getD x21.toNat du).A)-a3))),(Node.mk 0 0)]:List Node) x23 l22 v33) [85,93] [2,1,4,6])) (wU (K:=(kx E 130 0)) (xs':=[.one (.lst 2 (rf qE [(Node.mk a2 (w64 (((a4.getD x21.toNat du).A)-a3))),(Node.mk 0 0)])),.one (.bptr 0 0 0),.one (.bptr 1 0 0)]) (b:=false) ⟨[(85,vc (.fn 154 [.bptr 2 0 0,.bptr 1 0 0])),(93,vo 6 0 2 2)],[(2,bx 3 [ci x23]),(1,bx 44 [.own 4 0 2 l22.length]),(4,ro 0 65 2 l22.length (rf qE l22)),(6,ro 0 65 2 2 (rf qE [(Node.mk a2 (w64 (((a4.getD x21.toNat du).A)-a3))),(Node.mk 0 0)]))]⟩ (opAt (rg f90 8382874) 9) [(2,0),(1,0),(4,0)] [0,0,1] 4 (o1 (ki 2)) (by simp only[tl,rf,show([(Node.mk a2 (w64 (((a4.getD x21.toNat du).A)-a3))),(Node.mk 0 0)]:List Node).length=2 from rfl]) (TF ([(Node.mk a2 (w64 (((a4.getD x21.toNat du).A)-a3))),(Node.mk 0 0)]:List Node) x23 l22 v33 h34) (.inr ⟨(by kernel_rfl),HO ([(Node.mk a2 (w64 (((a4.getD x21.toNat du).A)-a3))),(Node.mk 0 0)]:List Node) x23 l22 v33⟩) (by kernel_rfl))] 6 [84] [] [1,2,4] [(1,bx 44 [.own 4 1 2 v33.2.length]),(2,bx 3 [ci v33.1]),(4,ro 1 65 2 v33.2.length (rf qE v33.2))] ?_
         exact q_J (v33.2,v33.2.length,v33.1) ⟨rfl,hm⟩
        ·exact q_sk (q_J (l22,l22.length,x23) ⟨rfl,hm⟩)
    ·rcases bif_c hm with⟨b27,hm⟩|⟨b27,hm⟩
     ·exact q_vv [qf 1 b27] 6 [52] [(58,vb true)] (q_J (true) hm)
     ·rcases bif_c hm with⟨b28,hm⟩|⟨b28,hm⟩
      ·exact q_vv [qf 1 b27,qf 6 b28] 6 [52] [(58,vb (decide (((a4.getD x21.toNat du).A)<(w64 ((w64 (x19+a3))+1)))))] (q_J (decide (((a4.getD x21.toNat du).A)<(w64 ((w64 (x19+a3))+1)))) hm)
      ·exact q_vv [qf 1 b27,qf 6 b28] 6 [52] [(58,vb false)] (q_J (false) hm)
  ·refine q_ex 0 ?_;obtain rfl:=oi hm;exact L1_mk (x20,l22,x23) (by kernel_rfl) (by kernel_rfl)
theorem qCz (a1:Rect) (a2:Int) (a3:Int) (a4:List Span) (a5:List (List Node)) (r:(List Node)×Int) (hm:XC a1 a2 a3 a4 a5=some r):CtX Tryz.prog globs 90 0 0 [.agg (qO a1),.one (ci a2),.one (ci a3),.one (tl qG du a4),.one (tl (qM qE) du a5)] [] (TR r) (JR r):=by
 unfold XC at hm;refine q_E f90 130 λE=>?_;refine s_vn [] 0 ⟨[(1,vi a2),(2,vi a3),(3,vc (tl qG du a4)),(4,vc (tl (qM qE) du a5)),(5,vp 0 0)],[(0,bx 33 (qO a1))]⟩ (q_sq ?_);obtain⟨v6,h7,hm⟩:=qB hm;refine s_vv [qc 1 [20] 1 (qOh a2 v6 h7)] 1 [] [(22,vb (!v6))] (q_cq hm (λhm=>?_) (λhm=>?_))
 ·refine s_vn [] 1 ⟨[(10,vc (.emp)),(11,vi 10)],[]⟩ (q_fo 10 1 65 2 qE ?_);refine q_fl 10 1 65 2 qE ?_;obtain rfl:=oi hm;exact q_sw 1 0 (q_rt q_rm)
 ·refine q_sk (q_sq ?_);refine q_jn (qNY a1 a2 a3 a4 a5) (λp=>EE a1 a2 a3 a4 a5 p=some r) ?_ ?_
  ·rintro x12 hm;refine q_cq hm (λhm=>?_) (λhm=>?_)
   ·refine s_vn [] 1 ⟨[(10,vc (.emp)),(11,vi 19)],[]⟩ (q_fo 10 1 65 2 qE ?_);refine q_fl 10 1 65 2 qE ?_;obtain rfl:=oi hm;exact q_sw 1 0 (q_rt q_rm)
   ·refine q_sk (q_sq ?_);refine q_jn (qNi a1 a2 a3 a4 a5) (λp=>EZ a1 a2 a3 a4 a5 p=some r) ?_ ?_
    ·rintro x15 hm;refine q_cq hm (λhm=>?_) (λhm=>?_)
     ·refine s_vn [] 1 ⟨[(10,vc (.emp)),(11,vi 9)],[]⟩ (q_fo 10 1 65 2 qE ?_);refine q_fl 10 1 65 2 qE ?_;obtain rfl:=oi hm;exact q_sw 1 0 (q_rt q_rm)
     ·refine q_sk (s_vu [] 1 [38] [(12,vp 1 0)] [] [(1,bx 44 [.emp])] ?_);refine s_vu [] 2 [] [(13,vp 2 0)] [] [(2,bx 3 [ci 0])] (s_va 3 [(14,vc (.fn 154 [.bptr 2 0 0,.bptr 1 0 0]))] ?_);obtain⟨v17,h18,hm⟩:=qB hm;refine s_vu [qc 2 [40,41] 3 (qMX a1 a2 v17 h18)] 3 [5] [(15,vp 3 0)] [0] [(3,bx 31 (qG v17))] (s_va 4 [(16,vi v17.A),(17,vb false)] ?_);refine q_sq (s_vv [] 4 [3] [(45,vc (tl qG du a4)),(46,vi (a4.length:Int)),(47,vi 0)] ?_);refine q_fu [.ownB 1 0 4 65 2 (rf qE [])] [] [] [1] [(1,bx 44 [.own 4 0 2 0]),(4,ro 0 65 2 0 (rf qE []))] o0 ?_;obtain⟨u52,h51,hm⟩:=qB hm
      refine zT (nd f90 16372) 0 (by kernel_rfl) FUEL (λo=>qFo o.1 o.2.1 o.2.2) (λv st=>RetQ Tryz.prog f90 (TR v) (JR v) .ret st) u52 (q_hl (qAu a2 a3 a4 a5 v17 v17.A false 0 ([]:List Node) 0 0) (qMg E a2 a3 a4 a5 v17 FUEL v17.A false 0 ([]:List Node) 0 0 u52 rfl h51)) ?_ ?_
      ·rintro v53 rfl st hr;obtain rfl:=oi hm;exact hr
      ·rintro o50 rfl;replace hm:_=some r:=hm;refine q_jn (ι:=Int×(List Node)×Nat) (λp=>qFf p.1 p.2.1 p.2.2) (λp=>p.2.1.length=p.2.2/\DN p.1 p.2.1=some r) ?_ ?_
       ·rintro⟨x57,l58,l58n⟩ ⟨el58,hm⟩;replace el58:l58.length=l58n:=el58;subst el58;show H _ (qFf x57 l58 l58.length) _ _;refine q_sq (s_vu [] 6 [13] [(128,vb (decide (x57>127)))] [2] [] ?_);refine q_cq hm (λhm=>?_) (λhm=>?_)
        ·refine s_vn [] 6 ⟨[(10,vc (.emp)),(11,vi 4)],[]⟩ (q_fo 10 6 65 2 qE ?_);refine q_fl 10 6 65 2 qE ?_;obtain rfl:=oi hm;exact q_sw 6 0 (q_rt q_rm)
        ·refine q_sk (s_vu [] 6 [12,128] [(10,vo 4 0 2 l58.length),(11,vi 0)] [1] [] ?_);obtain rfl:=oi hm;exact q_sw 4 0 (q_rt q_rm)
       ·refine s_vv [] 5 [17] [(122,vb (!o50.1))] (q_cq hm (λhm=>?_) (λhm=>?_))
        ·obtain⟨v55,h56,hm⟩:=qB hm
         refine q_vu [qd 2 (drw 5 0 (rf qE [(Node.mk 0 0)])) (litP qE du 2 (λ_=>rfl) ([(Node.mk 0 0)]:List Node) 1 rfl),qd 3 (dex (cen [(2,0),(1,0),(4,0)] [0,0,1] 3 2 (XN ([(Node.mk 0 0)]:List Node) o50.2.2 o50.2.1 v55) (yY ([(Node.mk 0 0)]:List Node) o50.2.2 o50.2.1 v55) [123,125] [2,1,4,5])) (wU (K:=(kx E 130 0)) (xs':=[.one (.lst 1 (rf qE [(Node.mk 0 0)])),.one (.bptr 0 0 0),.one (.bptr 1 0 0)]) (b:=false) ⟨[(123,vc (.fn 154 [.bptr 2 0 0,.bptr 1 0 0])),(125,vo 5 0 2 1)],[(2,bx 3 [ci o50.2.2]),(1,bx 44 [.own 4 0 2 o50.2.1.length]),(4,ro 0 65 2 o50.2.1.length (rf qE o50.2.1)),(5,ro 0 65 2 1 (rf qE [(Node.mk 0 0)]))]⟩ (opAt (rg f90 16378) 3) [(2,0),(1,0),(4,0)] [0,0,1] 3 (o1 (ki 1)) (by simp only[tl,rf,show([(Node.mk 0 0)]:List Node).length=1 from rfl]) (TF ([(Node.mk 0 0)]:List Node) o50.2.2 o50.2.1 v55 h56) (.inr ⟨(by kernel_rfl),HO ([(Node.mk 0 0)]:List Node) o50.2.2 o50.2.1 v55⟩) (by kernel_rfl))] 5 [14,122] [] [1,2,4] [(1,bx 44 [.own 4 1 2 v55.2.length]),(2,bx 3 [ci v55.1]),(4,ro 1 65 2 v55.2.length (rf qE v55.2))] ?_
         exact q_J (v55.1,v55.2,v55.2.length) ⟨rfl,hm⟩
        ·exact q_sk (q_J (o50.2.2,o50.2.1,o50.2.1.length) ⟨rfl,hm⟩)
    ·rcases bif_c hm with⟨b14,hm⟩|⟨b14,hm⟩
     ·exact q_vv [qf 2 b14] 1 [32] [(38,vb true)] (q_J (true) hm)
     ·exact q_vv [qf 2 b14] 1 [32] [(38,vb (decide (a3>20)))] (q_J (decide (a3>20)) hm)
  ·obtain⟨v9,h10,hm⟩:=qB hm;rcases bif_c hm with⟨b11,hm⟩|⟨b11,hm⟩
   ·exact q_vv [qc 1 [23] 1 (qDw a1 v9 h10),qf 3 b11] 1 [22] [(32,vb true)] (q_J (true) hm)
   ·exact q_vv [qc 1 [23] 1 (qDw a1 v9 h10),qf 3 b11] 1 [22] [(32,vb ((a4.length:Int) !=(a5.length:Int)))] (q_J ((a4.length:Int) !=(a5.length:Int)) hm)
def qXy (r:(List Node)×Int×Int):V:= .tup [.one (.own 0 0 2 r.1.length),.one (ci r.2.1),.one (ci r.2.2)]
def qXn (r:(List Node)×Int×Int):List (Nat×(Nat×O)):=[(0,ro 0 65 2 r.1.length (rf qE r.1))]
def qCe (a4:Rect) (a5:Saw) (v10:(List qX)×Int×Int) (v13:(List Int)×(List Int)) (l15:List Span) (l15n:Nat) (l16:List (List Node)) (l16n:Nat) (x17:Int):St:=
 ⟨[(9,vp 0 0),(10,vp 1 0),(18,vi v10.2.1),(19,vo 9 0 1 v13.1.length),(20,vo 10 0 1 v13.2.length),(21,vo 11 0 2 l15n),(22,vo 12 0 1 l16n),(60,vo 8 0 2 v10.1.length),(61,vi (v10.1.length:Int)),(62,vi x17)],[(0,bx 33 (qO a4)),(1,bx 38 (zW a5)),(8,ro 0 92 2 v10.1.length (rf zY v10.1)),(9,ro 0 3 1 v13.1.length (rf qA v13.1)),(10,ro 0 3 1 v13.2.length (rf qA v13.2)),(11,ro 0 31 2 l15n (rf qG l15)),(12,ro 0 44 1 l16n (rf (qM qE) l16))]⟩
def qHI (a4:Rect) (a5:Saw) (v10:(List qX)×Int×Int) (l27:List Span) (l28:List (List Node)):St:=
 ⟨[(9,vp 0 0),(10,vp 1 0),(18,vi v10.2.1),(21,vo 11 0 2 l27.length),(22,vo 12 0 1 l28.length)],[(0,bx 33 (qO a4)),(1,bx 38 (zW a5)),(11,ro 0 31 2 l27.length (rf qG l27)),(12,ro 0 44 1 l28.length (rf (qM qE) l28))]⟩
theorem qPp (E:Env 0) (a4:Rect) (a5:Saw) (v10:(List qX)×Int×Int) (v13:(List Int)×(List Int)):∀(n:Nat) (l15:List Span) (l15n:Nat) (l16:List (List Node)) (l16n:Nat) (x17:Int) (res:(List Span)×(List (List Node))),l15.length=l15n->l16.length=l16n->DJ a4 v10 v13 n l15 l16 x17=some res->HL (kx E 106 0) (nd f148 8180) (zL 0 (λo=>qHI a4 a5 v10 o.1 o.2) res) n (qCe a4 a5 v10 v13 l15 l15n l16 l16n x17):=by
 intro n
 induction n with
 |zero=>
  intro l15 l15n l16 l16n x17 res hl0 hl1 hm;cases hm
 |succ n ih=>
  intro l15 l15n l16 l16n x17 res hl0 hl1 hm;subst hl0;subst hl1;refine qT (s_va 13 [(63,vb (decide (x17<(v10.1.length:Int))))] ?_);refine q_sq (q_cq hm (λhm=>?_) (λhm=>?_))
  ·refine q_sk (q_sq ?_);refine q_bk 1 ?_;obtain⟨g19,hm⟩:=qI hm;refine s_vu [qi 0 g19,qd 1 dN (qV (zC g19))] 13 [63] [(24,vp 13 0)] [] [(13,bx 92 (zY (v10.1.getD x17.toNat du)))] ?_;obtain⟨g20,hm⟩:=qI hm;obtain⟨v21,h22,hm⟩:=qB hm;obtain⟨g23,hm⟩:=qI hm
   refine s_du [qi 9 g20,qd 10 dN (qV (zC g20)),qc 12 [67,69,77] 14 (qE1 a4 ((v10.1.getD x17.toNat du).At) (w64 (((v10.1.getD x17.toNat du).At)+(v13.1.getD (((v10.1.getD x17.toNat du).Size).toNat) du))) v21 h22),qd 14 (drw 14 0 (rf qG [v21.X])) (litP qG du 2 (λ_=>rfl) ([v21.X]:List Span) 1 rfl),qd 15 (drw 11 1 (rf qG (l15++[v21.X]))) (apP qG du l15 ([v21.X]:List Span) l15.length 1 2 16 (1<=1) (ki _) rfl rfl (λ_=>rfl) (zI g23))] [0,0,0,4,0,16,0,0,128,448,960,2032,4094,8190,16382,32767,65535] 14 [21] [(21,vo 11 1 2 (l15.length+1))] [11] [(11,ro 1 31 2 (l15.length+1) (rf qG (l15++[v21.X])))] ?_
   obtain⟨g24,hm⟩:=qI hm;obtain⟨v25,h26,hm⟩:=qB hm
   refine q_vu [qi 4 g24,qd 5 dN (qV (zC g24)),qd 7 (drw 15 0 (rf qE [(Node.mk 1 (v13.2.getD (((v10.1.getD x17.toNat du).Size).toNat) du))])) (litP qE du 2 (λ_=>rfl) ([(Node.mk 1 (v13.2.getD (((v10.1.getD x17.toNat du).Size).toNat) du))]:List Node) 1 rfl),qd 8 (dpr [.len 15 (([(Node.mk 1 (v13.2.getD (((v10.1.getD x17.toNat du).Size).toNat) du))]:List Node).length)] (dex (cen [(12,0),(15,0)] [1,1] 14 0 (qEk l16 ([(Node.mk 1 (v13.2.getD (((v10.1.getD x17.toNat du).Size).toNat) du))]:List Node) v25) (qEa l16 ([(Node.mk 1 (v13.2.getD (((v10.1.getD x17.toNat du).Size).toNat) du))]:List Node) v25) [82,89] [12,15]))) (And.intro (show 1=([(Node.mk 1 (v13.2.getD (((v10.1.getD x17.toNat du).Size).toNat) du))]:List Node).length from rfl) (show 1=([(Node.mk 1 (v13.2.getD (((v10.1.getD x17.toNat du).Size).toNat) du))]:List Node).length from rfl)),qd 8 dN (wU (K:=(kx E 106 0)) ⟨[(82,vo 12 0 1 l16.length),(89,vo 15 0 2 (([(Node.mk 1 (v13.2.getD (((v10.1.getD x17.toNat du).Size).toNat) du))]:List Node).length))],[(12,ro 0 44 1 l16.length (rf (qM qE) l16)),(15,ro 0 65 2 (([(Node.mk 1 (v13.2.getD (((v10.1.getD x17.toNat du).Size).toNat) du))]:List Node).length) (rf qE [(Node.mk 1 (v13.2.getD (((v10.1.getD x17.toNat du).Size).toNat) du))]))]⟩ (opAt (rg f148 523571) 8) [(12,0),(15,0)] [1,1] 14 o0 rfl (qKN l16 ([(Node.mk 1 (v13.2.getD (((v10.1.getD x17.toNat du).Size).toNat) du))]:List Node) v25 h26) (.inl rfl) (by kernel_rfl))] 15 [22,24] [(22,vo 12 1 1 v25.2.length)] [12,13] [(12,ro 1 44 1 v25.2.length (rf (qM qE) v25.2))] ?_
   exact q_vv [] 16 [62] [(62,vi (w64 (x17+1)))] (q_hl (qCe a4 a5 v10 v13 (l15++[v21.X]) (l15.length+1) v25.2 v25.2.length (w64 (x17+1))) (ih (l15++[v21.X]) (l15.length+1) v25.2 v25.2.length (w64 (x17+1)) _ (zE rfl rfl) rfl hm))
  ·refine q_ex 0 ?_;obtain rfl:=oi hm;exact q_l0
theorem qWg (a1:List qC) (a2:List qF) (a3:List Product) (a4:Rect) (a5:Saw) (a6:Rates) (r:(List Node)×Int×Int) (hm:qDy a1 a2 a3 a4 a5 a6=some r):CtX Tryz.prog globs 148 0 0 [.one (tl qL du a1),.one (tl qP du a2),.one (tl qH du a3),.agg (qO a4),.agg (zW a5),.agg (zN a6)] [] (qXy r) (qXn r):=by
 unfold qDy at hm;refine q_E f148 106 λE=>?_;refine s_vn [] 0 ⟨[(0,vc (tl qL du a1)),(1,vc (tl qP du a2)),(2,vc (tl qH du a3)),(9,vp 0 0),(10,vp 1 0),(11,vp 2 0)],[(0,bx 33 (qO a4)),(1,bx 38 (zW a5)),(2,bx 40 (zN a6))]⟩ ?_;obtain⟨v7,h8,hm⟩:=qB hm
 refine s_vu [qc 6 [27,28,29,30,31,32] 3 (qWq a1 a2 a3 a4 a5 a6 v7 h8)] 3 [0,1,11] [(15,vp 7 0),(16,vi v7.2)] [2] [(3,ro 0 3 1 v7.1.Sizes.length (rf qA v7.1.Sizes)),(4,ro 0 28 1 v7.1.Gain.length (rf (qM qA) v7.1.Gain)),(5,ro 0 3 1 v7.1.Chip.length (rf qA v7.1.Chip)),(6,ro 0 3 1 v7.1.Dust.length (rf qA v7.1.Dust)),(7,bx 84 [ci v7.1.Len,ci v7.1.Kerf,ci v7.1.Pitch,.own 3 0 1 v7.1.Sizes.length,.own 4 0 1 v7.1.Gain.length,.own 5 0 1 v7.1.Chip.length,.own 6 0 1 v7.1.Dust.length])] (q_sq ?_);refine s_va 8 [(37,vb (v7.2 !=0))] (q_cq hm (λhm=>?_) (λhm=>?_))
 ·refine s_vn [] 8 ⟨[(12,vc (.emp)),(13,vi 0),(14,vi v7.2)],[]⟩ (q_fo 12 8 65 2 qE ?_);refine q_fl 12 8 65 2 qE ?_;obtain rfl:=oi hm;exact q_sw 8 0 (q_rt q_rm)
 ·refine q_sk ?_;obtain⟨v10,h11,hm⟩:=qB hm
  refine s_vu [qd 1 (dex (cen [] [] 8 0 (qB6 v10) (BE v10) [40] [3,4,5,6])) (wU (K:=(kx E 106 0)) (b:=false) ⟨[(40,va [ci v7.1.Len,ci v7.1.Kerf,ci v7.1.Pitch,.own 3 0 1 v7.1.Sizes.length,.own 4 0 1 v7.1.Gain.length,.own 5 0 1 v7.1.Chip.length,.own 6 0 1 v7.1.Dust.length])],[(3,ro 0 3 1 v7.1.Sizes.length (rf qA v7.1.Sizes)),(4,ro 0 28 1 v7.1.Gain.length (rf (qM qA) v7.1.Gain)),(5,ro 0 3 1 v7.1.Chip.length (rf qA v7.1.Chip)),(6,ro 0 3 1 v7.1.Dust.length (rf qA v7.1.Dust))]⟩ (opAt (rg f148 30) 1) [] [] 8 (o1 (And.intro (ki v7.1.Sizes.length) (And.intro (ki v7.1.Gain.length) (And.intro (ki v7.1.Chip.length) (ki v7.1.Dust.length))))) rfl (qGV (Line.mk v7.1.Len v7.1.Kerf v7.1.Pitch v7.1.Sizes v7.1.Gain v7.1.Chip v7.1.Dust) v10 h11) (.inr ⟨(by kernel_rfl),qIe v10⟩) (by kernel_rfl))] 8 [15,16,37] [(16,vi v10.2.2),(17,vo 8 0 2 v10.1.length),(18,vi v10.2.1)] [3,4,5,6,7] [(8,ro 0 92 2 v10.1.length (rf zY v10.1))] ?_
  refine q_sq (s_va 9 [(46,vb (v10.2.2 !=0))] ?_);refine q_cq hm (λhm=>?_) (λhm=>?_)
  ·refine s_vn [] 9 ⟨[(12,vc (.emp)),(13,vi 0),(14,vi v10.2.2)],[]⟩ (q_fo 12 9 65 2 qE ?_);refine q_fl 12 9 65 2 qE ?_;obtain rfl:=oi hm;exact q_sw 9 0 (q_rt q_rm)
  ·refine q_sk ?_;obtain⟨v13,h14,hm⟩:=qB hm;refine s_vu [qc 8 [49,56] 9 (qDA a3 (w64 (a4.Y.B-a4.Y.A)) v13 h14)] 9 [2,16,46] [(19,vo 9 0 1 v13.1.length),(20,vo 10 0 1 v13.2.length)] [] [(9,ro 0 3 1 v13.1.length (rf qA v13.1)),(10,ro 0 3 1 v13.2.length (rf qA v13.2))] (s_va 11 [(21,vc (.emp))] ?_);refine s_va 11 [(22,vc (.emp))] (q_sq ?_);refine s_vv [] 11 [17] [(60,vo 8 0 2 v10.1.length),(61,vi (v10.1.length:Int)),(62,vi 0)] (q_fo 21 11 31 2 qG ?_);refine q_fo 22 12 44 1 (qM qE) ?_;obtain⟨o29,h30,hm⟩:=qB hm
   refine zF (nd f148 8180) 0 (by kernel_rfl) FUEL (λo=>qHI a4 a5 v10 o.1 o.2) o29 (q_hl (qCe a4 a5 v10 v13 ([]:List Span) 0 ([]:List (List Node)) 0 0) (qPp E a4 a5 v10 v13 FUEL ([]:List Span) 0 ([]:List (List Node)) 0 0 o29 rfl rfl h30)) ?_;obtain⟨v31,h32,hm⟩:=qB hm
   refine s_vn [qd 5 (dex (cen [] [] 13 0 (TR v31) (JR v31) [93,95,96,97] [11,12])) (wU (K:=(kx E 106 0)) (b:=false) ⟨[(93,va (qO a4)),(95,vi a5.Kerf),(96,vo 11 0 2 o29.1.length),(97,vo 12 0 1 o29.2.length)],[(11,ro 0 31 2 o29.1.length (rf qG o29.1)),(12,ro 0 44 1 o29.2.length (rf (qM qE) o29.2))]⟩ (opAt (rg f148 2046) 5) [] [] 13 (o1 (And.intro (ki o29.1.length) (ki o29.2.length))) rfl (qCz a4 2 a5.Kerf o29.1 o29.2 v31 h32) (.inr ⟨(by kernel_rfl),qDE v31⟩) (by kernel_rfl))] 13 ⟨[(16,vi v31.2),(18,vi v10.2.1),(25,vo 13 0 2 v31.1.length)],[(13,ro 0 65 2 v31.1.length (rf qE v31.1))]⟩ (q_sq ?_)
   refine s_va 14 [(102,vb (v31.2 !=0))] (q_cq hm (λhm=>?_) (λhm=>?_))
   ·refine s_vn [] 14 ⟨[(12,vc (.emp)),(13,vi 0),(14,vi v31.2)],[]⟩ (q_fo 12 14 65 2 qE ?_);refine q_fl 12 14 65 2 qE ?_;obtain rfl:=oi hm;exact q_sw 14 0 (q_rt q_rm)
   ·refine q_sk (s_vv [] 14 [16,18,25,102] [(12,vo 13 0 2 v31.1.length),(13,vi v10.2.1),(14,vi 0)] ?_);obtain rfl:=oi hm;exact q_sw 13 0 (q_rt q_rm)
def qLs (r:Bool):V:=vb r
def qMm (r:Bool):List (Nat×(Nat×O)):=[]
theorem qK4 (a1:Node) (r:Bool) (hm:MM a1=some r):CtX Tryz.prog globs 190 0 0 [.agg (qE a1)] [] (qLs r) (qMm r):=by
 unfold MM at hm;refine q_E f190 6 λE=>?_;refine s_vn [] 0 ⟨[(1,vp 0 0)],[(0,bx 65 (qE a1))]⟩ (s_vn [] 1 ⟨[(2,vb (a1.Kind==1))],[]⟩ ?_);obtain rfl:=oi hm;exact q_rt q_rm
open Go.Proofs Go.Proofs.Tryz
def RW (r:Int):V:=vi r
def RN (r:Int):List (Nat×(Nat×O)):=[]
def XR (a1:List Node) (x2:Int):St:=
 ⟨[(0,vc (tl qE du a1)),(1,vc (.fn 190 [])),(7,vi (a1.length:Int)),(8,vi x2)],[]⟩
def BN :St:=
 ⟨[],[]⟩
theorem qCJ (E:Env 0) (a1:List Node):∀(n:Nat) (x2:Int) (res:Int⊕Unit),jO a1 n x2=some res->HL (kx E 19 0) (nd f212 52) (wN 0 (λo=>BN) (λv st=>RetQ Tryz.prog f212 (RW v) (RN v) .ret st) res) n (XR a1 x2):=by
 intro n
 induction n with
 |zero=>
  intro x2 res hm;cases hm
 |succ n ih=>
  intro x2 res hm;refine qT (s_va 0 [(9,vb (decide (x2<(a1.length:Int))))] ?_);refine q_sq (q_cq hm (λhm=>?_) (λhm=>?_))
  ·refine q_sk (q_sq ?_);refine q_bk 1 (s_vv [] 0 [9] [(5,vi x2)] ?_);obtain⟨g4,hm⟩:=qI hm;obtain⟨v5,h6,hm⟩:=qB hm;refine s_vv [qi 3 g4,qk 5 [11,15] 0 ⟨[(11,vc (.fn 190 [])),(15,va [ci ((a1.getD x2.toNat du).Kind),ci ((a1.getD x2.toNat du).At)])],[]⟩ (qK4 (a1.getD x2.toNat du) v5 h6)] 0 [] [(16,vb v5)] (q_cq hm (λhm=>?_) (λhm=>?_))
   ·refine s_vn [] 0 ⟨[(4,vi x2)],[]⟩ ?_;obtain rfl:=oi hm;refine q_rt (zG x2 ?_);exact q_rm
   ·refine q_sk (q_vv [] 0 [5,8,16] [(8,vi (w64 (x2+1)))] ?_);exact q_hl (XR a1 (w64 (x2+1))) (ih (w64 (x2+1)) _ hm)
  ·refine q_ex 0 ?_;obtain rfl:=oi hm;exact q_l1 ()
theorem qEu (a1:List Node) (r:Int) (hm:YY a1=some r):CtX Tryz.prog globs 212 0 0 [.one (tl qE du a1),.one (.fn 190 [])] [] (RW r) (RN r):=by
 unfold YY at hm;refine q_E f212 19 λE=>?_;refine s_vn [] 0 ⟨[(0,vc (tl qE du a1)),(1,vc (.fn 190 []))],[]⟩ (q_sq ?_);refine s_va 0 [(7,vi (a1.length:Int)),(8,vi 0)] ?_;obtain⟨u10,h9,hm⟩:=qB hm;refine zT (nd f212 52) 0 (by kernel_rfl) FUEL (λo=>BN) (λv st=>RetQ Tryz.prog f212 (RW v) (RN v) .ret st) u10 (q_hl (XR a1 0) (qCJ E a1 FUEL 0 u10 h9)) ?_ ?_
 ·rintro v11 rfl st hr;obtain rfl:=oi hm;exact hr
 ·rintro o8 rfl;replace hm:_=some r:=hm;refine s_vn [] 0 ⟨[(4,vi (-1))],[]⟩ ?_;obtain rfl:=oi hm;exact q_rt q_rm
def qDt (r:Bool):V:=vb r
def qDg (r:Bool):List (Nat×(Nat×O)):=[]
theorem qCG (a1:List Node) (r:Bool) (hm:WJ a1=some r):CtX Tryz.prog globs 189 0 0 [.one (tl qE du a1),.one (.fn 190 [])] [] (qDt r) (qDg r):=by
 unfold WJ at hm;refine q_E f189 9 λE=>?_;refine s_vn [] 0 ⟨[(0,vc (tl qE du a1)),(1,vc (.fn 190 []))],[]⟩ ?_;obtain⟨v2,h3,hm⟩:=qB hm;refine s_vn [qc 2 [5,6] 0 (qEu a1 v2 h3)] 0 ⟨[(4,vb (decide (v2≥0)))],[]⟩ ?_;obtain rfl:=oi hm;exact q_rt q_rm
def qGL (r:Bool):V:=vb r
def LW (r:Bool):List (Nat×(Nat×O)):=[]
theorem qO4 (r:Bool):jS (LW r):=by
 intro i k o h;unfold LW at h;cases h
theorem qNz (a1:List Node) (r:Bool) (hm:NY a1=some r):CtX Tryz.prog globs 149 0 0 [.one (tl qE du a1)] [] (qGL r) (LW r):=by
 unfold NY at hm;refine q_E f149 5 λE=>?_;refine s_vn [] 0 ⟨[(0,vc (tl qE du a1))],[]⟩ ?_;obtain⟨v2,h3,hm⟩:=qB hm;refine s_vn [qk 1 [3] 0 ⟨[(3,vc (tl qE du a1))],[]⟩ (qCG a1 v2 h3)] 0 ⟨[(2,vb v2)],[]⟩ ?_;obtain rfl:=oi hm;exact q_rt q_rm
open Go.Proofs Go.Proofs.Tryz
def qTH (r:Int):V:=vi r
def qTv (r:Int):List (Nat×(Nat×O)):=[]
theorem qHv (a1:List qC) (a2:Rect) (r:Int) (hm:FV a1 a2=some r):CtX Tryz.prog globs 91 0 0 [.one (tl qL du a1),.agg (qO a2)] [] (qTH r) (qTv r):=by
 unfold FV at hm;refine q_E f91 15 λE=>?_;refine s_vn [] 0 ⟨[(0,vc (tl qL du a1)),(3,vp 0 0)],[(0,bx 33 (qO a2))]⟩ ?_;obtain⟨v3,h4,hm⟩:=qB hm;obtain⟨v5,h6,hm⟩:=qB hm;refine s_dn [qc 6 [10] 1 (VI a1 v3 h4),qc 9 [5,13] 1 (qGo a1 (Box.mk a2.X a2.Y (Span.mk 0 v3)) v5 h6)] [0,0,2,0,8,0,32,96,254,511,1023] 1 ⟨[(4,vi v5)],[]⟩ ?_;obtain rfl:=oi hm;exact q_rt q_rm
open Go.Proofs
def qDc (a1:List Int) (r:List Int):V:= .undef
def qDp (a1:List Int) (r:List Int):List (Nat×(Nat×O)):=[(0,ro 0 3 1 r.length (rf qA r))]
theorem lfA {α:Type} {o:Option α} {a b:α} (h:o=some a) (e:a=b:=by kernel_rfl):o=some b:=h.trans (congrArg some e)
def slices_Sort_Si64_lay_ren :Go.Shelf.Ren:=⟨fun |189=>32|125=>78|257=>77|128=>140|129=>141|294=>131|295=>132|296=>133|297=>134|298=>135|299=>136|216=>137|300=>138|301=>139|328=>179|329=>180|330=>181|331=>182|332=>183|215=>184|343=>207|n=>n,fun |28=>28|3=>3|46=>142|0=>0|51=>201|53=>178|4=>4|183=>194|182=>193|131=>135|5=>5|9=>9|218=>234|222=>238|228=>252|229=>75|n=>n,fun n=>n⟩
theorem slices_Sort_Si64_lay : Go.Proofs.Lays.n189 Tryz.prog slices_Sort_Si64_lay_ren :={mixed:=by kernel_rfl,f125:=lfA Tryz.func78,f128:=lfA Tryz.func140,f129:=lfA Tryz.func141,f189:=lfA Tryz.func32,f215:=lfA Tryz.func184,f216:=lfA Tryz.func137,f257:=lfA Tryz.func77,f294:=lfA Tryz.func131,f295:=lfA Tryz.func132,f296:=lfA Tryz.func133,f297:=lfA Tryz.func134,f298:=lfA Tryz.func135,f299:=lfA Tryz.func136,f300:=lfA Tryz.func138,f301:=lfA Tryz.func139,f328:=lfA Tryz.func179,f329:=lfA Tryz.func180,f330:=lfA Tryz.func181,f331:=lfA Tryz.func182,f332:=lfA Tryz.func183,f343:=lfA Tryz.func207,t0:=Tryz.underlying0,a0:=Tryz.isAgg0,z0:=Tryz.sizeOf0,v0:=Tryz.zeroValue0,t3:=Tryz.underlying3,a3:=Tryz.isAgg3,z3:=Tryz.sizeOf3,v3:=Tryz.zeroValue3,t4:=Tryz.underlying4,a4:=Tryz.isAgg4,z4:=Tryz.sizeOf4,v4:=Tryz.zeroValue4,t5:=Tryz.underlying5,a5:=Tryz.isAgg5,z5:=Tryz.sizeOf5,v5:=Tryz.zeroValue5,t9:=Tryz.underlying9,a9:=Tryz.isAgg9,z9:=Tryz.sizeOf9,v9:=Tryz.zeroValue9,t28:=Tryz.underlying28,a28:=Tryz.isAgg28,z28:=Tryz.sizeOf28,v28:=Tryz.zeroValue28,t46:=Tryz.underlying142,a46:=Tryz.isAgg142,z46:=Tryz.sizeOf142,v46:=Tryz.zeroValue142,t51:=Tryz.underlying201,a51:=Tryz.isAgg201,z51:=Tryz.sizeOf201,v51:=Tryz.zeroValue201,t53:=Tryz.underlying178,a53:=Tryz.isAgg178,z53:=Tryz.sizeOf178,v53:=Tryz.zeroValue178,t131:=Tryz.underlying135,a131:=Tryz.isAgg135,z131:=Tryz.sizeOf135,v131:=Tryz.zeroValue135,t182:=Tryz.underlying193,a182:=Tryz.isAgg193,z182:=Tryz.sizeOf193,v182:=Tryz.zeroValue193,t183:=Tryz.underlying194,a183:=Tryz.isAgg194,z183:=Tryz.sizeOf194,v183:=Tryz.zeroValue194,t218:=Tryz.underlying234,a218:=Tryz.isAgg234,z218:=Tryz.sizeOf234,v218:=Tryz.zeroValue234,t222:=Tryz.underlying238,a222:=Tryz.isAgg238,z222:=Tryz.sizeOf238,v222:=Tryz.zeroValue238,t228:=Tryz.underlying252,a228:=Tryz.isAgg252,z228:=Tryz.sizeOf252,v228:=Tryz.zeroValue252,t229:=Tryz.underlying75,a229:=Tryz.isAgg75,z229:=Tryz.sizeOf75,v229:=Tryz.zeroValue75}
theorem qJB (a1:List Int) (r:List Int) (hm:ND a1=some r):CtX Tryz.prog globs 32 1 1 [.one (.own 0 0 1 a1.length)] [(0,ro 0 3 1 a1.length (rf qA a1))] (qDc a1 r) (qDp a1 r):=by
 unfold ND at hm;obtain⟨g1,hm⟩:=qI hm;obtain rfl:=oi hm;exact qZX (gl:=globs) slices_Sort_Si64_lay 3 a1 (by simpa using g1)
def KQ (a1:List Int) (r:(List Int)×(List Int)):V:=vo 0 0 1 r.2.length
def KC (a1:List Int) (r:(List Int)×(List Int)):List (Nat×(Nat×O)):=[(0,ro 0 3 1 r.2.length (rf qA r.2))]
def SJ (l3:List Int) (x4:Int) (x12:Int) (l19:List Int) (l19n:Nat) (x20:Int):St:=
 ⟨[(0,vo 0 0 1 l19n),(3,vi x20),(4,vc (.sub 0 0 1 x4.toNat (l3.length-x4.toNat))),(5,vi x12)],[(0,ro 0 3 1 l19n (rf qA l19))]⟩
def RZ (l3:List Int) (x4:Int) (l10:List Int) (l10n:Nat) (x11:Int) (x12:Int):St:=
 ⟨[(0,vo 0 0 1 l10n),(3,vi x11),(4,vc (.sub 0 0 1 x4.toNat (l3.length-x4.toNat))),(5,vi x12)],[(0,ro 0 3 1 l10n (rf qA l10))]⟩
def SK (l21:List Int) (x22:Int):St:=
 ⟨[(0,vo 0 0 1 l21.length),(3,vi x22)],[(0,ro 0 3 1 l21.length (rf qA l21))]⟩
def RO (l3:List Int) (l3n:Nat) (x4:Int):St:=
 ⟨[(0,vo 0 0 1 l3n),(3,vi x4)],[(0,ro 0 3 1 l3n (rf qA l3))]⟩
def HZ (l27:List Int):St:=
 ⟨[(0,vo 0 0 1 l27.length)],[(0,ro 0 3 1 l27.length (rf qA l27))]⟩
theorem qEA (E:Env 1) (l3:List Int) (x4:Int):∀(n:Nat) (l10:List Int) (l10n:Nat) (x11:Int) (x12:Int) (res:(List Int)×Int),l10.length=l10n->wY l3 x4 n l10 x11 x12=some res->HL (kx E 61 1) (nd f33 119380) (zL 2 (λo=>SK o.1 o.2) res) n (RZ l3 x4 l10 l10n x11 x12):=by
 intro n
 induction n with
 |zero=>
  intro l10 l10n x11 x12 res hl0 hm;cases hm
 |succ n ih=>
  intro l10 l10n x11 x12 res hl0 hm;subst hl0;refine qT (q_sq ?_);refine s_va 1 [(32,vb (decide (x12<(((l3.length-x4.toNat):Nat):Int))))] (q_cq hm (λhm=>?_) (λhm=>?_))
  ·refine q_sk (q_jn (ι:=(List Int)×Nat×Int) (λp=>SJ l3 x4 x12 p.1 p.2.1 p.2.2) (λp=>p.1.length=p.2.1/\XF x12 (wY l3 x4 n) p.1 p.2.2=some res) ?_ ?_)
   ·rintro⟨l19,l19n,x20⟩ ⟨el19,hm⟩;replace el19:l19.length=l19n:=el19;subst el19;show H _ (SJ l3 x4 x12 l19 l19.length x20) _ _;exact q_vv [] 1 [5] [(5,vi (w64 (x12+1)))] (q_hl (RZ l3 x4 l19 l19.length x20 (w64 (x12+1))) (ih l19 l19.length x20 (w64 (x12+1)) _ rfl hm))
   ·refine q_bk 3 ?_;obtain⟨g14,hm⟩:=qI hm;obtain⟨g15,hm⟩:=qI hm;obtain⟨g16,hm⟩:=qI hm;refine s_du [qi 2 g14,qd 3 dN (uD (Nat.add_lt_add_left (qV (zC g14)) x4.toNat) (kV g15)),qi 7 g16,qd 8 dN (uD (Nat.add_lt_add_left (qV (zC g16)) x4.toNat) (kV g15))] [0,0,3,7,0,0,32,112,240,511] 1 [32] [(44,vb ((l10.getD (x4.toNat+x12.toNat) du) !=(l10.getD (x4.toNat+((w64 (x12-1)).toNat)) du)))] [] [] (q_cq hm (λhm=>?_) (λhm=>?_))
    ·obtain⟨g18,hm⟩:=qI hm;refine s_vu [qi 4 g14,qd 5 dN (uD (Nat.add_lt_add_left (qV (zC g14)) x4.toNat) (kV g15)),qi 6 g18,qd 7 (drw 0 0 (rf qA (l10.set x11.toNat (l10.getD (x4.toNat+x12.toNat) du)))) (stP qA du (l10.getD (x4.toNat+x12.toNat) du) l10 l10.length x11.toNat 0 [ci (l10.getD (x4.toNat+x12.toNat) du)] rfl (qV (zC g18)) rfl)] 1 [44] [] [0] [(0,ro 0 3 1 l10.length (rf qA (l10.set x11.toNat (l10.getD (x4.toNat+x12.toNat) du))))] (q_vv [] 1 [3] [(3,vi (w64 (x11+1)))] ?_);exact q_J ((l10.set x11.toNat (l10.getD (x4.toNat+x12.toNat) du)),l10.length,w64 (x11+1)) ⟨(qEI rfl),hm⟩
    ·exact q_sk (q_J (l10,l10.length,x11) ⟨rfl,hm⟩)
  ·refine q_ex 2 ?_;obtain rfl:=oi hm;exact q_l0
theorem qED (E:Env 1) (a1:List Int):∀(n:Nat) (l3:List Int) (l3n:Nat) (x4:Int) (res:((List Int)×(List Int))⊕(List Int)),l3.length=l3n->yO n l3 x4=some res->HL (kx E 61 1) (nd f33 116) (wN 0 HZ (λv st=>RetQ Tryz.prog f33 (KQ a1 v) (KC a1 v) .ret st) res) n (RO l3 l3n x4):=by
 intro n
 induction n with
 |zero=>
  intro l3 l3n x4 res hl0 hm;cases hm
 |succ n ih=>
  intro l3 l3n x4 res hl0 hm;subst hl0;refine qT (q_sq ?_);refine s_va 1 [(13,vb (decide (x4<(l3.length:Int))))] (q_cq hm (λhm=>?_) (λhm=>?_))
  ·refine q_sk (q_sq ?_);refine q_bk 1 ?_;obtain⟨g6,hm⟩:=qI hm;obtain⟨g7,hm⟩:=qI hm;refine s_du [qi 2 g6,qd 3 dN (qV (zC g6)),qi 7 g7,qd 8 dN (qV (zC g7))] [0,0,3,7,0,0,32,112,240,511] 1 [13] [(25,vb ((l3.getD x4.toNat du)==(l3.getD ((w64 (x4-1)).toNat) du)))] [] [] (q_cq hm (λhm=>?_) (λhm=>?_))
   ·obtain⟨g9,hm⟩:=qI hm;refine s_vv [qd 2 dN (And.intro (ZY g9).1 (ZY g9).2.1)] 1 [25] [(4,vc (.sub 0 0 1 x4.toNat (l3.length-x4.toNat)))] (q_sq ?_);refine s_va 1 [(5,vi 1)] ?_;obtain⟨o23,h24,hm⟩:=qB hm;refine zF (nd f33 119380) 2 (by kernel_rfl) FUEL (λo=>SK o.1 o.2) o23 (q_hl (RZ l3 x4 l3 l3.length x4 1) (qEA E l3 x4 FUEL l3 l3.length x4 1 o23 rfl h24)) ?_;obtain⟨g25,hm⟩:=qI hm
    refine s_wu [qd 2 dN (And.intro (ZY g25).1 (ZY g25).2.1),qd 3 (drw 0 0 (rf qA o23.1)) (show o23.2.toNat+(o23.1.length-o23.2.toNat)<=o23.1.length by have:=(ZY g25);omega)] [.row 0 o23.2.toNat (rf qA (o23.1.take o23.2.toNat))] (o1 (tkP qA du o23.1 o23.2.toNat o23.2.toNat (ki _))) 1 [] [] [0] [(0,ro 0 3 1 o23.2.toNat (rf qA (o23.1.take o23.2.toNat)))] ?_;obtain⟨g26,hm⟩:=qI hm
    refine s_vv [qd 2 dN (And.intro (ZY g26).2.1 (ZY g26).2.2)] 1 [0,3] [(2,vo 0 0 1 o23.2.toNat)] (q_fn [.len 0 ((o23.1.take o23.2.toNat).length)] ⟨[(2,vo 0 0 1 ((o23.1.take o23.2.toNat).length))],[(0,ro 0 3 1 ((o23.1.take o23.2.toNat).length) (rf qA (o23.1.take o23.2.toNat)))]⟩ (o1 (And.intro (Eq.symm (show(o23.1.take o23.2.toNat).length=o23.2.toNat from(qWw rfl (ux (Nat.le_add_right _ _) (show o23.2.toNat+(o23.1.length-o23.2.toNat)<=o23.1.length by have:=(ZY g25);omega))))) (Eq.symm (show(o23.1.take o23.2.toNat).length=o23.2.toNat from(qWw rfl (ux (Nat.le_add_right _ _) (show o23.2.toNat+(o23.1.length-o23.2.toNat)<=o23.1.length by have:=(ZY g25);omega))))))) ?_)
    obtain rfl:=oi hm;refine q_rt (zG ((o23.1.take o23.2.toNat),(o23.1.take o23.2.toNat)) ?_);exact q_rm
   ·refine q_sk (q_vv [] 1 [3,25] [(3,vi (w64 (x4+1)))] ?_);exact q_hl (RO l3 l3.length (w64 (x4+1))) (ih l3 l3.length (w64 (x4+1)) _ rfl hm)
  ·refine q_ex 0 ?_;obtain rfl:=oi hm;exact q_l1 l3
theorem qG6 (a1:List Int) (r:(List Int)×(List Int)) (hm:YK a1=some r):CtX Tryz.prog globs 33 1 1 [.one (.own 0 0 1 a1.length)] [(0,ro 0 3 1 a1.length (rf qA a1))] (KQ a1 r) (KC a1 r):=by
 unfold YK at hm;refine q_E f33 61 λE=>?_;refine s_vn [] 1 ⟨[(0,vo 0 0 1 a1.length)],[(0,ro 0 3 1 a1.length (rf qA a1))]⟩ (q_sq ?_);refine s_va 1 [(8,vb (decide ((a1.length:Int)<2)))] (q_cq hm (λhm=>?_) (λhm=>?_))
 ·refine s_vv [] 1 [0,8] [(2,vo 0 0 1 a1.length)] ?_;obtain rfl:=oi hm;exact q_rt q_rm
 ·refine q_sk (q_sq ?_);refine s_vv [] 1 [8] [(3,vi 1)] ?_;obtain⟨u30,h29,hm⟩:=qB hm;refine zT (nd f33 116) 0 (by kernel_rfl) FUEL HZ (λv st=>RetQ Tryz.prog f33 (KQ a1 v) (KC a1 v) .ret st) u30 (q_hl (RO a1 a1.length 1) (qED E a1 FUEL a1 a1.length 1 u30 rfl h29)) ?_ ?_
  ·rintro v31 rfl st hr;obtain rfl:=oi hm;exact hr
  ·rintro o28 rfl;replace hm:_=some r:=hm;refine s_vv [] 1 [0] [(2,vo 0 0 1 o28.length)] ?_;obtain rfl:=oi hm;exact q_rt q_rm
end Saw
end Go.SL

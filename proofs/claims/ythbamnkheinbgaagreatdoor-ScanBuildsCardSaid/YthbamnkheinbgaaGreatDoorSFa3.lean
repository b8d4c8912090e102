import Derived.Test.YthbamnkheinbgaaGreatDoorSBase
import Derived.Test.YthbamnkheinbgaaGreatDoorSFa2
import Derived.Test.YthbamnkheinbgaaGreatDoorSFa1
set_option linter.unusedVariables false
set_option linter.unusedSimpArgs false
namespace Go.SL
namespace Saw
open Go.Proofs Go.Proofs.Tryz
set_option maxHeartbeats 4000000
set_option maxRecDepth 100000
def MX (a1:Int) (a2:Rect) (a3:List qA) (r:Int×Int):V:= .tup [.one (ci r.1),.one (ci r.2)]
def MM (a1:Int) (a2:Rect) (a3:List qA) (r:Int×Int):List (Nat×(Nat×O)):=[(0,bx 190 (JV a2)),(1,bx 52 [.own 2 0 2 a3.length]),(2,ro 0 71 2 a3.length (rf qB a3))]
def RJ (a1:Int) (a2:Rect) (a3:List qA) (x4:Int) (x5:Int) (x6:Int):St:=
 ⟨[(0,vi a1),(2,vp 1 0),(6,vi x4),(7,vi x5),(9,vp 3 0),(10,vp 4 0),(17,vo 2 0 2 a3.length),(18,vi (a3.length:Int)),(19,vi x6)],[(0,bx 190 (JV a2)),(1,bx 52 [.own 2 0 2 a3.length]),(2,ro 0 71 2 a3.length (rf qB a3)),(3,bx 71 (qB (a3.getD x6.toNat dd))),(4,bx 71 (qB (a3.getD ((Int.tmod (w64 (x6+1)) (a3.length:Int)).toNat) dd)))]⟩
def II (a1:Int) (a2:Rect) (a3:List qA) (x6:Int) (x23:Int) (x24:Int):St:=
 ⟨[(0,vi a1),(2,vp 1 0),(6,vi x23),(7,vi x24),(17,vo 2 0 2 a3.length),(18,vi (a3.length:Int)),(19,vi x6)],[(0,bx 190 (JV a2)),(1,bx 52 [.own 2 0 2 a3.length]),(2,ro 0 71 2 a3.length (rf qB a3))]⟩
def qFR (a1:Int) (a2:Rect) (a3:List qA) (x4:Int) (x5:Int) (x6:Int) (x19:Bool):St:=
 (RJ a1 a2 a3 x4 x5 x6).up [] [(69,vb x19)] [] []
def qFu (a1:Int) (a2:Rect) (a3:List qA) (x4:Int) (x5:Int) (x6:Int) (x13:Bool):St:=
 (RJ a1 a2 a3 x4 x5 x6).up [] [(32,vb x13)] [] []
def GF (a1:Int) (a2:Rect) (a3:List qA) (x4:Int) (x5:Int) (x6:Int):St:=
 (RJ a1 a2 a3 x4 x5 x6).up [9,10] [] [3,4] []
def zbQ (a2:Rect) (a3:List qA) (x25:Int) (x26:Int):St:=
 ⟨[(6,vi x25),(7,vi x26)],[(0,bx 190 (JV a2)),(1,bx 52 [.own 2 0 2 a3.length]),(2,ro 0 71 2 a3.length (rf qB a3))]⟩
theorem qEB (E:Env 3) (a1:Int) (a2:Rect) (a3:List qA):∀(n:Nat) (x4:Int) (x5:Int) (x6:Int) (res:Int×Int),wC a1 a3 n x4 x5 x6=some res->HL (kx E 109 2) (nd f178 116) (zH 0 (λo=>zbQ a2 a3 o.1 o.2) res) n (GF a1 a2 a3 x4 x5 x6):=by
 intro n
 induction n with
 |zero=>
  intro x4 x5 x6 res hm;cases hm
 |succ n ih=>
  intro x4 x5 x6 res hm;refine qP (s_va 3 [(20,vb (decide (x6<(a3.length:Int))))] ?_);refine q_sq (q_cq hm (λhm=>?_) (λhm=>?_))
  ·refine q_sk (q_jn (ι:=Int×Int) (λp=>II a1 a2 a3 x6 p.1 p.2) (λp=>JZ x6 (wC a1 a3 n) p.1 p.2=some res) ?_ ?_)
   ·rintro⟨x23,x24⟩ hm;show H _ (II a1 a2 a3 x6 x23 x24) _ _;exact q_vv [] 5 [19] [(19,vi (w64 (x6+1)))] (q_hl (GF a1 a2 a3 x23 x24 (w64 (x6+1))) (ih x23 x24 (w64 (x6+1)) _ hm))
   ·refine q_bk 1 ?_;obtain⟨g8,hm⟩:=qH hm;refine s_vu [qi 1 g8,qd 2 dN (zC (zO g8))] 3 [20] [(8,vi x6),(9,vp 3 0)] [] [(3,bx 71 (qB (a3.getD x6.toNat dd)))] ?_;obtain⟨g9,hm⟩:=qH hm;obtain⟨g10,hm⟩:=qH hm;refine s_du [qd 5 dN (WT g9),qi 6 g10,qd 7 dN (zC (zO g10))] [0,0,2,0,8,30,63,127,0,511] 4 [8] [(10,vp 4 0)] [] [(4,bx 71 (qB (a3.getD ((Int.tmod (w64 (x6+1)) (a3.length:Int)).toNat) dd)))] (q_bk 2 ?_);refine q_jn (qFu a1 a2 a3 x4 x5 x6) (λp=>YL a1 a3 x4 x5 x6 (wC a1 a3 n) p=some res) ?_ ?_
    ·rintro x13 hm;refine q_cq hm (λhm=>?_) (λhm=>?_)
     ·obtain⟨v15,h16,hm⟩:=qD hm;exact q_du [qc 17 [61,66] 5 (qDj (w64 ((w64 (((a3.getD ((Int.tmod (w64 (x6+1)) (a3.length:Int)).toNat) dd).X)-((a3.getD x6.toNat dd).X)))*(w64 (a1-((a3.getD x6.toNat dd).Y))))) (w64 (((a3.getD ((Int.tmod (w64 (x6+1)) (a3.length:Int)).toNat) dd).Y)-((a3.getD x6.toNat dd).Y))) v15 h16)] [0,1,0,4,0,16,60,0,0,256,896,2044,0,4096,0,16384,61440,131068,262143,524287] 5 [7,9,10,32] [(7,vi (w64 (((a3.getD x6.toNat dd).X)+v15)))] [3,4] [] (q_J (x4,w64 (((a3.getD x6.toNat dd).X)+v15)) hm)
     ·refine q_jn (qFR a1 a2 a3 x4 x5 x6) (λp=>JX a1 a3 x4 x5 x6 (wC a1 a3 n) p=some res) ?_ ?_
      ·rintro x19 hm;refine q_cq hm (λhm=>?_) (λhm=>?_)
       ·obtain⟨v21,h22,hm⟩:=qD hm
        exact q_du [qc 17 [98,103] 5 (qDj (w64 ((w64 (((a3.getD ((Int.tmod (w64 (x6+1)) (a3.length:Int)).toNat) dd).X)-((a3.getD x6.toNat dd).X)))*(w64 (a1-((a3.getD ((Int.tmod (w64 (x6+1)) (a3.length:Int)).toNat) dd).Y))))) (w64 (((a3.getD x6.toNat dd).Y)-((a3.getD ((Int.tmod (w64 (x6+1)) (a3.length:Int)).toNat) dd).Y))) v21 h22)] [0,1,0,4,0,16,60,0,0,256,896,2044,0,4096,0,16384,61440,131068,262143,524287] 5 [6,9,10,69] [(6,vi (w64 (((a3.getD ((Int.tmod (w64 (x6+1)) (a3.length:Int)).toNat) dd).X)-v21)))] [3,4] [] (q_J (w64 (((a3.getD ((Int.tmod (w64 (x6+1)) (a3.length:Int)).toNat) dd).X)-v21),x5) hm)
       ·exact q_sk (q_J (x4,x5) hm)
      ·rcases bif_c hm with⟨b17,hm⟩|⟨b17,hm⟩
       ·rcases bif_c hm with⟨b18,hm⟩|⟨b18,hm⟩
        ·exact q_vv [qf 5 b17,qf 11 b18] 5 [32] [(69,vb (decide (a1<=((a3.getD x6.toNat dd).Y))))] (q_J (decide (a1<=((a3.getD x6.toNat dd).Y))) hm)
        ·exact q_vv [qf 5 b17,qf 11 b18] 5 [32] [(69,vb false)] (q_J (false) hm)
       ·exact q_vv [qf 5 b17] 5 [32] [(69,vb false)] (q_J (false) hm)
    ·rcases bif_c hm with⟨b11,hm⟩|⟨b11,hm⟩
     ·rcases bif_c hm with⟨b12,hm⟩|⟨b12,hm⟩
      ·exact q_vv [qf 5 b11,qf 11 b12] 5 [] [(32,vb (decide (a1<=((a3.getD ((Int.tmod (w64 (x6+1)) (a3.length:Int)).toNat) dd).Y))))] (q_J (decide (a1<=((a3.getD ((Int.tmod (w64 (x6+1)) (a3.length:Int)).toNat) dd).Y))) hm)
      ·exact q_vv [qf 5 b11,qf 11 b12] 5 [] [(32,vb false)] (q_J (false) hm)
     ·exact q_vv [qf 5 b11] 5 [] [(32,vb false)] (q_J (false) hm)
  ·refine q_ex 0 ?_;obtain rfl:=oi hm;exact q_l0
theorem qAN (a1:Int) (a2:Rect) (a3:List qA) (r:Int×Int) (hm:XM a1 a2 a3=some r):CtX Tryz.prog globs 178 3 2 [.one (ci a1),.one (.bptr 0 0 0),.one (.bptr 1 0 0)] [(0,bx 190 (JV a2)),(1,bx 52 [.own 2 0 2 a3.length]),(2,ro 0 71 2 a3.length (rf qB a3))] (MX a1 a2 a3 r) (MM a1 a2 a3 r):=by
 unfold XM at hm;refine q_E f178 109 λE=>?_;refine s_vn [] 3 ⟨[(0,vi a1),(1,vp 0 0),(2,vp 1 0)],[(0,bx 190 (JV a2)),(1,bx 52 [.own 2 0 2 a3.length]),(2,ro 0 71 2 a3.length (rf qB a3))]⟩ (s_du [] [0,1,3,0,8,24,7,127] 3 [1] [(6,vi a2.X.A),(7,vi a2.X.B)] [] [] ?_);refine q_sq (s_va 3 [(17,vo 2 0 2 a3.length),(18,vi (a3.length:Int)),(19,vi 0)] ?_);obtain⟨o27,h28,hm⟩:=qD hm;refine qY (nd f178 116) 0 (by kernel_rfl) FUEL (λo=>zbQ a2 a3 o.1 o.2) o27 (q_hl (GF a1 a2 a3 a2.X.A a2.X.B 0) (qEB E a1 a2 a3 FUEL a2.X.A a2.X.B 0 o27 h28)) (s_vv [] 3 [6,7] [(4,vi o27.1),(5,vi o27.2)] ?_)
 obtain rfl:=oi hm;exact q_rt q_rm
def qMu (r:Span):V:=va (qF r)
def qM5 (r:Span):List (Nat×(Nat×O)):=[]
def qHq (a2:Int) (a3:Int) (v4:(List qA)) (v6:Rect) (x11:Bool):St:=
 ⟨[(1,vi a2),(2,vi a3),(6,vp 0 0),(7,vp 2 0),(8,vp 3 0),(40,vb x11)],[(0,bx 64 [ci 0,ci 0]),(1,ro 0 71 2 v4.length (rf qB v4)),(2,bx 52 [.own 1 0 2 v4.length]),(3,bx 190 (JV v6))]⟩
theorem qK1 (a1:List qA) (a2:Int) (a3:Int) (r:Span) (hm:MA a1 a2 a3=some r):CtX Tryz.prog globs 149 0 0 [.one (tl qB dd a1),.one (ci a2),.one (ci a3)] [] (qMu r) (qM5 r):=by
 unfold MA at hm;refine q_E f149 69 λE=>?_;refine s_vn [] 0 ⟨[(0,vc (tl qB dd a1)),(1,vi a2),(2,vi a3),(6,vp 0 0)],[(0,bx 64 [ci 0,ci 0])]⟩ ?_;obtain⟨v4,h5,hm⟩:=qD hm;refine s_vu [qc 1 [15] 1 (qMq a1 v4 h5)] 1 [0] [(7,vp 2 0)] [] [(1,ro 0 71 2 v4.length (rf qB v4)),(2,bx 52 [.own 1 0 2 v4.length])] ?_;obtain⟨v6,h7,hm⟩:=qD hm
 refine s_vu [qd 1 (dex (cen [] [] 3 0 (qDe v6) (DQ v6) [17] [1])) (zJ (K:=(kx E 69 0)) (b:=false) ⟨[(17,vo 1 0 2 v4.length)],[(1,ro 0 71 2 v4.length (rf qB v4))]⟩ (opAt (rg f149 14) 1) [] [] 3 (o1 (ki v4.length)) rfl (qI7 v4 v6 h7) (.inr ⟨(by kernel_rfl),qLp v6⟩) (by kernel_rfl))] 3 [] [(8,vp 3 0)] [] [(3,bx 190 (JV v6))] (q_sq ?_);refine q_jn (qHq a2 a3 v4 v6) (λp=>JG a2 a3 v4 v6 p=some r) ?_ ?_
 ·rintro x11 hm;refine q_cq hm (λhm=>?_) (λhm=>?_)
  ·refine s_vu [] 4 [1,2,7,8,40] [] [1,2,3] [] ?_;obtain rfl:=oi hm;exact q_rt q_rm
  ·refine q_sk (s_vv [] 4 [7,8,40] [(9,vc (.fn 178 [.bptr 3 0 0,.bptr 2 0 0]))] ?_);obtain⟨v13,h14,hm⟩:=qD hm
   refine s_vu [qd 2 (dex (cen [(3,0),(2,0),(1,0)] [0,0,1] 1 2 (MX a2 v6 v4 v13) (MM a2 v6 v4 v13) [44,45] [3,2,1])) (zJ (K:=(kx E 69 0)) ⟨[(44,vc (.fn 178 [.bptr 3 0 0,.bptr 2 0 0])),(45,vi a2)],[(3,bx 190 (JV v6)),(2,bx 52 [.own 1 0 2 v4.length]),(1,ro 0 71 2 v4.length (rf qB v4))]⟩ (opAt (rg f149 126) 2) [(3,0),(2,0),(1,0)] [0,0,1] 1 o0 rfl (qAN a2 v6 v4 v13 h14) (.inl rfl) (by kernel_rfl))] 4 [1] [(10,vi v13.1),(11,vi v13.2)] [1,2] [(1,ro 1 71 2 v4.length (rf qB v4)),(2,bx 52 [.own 1 1 2 v4.length])] ?_;obtain⟨v15,h16,hm⟩:=qD hm
   refine s_vu [qd 2 (dex (cen [(3,0),(2,0),(1,1)] [0,0,2] 1 2 (MX a3 v6 v4 v15) (MM a3 v6 v4 v15) [50,51] [3,2,1])) (zJ (K:=(kx E 69 0)) ⟨[(50,vc (.fn 178 [.bptr 3 0 0,.bptr 2 0 0])),(51,vi a3)],[(3,bx 190 (JV v6)),(2,bx 52 [.own 1 1 2 v4.length]),(1,ro 1 71 2 v4.length (rf qB v4))]⟩ (opAt (rg f149 254) 2) [(3,0),(2,0),(1,1)] [0,0,2] 1 o0 rfl (qAN a3 v6 v4 v15 h16) (.inl rfl) (by kernel_rfl))] 4 [2,9] [(12,vi v15.1),(13,vi v15.2)] [1,2,3] [] (s_vu [] 4 [10,11,12,13] [(14,vp 4 0)] [] [(4,bx 64 [ci (imax v13.1 v15.1),ci (imin v13.2 v15.2)])] ?_)
   refine q_sq (s_va 5 [(66,vb (decide ((imax v13.1 v15.1)≥(imin v13.2 v15.2))))] ?_);refine q_cq hm (λhm=>?_) (λhm=>?_)
   ·refine s_vu [] 5 [14,66] [] [4] [] ?_;obtain rfl:=oi hm;exact q_rt q_rm
   ·refine q_sk (s_vn [] 5 ⟨[(6,vp 0 0)],[(0,bx 64 [ci (imax v13.1 v15.1),ci (imin v13.2 v15.2)])]⟩ ?_);obtain rfl:=oi hm;exact q_rt q_rm
 ·rcases bif_c hm with⟨b8,hm⟩|⟨b8,hm⟩
  ·exact q_vv [qf 3 b8] 4 [] [(40,vb true)] (q_J (true) hm)
  ·rcases bif_c hm with⟨b9,hm⟩|⟨b9,hm⟩
   ·exact q_vv [qf 3 b8,qf 8 b9] 4 [] [(40,vb true)] (q_J (true) hm)
   ·rcases bif_c hm with⟨b10,hm⟩|⟨b10,hm⟩
    ·exact q_vv [qf 3 b8,qf 8 b9,qf 15 b10] 4 [] [(40,vb true)] (q_J (true) hm)
    ·exact q_vv [qf 3 b8,qf 8 b9,qf 15 b10] 4 [] [(40,vb (decide (a3>v6.Y.B)))] (q_J (decide (a3>v6.Y.B)) hm)
def qB1 (a1:Int) (a2:List qA) (r:Span):V:=va (qF r)
def qB6 (a1:Int) (a2:List qA) (r:Span):List (Nat×(Nat×O)):=[(0,bx 52 [tl qB dd a2])]
theorem qIw (a1:Int) (a2:List qA) (r:Span) (hm:TV a1 a2=some r):CtX Tryz.prog globs 147 1 1 [.one (ci a1),.one (.bptr 0 0 0)] [(0,bx 52 [tl qB dd a2])] (qB1 a1 a2 r) (qB6 a1 a2 r):=by
 unfold TV at hm;refine q_E f147 15 λE=>?_;refine s_vn [] 1 ⟨[(0,vi a1),(1,vp 0 0),(3,vp 1 0)],[(0,bx 52 [tl qB dd a2]),(1,bx 64 [ci 0,ci 0])]⟩ ?_;obtain⟨v3,h4,hm⟩:=qD hm;refine s_vu [qc 3 [5,7] 2 (qEH a1 (w64 (a1+1)) v3 h4)] 2 [0] [(4,vp 2 0)] [] [(2,bx 64 (qF v3))] ?_;obtain⟨v5,h6,hm⟩:=qD hm;refine s_vu [qc 5 [9,11,13] 3 (qK1 a2 v3.A v3.B v5 h6)] 3 [1,4] [] [1,2] [(1,bx 64 (qF v5))] ?_;obtain rfl:=oi hm;exact q_rt q_rm
open Go.Proofs Go.Proofs.Tryz
def qFO (r:Bool):V:=vb r
def qFs (r:Bool):List (Nat×(Nat×O)):=[]
theorem jE (a1:Span) (r:Bool) (hm:jQ a1=some r):CtX Tryz.prog globs 118 0 0 [.agg (qF a1)] [] (qFO r) (qFs r):=by
 unfold jQ at hm;refine q_E f118 8 λE=>?_;refine s_vn [] 0 ⟨[(1,vp 0 0)],[(0,bx 64 (qF a1))]⟩ (s_vn [] 1 ⟨[(2,vb (decide (a1.A≥a1.B)))],[]⟩ ?_);obtain rfl:=oi hm;exact q_rt q_rm
def qBt (a1:List qA) (r:qC):V:=va [ci r.Low,.own 1 0 2 r.Rows.length]
def qBc (a1:List qA) (r:qC):List (Nat×(Nat×O)):=[(0,bx 52 [tl qB dd a1]),(1,ro 0 64 2 r.Rows.length (rf qF r.Rows))]
def KR (a1:List qA) (x3:Int):St:=
 ⟨[(0,vc (.fn 147 [.bptr 0 0 0])),(2,vp 1 0),(3,vp 2 0),(5,vi x3)],[(0,bx 52 [tl qB dd a1]),(1,bx 48 [ci 0,.emp])]⟩
def SU (a1:List qA) (x3:Int) (x17:Int) (x18:Int) (l19:List Span) (l19n:Nat):St:=
 (KR a1 x3).up [] [(4,vi x17)] [] [(2,bx 48 [ci x18,.own 3 0 2 l19n]),(3,ro 0 64 2 l19n (rf qF l19))]
def qEO (a1:List qA) (x3:Int) (l5:List Span) (v7:Span) (x13:Int):St:=
 (KR a1 x3).up [] [(6,vp 4 0)] [] [(2,bx 48 [ci x13,.own 3 0 2 l5.length]),(3,ro 0 64 2 l5.length (rf qF l5)),(4,bx 64 (qF v7))]
def UF (a1:List qA) (x2:Int) (x3:Int) (x4:Int) (l5:List Span) (l5n:Nat):St:=
 (KR a1 x3).up [] [(4,vi x2)] [] [(2,bx 48 [ci x4,.own 3 0 2 l5n]),(3,ro 0 64 2 l5n (rf qF l5))]
def EV (a1:List qA) (x20:Int) (x21:Int) (l22:List Span):St:=
 ⟨[(2,vp 1 0),(3,vp 2 0),(4,vi x20)],[(0,bx 52 [tl qB dd a1]),(1,bx 48 [ci 0,.emp]),(2,bx 48 [ci x21,.own 3 0 2 l22.length]),(3,ro 0 64 2 l22.length (rf qF l22))]⟩
theorem qDz (E:Env 1) (a1:List qA):∀(n:Nat) (x2:Int) (x3:Int) (x4:Int) (l5:List Span) (l5n:Nat) (res:Int×Int×(List Span)),l5.length=l5n->zV a1 n x2 x3 x4 l5=some res->HL (kx E 46 1) (nd f80 244) (zH 0 (λo=>EV a1 o.1 o.2.1 o.2.2) res) n (UF a1 x2 x3 x4 l5 l5n):=by
 intro n
 induction n with
 |zero=>
  intro x2 x3 x4 l5 l5n res hl0 hm;cases hm
 |succ n ih=>
  intro x2 x3 x4 l5 l5n res hl0 hm;subst hl0;refine qP (q_sq ?_);refine s_va 4 [(8,vb (decide (x3<60)))] (q_cq hm (λhm=>?_) (λhm=>?_))
  ·refine q_sk (q_jn (ι:=Int×Int×(List Span)×Nat) (λp=>SU a1 x3 p.1 p.2.1 p.2.2.1 p.2.2.2) (λp=>p.2.2.1.length=p.2.2.2/\WR x3 (zV a1 n) p.1 p.2.1 p.2.2.1=some res) ?_ ?_)
   ·rintro⟨x17,x18,l19,l19n⟩ ⟨el19,hm⟩;replace el19:l19.length=l19n:=el19;subst el19;show H _ (SU a1 x3 x17 x18 l19 l19.length) _ _;exact q_vv [] 6 [5] [(5,vi (w64 (x3+1)))] (q_hl (UF a1 x17 (w64 (x3+1)) x18 l19 l19.length) (ih x17 (w64 (x3+1)) x18 l19 l19.length _ rfl hm))
   ·refine q_bk 1 ?_;obtain⟨v7,h8,hm⟩:=qD hm;refine s_vu [qd 2 (dex (cen [(0,0)] [0] 3 1 (qB1 x3 a1 v7) (qB6 x3 a1 v7) [11,12] [0])) (zJ (K:=(kx E 46 1)) ⟨[(11,vc (.fn 147 [.bptr 0 0 0])),(12,vi x3)],[(0,bx 52 [tl qB dd a1])]⟩ (opAt (rg f80 3912) 2) [(0,0)] [0] 3 o0 rfl (qIw x3 a1 v7 h8) (.inl rfl) (by kernel_rfl))] 4 [8] [(6,vp 4 0)] [] [(4,bx 64 (qF v7))] (q_bk 2 ?_);obtain⟨v9,h10,hm⟩:=qD hm;refine s_vv [qc 1 [15] 5 (jE v7 v9 h10)] 5 [] [(14,vb (!v9))] (q_cq hm (λhm=>?_) (λhm=>?_))
    ·refine q_jn (qEO a1 x3 l5 v7) (λp=>KZ x3 l5 (zV a1 n) v7 p=some res) ?_ ?_
     ·rintro x13 hm;obtain⟨g14,hm⟩:=qH hm;refine s_vu [qd 3 (drw 5 0 (rf qF [v7])) (litP qF dd 2 (λ_=>rfl) ([v7]:List Span) 1 rfl),qd 4 (drw 3 1 (rf qF (l5++[v7]))) (apP qF dd l5 ([v7]:List Span) l5.length 1 2 16 (1<=1) (ki _) rfl rfl (λ_=>rfl) (zK g14))] 5 [6] [] [2,3,4] [(2,bx 48 [ci x13,.own 3 1 2 (l5.length+1)]),(3,ro 1 64 2 (l5.length+1) (rf qF (l5++[v7])))] (q_va 6 [(4,vi (((l5.length+1):Nat):Int))] ?_);exact q_J ((((l5.length+1):Nat):Int),x13,(l5++[v7]),(l5.length+1)) ⟨(zA rfl rfl),hm⟩
     ·refine s_vv [] 5 [4,14] [(19,vb (x2==0))] (q_cq hm (λhm=>?_) (λhm=>?_))
      ·exact q_vu [] 5 [19] [] [2] [(2,bx 48 [ci x3,.own 3 0 2 l5.length])] (q_J (x3) hm)
      ·exact q_sk (q_J (x4) hm)
    ·refine s_vu [] 5 [6,14] [(31,vb (decide (x2>0)))] [4] [] (q_cq hm (λhm=>?_) (λhm=>?_))
     ·obtain⟨g16,hm⟩:=qH hm;exact q_vu [qd 3 (drw 5 0 (rf qF [(Span.mk 0 0)])) (litP qF dd 2 (λ_=>rfl) ([(Span.mk 0 0)]:List Span) 1 rfl),qd 4 (drw 3 1 (rf qF (l5++[(Span.mk 0 0)]))) (apP qF dd l5 ([(Span.mk 0 0)]:List Span) l5.length 1 2 16 (1<=1) (ki _) rfl rfl (λ_=>rfl) (zK g16))] 5 [31] [] [2,3] [(2,bx 48 [ci x4,.own 3 1 2 (l5.length+1)]),(3,ro 1 64 2 (l5.length+1) (rf qF (l5++[(Span.mk 0 0)])))] (q_J (x2,x4,(l5++[(Span.mk 0 0)]),(l5.length+1)) ⟨(zA rfl rfl),hm⟩)
     ·exact q_sk (q_J (x2,x4,l5,l5.length) ⟨rfl,hm⟩)
  ·refine q_ex 0 ?_;obtain rfl:=oi hm;exact q_l0
theorem qGQ (a1:List qA) (r:qC) (hm:PH a1=some r):CtX Tryz.prog globs 80 1 1 [.one (.fn 147 [.bptr 0 0 0])] [(0,bx 52 [tl qB dd a1])] (qBt a1 r) (qBc a1 r):=by
 unfold PH at hm;refine q_E f80 46 λE=>?_;refine s_vn [] 1 ⟨[(0,vc (.fn 147 [.bptr 0 0 0])),(2,vp 1 0)],[(0,bx 52 [tl qB dd a1]),(1,bx 48 [ci 0,.emp])]⟩ (s_vu [] 2 [] [(3,vp 2 0)] [] [(2,bx 48 [ci 0,.emp])] ?_);refine s_va 3 [(4,vi 0)] (q_sq ?_);refine s_va 3 [(5,vi (-60))] (q_fu [.ownB 2 1 3 64 2 (rf qF [])] [] [] [2] [(2,bx 48 [ci 0,.own 3 0 2 0]),(3,ro 0 64 2 0 (rf qF []))] o0 ?_);obtain⟨o23,h24,hm⟩:=qD hm;refine qY (nd f80 244) 0 (by kernel_rfl) FUEL (λo=>EV a1 o.1 o.2.1 o.2.2) o23 (q_hl (UF a1 0 (-60) 0 ([]:List Span) 0) (qDz E a1 FUEL 0 (-60) 0 ([]:List Span) 0 o23 rfl h24)) ?_
 obtain⟨g25,hm⟩:=qH hm;refine s_wu [qd 3 dN (And.intro (qT g25).2.1 (qT g25).2.2)] [.row 3 o23.1.toNat (rf qF (o23.2.2.take o23.1.toNat))] (o1 (tkP qF dd o23.2.2 o23.2.2.length o23.1.toNat (show o23.1.toNat<=o23.2.2.length by have:=(qT g25);omega))) 4 [4] [] [2,3] [(2,bx 48 [ci o23.2.1,.own 3 0 2 o23.1.toNat]),(3,ro 0 64 2 o23.1.toNat (rf qF (o23.2.2.take o23.1.toNat)))] (s_vu [] 4 [3] [] [1,2] [(1,bx 48 [ci o23.2.1,.own 3 0 2 o23.1.toNat])] ?_)
 refine q_fu [.len 3 ((o23.2.2.take o23.1.toNat).length)] [] [] [1,3] [(1,bx 48 [ci o23.2.1,.own 3 0 2 ((o23.2.2.take o23.1.toNat).length)]),(3,ro 0 64 2 ((o23.2.2.take o23.1.toNat).length) (rf qF (o23.2.2.take o23.1.toNat)))] (o1 (And.intro (Eq.symm (show(o23.2.2.take o23.1.toNat).length=o23.1.toNat from(wV rfl (show o23.1.toNat<=o23.2.2.length by have:=(qT g25);omega)))) (Eq.symm (show(o23.2.2.take o23.1.toNat).length=o23.1.toNat from(wV rfl (show o23.1.toNat<=o23.2.2.length by have:=(qT g25);omega)))))) ?_;obtain rfl:=oi hm;exact q_sw 3 1 (q_rt q_rm)
def qD6 (r:qC×Int):V:= .tup [.agg [ci r.1.Low,.own 0 0 2 r.1.Rows.length],.one (ci r.2)]
def LX (r:qC×Int):List (Nat×(Nat×O)):=[(0,ro 0 64 2 r.1.Rows.length (rf qF r.1.Rows))]
theorem qMR (r:qC×Int):jO (LX r):=by
 intro i k o h;unfold LX at h;rw[look_cons] at h;split at h
 ·cases h;exact λ_ _=>rfl
 ·cases h
theorem qLC (a1:List qA) (r:qC×Int) (hm:MC a1=some r):CtX Tryz.prog globs 92 0 0 [.one (tl qB dd a1)] [] (qD6 r) (LX r):=by
 unfold MC at hm;refine q_E f92 20 λE=>?_;refine s_vn [] 0 ⟨[(1,vp 0 0),(2,vp 1 0)],[(0,bx 52 [tl qB dd a1]),(1,bx 48 [ci 0,.emp])]⟩ (q_sq ?_);obtain⟨v2,h3,hm⟩:=qD hm;refine s_vv [qc 1 [6] 2 (qKU a1 v2 h3)] 2 [] [(4,vi v2)] (s_va 2 [(9,vb (v2 !=0))] ?_);refine q_cq hm (λhm=>?_) (λhm=>?_)
 ·refine s_vu [] 2 [1,4,9] [(3,vi v2)] [0] [] (q_fu [.ownB 1 1 2 64 2 (rf qF [])] [] [] [1] [(1,bx 48 [ci 0,.own 2 0 2 0]),(2,ro 0 64 2 0 (rf qF []))] o0 ?_);refine q_fu [.len 2 (([]:List Span).length)] [] [] [1,2] [(1,bx 48 [ci 0,.own 2 0 2 (([]:List Span).length)]),(2,ro 0 64 2 (([]:List Span).length) (rf qF []))] (o1 (And.intro (show 0=([]:List Span).length from rfl) (show 0=([]:List Span).length from rfl))) ?_;obtain rfl:=oi hm;exact q_sw 2 0 (q_rt q_rm)
 ·refine q_sk ?_;obtain⟨v5,h6,hm⟩:=qD hm;refine s_vu [qd 1 (dex (cen [(0,0)] [0] 1 1 (qBt a1 v5) (qBc a1 v5) [12] [0])) (zJ (K:=(kx E 20 0)) ⟨[(12,vc (.fn 147 [.bptr 0 0 0]))],[(0,bx 52 [tl qB dd a1])]⟩ (opAt (rg f92 14) 1) [(0,0)] [0] 1 o0 rfl (qGQ a1 v5 h6) (.inl rfl) (by kernel_rfl))] 2 [1,4,9] [(5,vp 3 0)] [0] [(2,ro 0 64 2 v5.Rows.length (rf qF v5.Rows)),(3,bx 48 [ci v5.Low,.own 2 0 2 v5.Rows.length])] (q_sq ?_);refine s_va 4 [(17,vb ((v5.Rows.length:Int)==0))] (q_cq hm (λhm=>?_) (λhm=>?_))
  ·refine s_vu [] 4 [5,17] [(3,vi 18)] [2,3] [] (q_fu [.ownB 1 1 4 64 2 (rf qF [])] [] [] [1] [(1,bx 48 [ci 0,.own 4 0 2 0]),(4,ro 0 64 2 0 (rf qF []))] o0 ?_);refine q_fu [.len 4 (([]:List Span).length)] [] [] [1,4] [(1,bx 48 [ci 0,.own 4 0 2 (([]:List Span).length)]),(4,ro 0 64 2 (([]:List Span).length) (rf qF []))] (o1 (And.intro (show 0=([]:List Span).length from rfl) (show 0=([]:List Span).length from rfl))) ?_;obtain rfl:=oi hm;exact q_sw 4 0 (q_rt q_rm)
  ·refine q_sk (s_vu [] 4 [5,17] [(3,vi 0)] [1,3] [(1,bx 48 [ci v5.Low,.own 2 0 2 v5.Rows.length])] ?_);obtain rfl:=oi hm;exact q_sw 2 0 (q_rt q_rm)
open Go.Proofs Go.Proofs.Tryz
def qGG (r:qC×Int):V:= .tup [.agg [ci r.1.Low,.own 0 0 2 r.1.Rows.length],.one (ci r.2)]
def qGv (r:qC×Int):List (Nat×(Nat×O)):=[(0,ro 0 64 2 r.1.Rows.length (rf qF r.1.Rows))]
theorem qFi (a1:Ring) (a2:Int) (a3:Int) (r:qC×Int) (hm:KB a1 a2 a3=some r):CtX Tryz.prog globs 44 0 0 [.agg (qN a1),.one (ci a2),.one (ci a3)] [] (qGG r) (qGv r):=by
 unfold KB at hm;refine q_E f44 26 λE=>?_;refine s_vn [] 0 ⟨[(1,vi a2),(2,vi a3),(3,vp 0 0),(6,vp 1 0)],[(0,bx 45 (qN a1)),(1,bx 48 [ci 0,.emp])]⟩ ?_;obtain⟨v4,h5,hm⟩:=qD hm;obtain⟨v6,h7,hm⟩:=qD hm
 refine s_vu [qc 2 [11,12] 2 (qLe a1 a2 v4 h5),qd 4 (dex (cen [] [] 3 0 (qDg v6) (BC v6) [13,14] [2])) (zJ (K:=(kx E 26 0)) (b:=false) ⟨[(13,va [ci v4.Z,.own 2 0 3 v4.Read.length]),(14,vi a3)],[(2,ro 0 73 3 v4.Read.length (rf qG v4.Read))]⟩ (opAt (rg f44 6) 4) [] [] 3 (o1 (ki v4.Read.length)) rfl (qIS (Ring.mk v4.Z v4.Read) a3 v6 h7) (.inr ⟨(by kernel_rfl),qLx v6⟩) (by kernel_rfl))] 2 [1,2,3] [(8,vo 3 0 2 v6.1.length),(9,vi v6.2)] [0] [(3,ro 0 71 2 v6.1.length (rf qB v6.1))] (q_sq ?_);refine s_va 4 [(19,vb (v6.2 !=0))] (q_cq hm (λhm=>?_) (λhm=>?_))
 ·refine s_vu [] 4 [8,9,19] [(7,vi v6.2)] [3] [] (q_fu [.ownB 1 1 4 64 2 (rf qF [])] [] [] [1] [(1,bx 48 [ci 0,.own 4 0 2 0]),(4,ro 0 64 2 0 (rf qF []))] o0 ?_);refine q_fu [.len 4 (([]:List Span).length)] [] [] [1,4] [(1,bx 48 [ci 0,.own 4 0 2 (([]:List Span).length)]),(4,ro 0 64 2 (([]:List Span).length) (rf qF []))] (o1 (And.intro (show 0=([]:List Span).length from rfl) (show 0=([]:List Span).length from rfl))) ?_;obtain rfl:=oi hm;exact q_sw 4 0 (q_rt q_rm)
 ·refine q_sk ?_;obtain⟨v9,h10,hm⟩:=qD hm;refine s_vn [qd 1 (dex (cen [] [] 4 0 (qD6 v9) (LX v9) [22] [3])) (zJ (K:=(kx E 26 0)) (b:=false) ⟨[(22,vo 3 0 2 v6.1.length)],[(3,ro 0 71 2 v6.1.length (rf qB v6.1))]⟩ (opAt (rg f44 30) 1) [] [] 4 (o1 (ki v6.1.length)) rfl (qLC v6.1 v9 h10) (.inr ⟨(by kernel_rfl),qMR v9⟩) (by kernel_rfl))] 4 ⟨[(6,vp 1 0),(7,vi v9.2)],[(1,bx 48 [ci v9.1.Low,.own 4 0 2 v9.1.Rows.length]),(4,ro 0 64 2 v9.1.Rows.length (rf qF v9.1.Rows))]⟩ ?_;obtain rfl:=oi hm;exact q_sw 4 0 (q_rt q_rm)
def qFg (r:Bool):V:=vb r
def qFr (r:Bool):List (Nat×(Nat×O)):=[]
def qCJ (x3:Bool):St:=
 ⟨[(2,vb x3)],[]⟩
theorem qDX (a1:Span) (r:Bool) (hm:JP a1=some r):CtX Tryz.prog globs 117 0 0 [.agg (qF a1)] [] (qFg r) (qFr r):=by
 unfold JP at hm;refine q_E f117 17 λE=>?_;refine s_vn [] 0 ⟨[(1,vp 0 0)],[(0,bx 64 (qF a1))]⟩ (q_jn (qCJ) (λp=>JU p=some r) ?_ ?_)
 ·rintro x3 hm;obtain rfl:=oi hm;exact q_rt q_rm
 ·rcases bif_c hm with⟨b2,hm⟩|⟨b2,hm⟩
  ·exact q_vn [qf 6 b2] 1 ⟨[(2,vb (decide ((imax a1.A a1.B)<=600)))],[]⟩ (q_J (decide ((imax a1.A a1.B)<=600)) hm)
  ·exact q_vn [qf 6 b2] 1 ⟨[(2,vb false)],[]⟩ (q_J (false) hm)
def YF (r:Int):V:=vi r
def JL (r:Int):List (Nat×(Nat×O)):=[]
def UH (a1:qC) (x6:Int):St:=
 ⟨[(1,vp 0 0),(3,vi (a1.Rows.length:Int)),(24,vc (tl qF dd a1.Rows)),(25,vi (a1.Rows.length:Int)),(26,vi x6)],[(0,bx 48 (qJ a1))]⟩
def EQ (a1:qC):St:=
 ⟨[(1,vp 0 0),(3,vi (a1.Rows.length:Int))],[(0,bx 48 (qJ a1))]⟩
def qD3 (a1:qC) (x27:Int) (x33:Bool):St:=
 ⟨[(54,vc (tl qF dd a1.Rows)),(55,vi (a1.Rows.length:Int)),(56,vi x27),(66,vb x33)],[]⟩
def TY (a1:qC) (x27:Int):St:=
 ⟨[(54,vc (tl qF dd a1.Rows)),(55,vi (a1.Rows.length:Int)),(56,vi x27)],[]⟩
def EG :St:=
 ⟨[],[]⟩
def qDO (a1:qC) (x25:Bool):St:=
 ⟨[(1,vp 0 0),(52,vb x25)],[(0,bx 48 (qJ a1))]⟩
def qEr (a1:qC) (x4:Bool):St:=
 ⟨[(1,vp 0 0),(3,vi (a1.Rows.length:Int)),(22,vb x4)],[(0,bx 48 (qJ a1))]⟩
theorem qDF (E:Env 0) (a1:qC):∀(n:Nat) (x6:Int) (res:Int⊕Unit),jW a1 n x6=some res->HL (kx E 68 0) (nd f62 500) (wL 0 (λo=>EQ a1) (λv st=>RetQ Tryz.prog f62 (YF v) (JL v) .ret st) res) n (UH a1 x6):=by
 intro n
 induction n with
 |zero=>
  intro x6 res hm;cases hm
 |succ n ih=>
  intro x6 res hm;refine qP (s_va 1 [(27,vb (decide (x6<(a1.Rows.length:Int))))] ?_);refine q_sq (q_cq hm (λhm=>?_) (λhm=>?_))
  ·refine q_sk (q_sq ?_);refine q_bk 1 ?_;obtain⟨g8,hm⟩:=qH hm;refine s_vu [qi 0 g8] 1 [27] [(5,vp 1 0)] [] [(1,bx 64 (qF (a1.Rows.getD x6.toNat dd)))] ?_;obtain⟨v9,h10,hm⟩:=qD hm;refine s_vu [qc 1 [30] 2 (qDX (a1.Rows.getD x6.toNat dd) v9 h10)] 2 [5] [(32,vb (!v9))] [1] [] (q_cq hm (λhm=>?_) (λhm=>?_))
   ·refine s_vn [] 2 ⟨[(2,vi 9)],[]⟩ ?_;obtain rfl:=oi hm;refine q_rt (zG 9 ?_);exact q_rm
   ·refine q_sk (q_vv [] 2 [26,32] [(26,vi (w64 (x6+1)))] ?_);exact q_hl (UH a1 (w64 (x6+1))) (ih (w64 (x6+1)) _ hm)
  ·refine q_ex 0 ?_;obtain rfl:=oi hm;exact q_l1 ()
theorem qDE (E:Env 0) (a1:qC):∀(n:Nat) (x27:Int) (res:Int⊕Unit),wN a1 n x27=some res->HL (kx E 68 0) (nd f62 4084) (wL 2 (λo=>EG) (λv st=>RetQ Tryz.prog f62 (YF v) (JL v) .ret st) res) n (TY a1 x27):=by
 intro n
 induction n with
 |zero=>
  intro x27 res hm;cases hm
 |succ n ih=>
  intro x27 res hm;refine qP (s_va 1 [(57,vb (decide (x27<(a1.Rows.length:Int))))] ?_);refine q_sq (q_cq hm (λhm=>?_) (λhm=>?_))
  ·refine q_sk (q_sq ?_);refine q_bk 3 ?_;obtain⟨g29,hm⟩:=qH hm;refine s_vu [qi 0 g29] 1 [57] [(7,vp 1 0)] [] [(1,bx 64 (qF (a1.Rows.getD x27.toNat dd)))] (q_jn (qD3 a1 x27) (λp=>KL x27 (wN a1 n) p=some res) ?_ ?_)
   ·rintro x33 hm;refine q_cq hm (λhm=>?_) (λhm=>?_)
    ·refine s_vn [] 2 ⟨[(2,vi 19)],[]⟩ ?_;obtain rfl:=oi hm;refine q_rt (zG 19 ?_);exact q_rm
    ·refine q_sk (q_vv [] 2 [56,66] [(56,vi (w64 (x27+1)))] ?_);exact q_hl (TY a1 (w64 (x27+1))) (ih (w64 (x27+1)) _ hm)
   ·obtain⟨v30,h31,hm⟩:=qD hm;rcases bif_c hm with⟨b32,hm⟩|⟨b32,hm⟩
    ·exact q_vu [qc 1 [60] 2 (jE (a1.Rows.getD x27.toNat dd) v30 h31),qf 2 b32] 2 [7] [(66,vb (!((((a1.Rows.getD x27.toNat dd).A)==0)&&((((a1.Rows.getD x27.toNat dd).B)==0)&&true))))] [1] [] (q_J (!((((a1.Rows.getD x27.toNat dd).A)==0)&&((((a1.Rows.getD x27.toNat dd).B)==0)&&true))) hm)
    ·exact q_vu [qc 1 [60] 2 (jE (a1.Rows.getD x27.toNat dd) v30 h31),qf 2 b32] 2 [7] [(66,vb false)] [1] [] (q_J (false) hm)
  ·refine q_ex 2 ?_;obtain rfl:=oi hm;exact q_l1 ()
theorem OV (a1:qC) (r:Int) (hm:JD a1=some r):CtX Tryz.prog globs 62 0 0 [.agg (qJ a1)] [] (YF r) (JL r):=by
 unfold JD at hm;refine q_E f62 68 λE=>?_;refine s_vn [] 0 ⟨[(1,vp 0 0)],[(0,bx 48 (qJ a1))]⟩ (s_va 1 [(3,vi (a1.Rows.length:Int))] ?_);refine q_sq (s_va 1 [(12,vb (decide ((a1.Rows.length:Int)>120)))] ?_);refine q_cq hm (λhm=>?_) (λhm=>?_)
 ·refine s_vn [] 1 ⟨[(2,vi 4)],[]⟩ ?_;obtain rfl:=oi hm;exact q_rt q_rm
 ·refine q_sk (q_sq ?_);refine q_jn (qEr a1) (λp=>KT a1 p=some r) ?_ ?_
  ·rintro x4 hm;refine q_cq hm (λhm=>?_) (λhm=>?_)
   ·refine s_vn [] 1 ⟨[(2,vi 9)],[]⟩ ?_;obtain rfl:=oi hm;exact q_rt q_rm
   ·refine q_sk (q_sq ?_);refine s_vv [] 1 [22] [(24,vc (tl qF dd a1.Rows)),(25,vi (a1.Rows.length:Int)),(26,vi 0)] ?_;obtain⟨u14,h13,hm⟩:=qD hm;refine zR (nd f62 500) 0 (by kernel_rfl) FUEL (λo=>EQ a1) (λv st=>RetQ Tryz.prog f62 (YF v) (JL v) .ret st) u14 (q_hl (UH a1 0) (qDF E a1 FUEL 0 u14 h13)) ?_ ?_
    ·rintro v15 rfl st hr;obtain rfl:=oi hm;exact hr
    ·rintro o12 rfl;replace hm:_=some r:=hm;refine q_sq (s_va 1 [(35,vb ((a1.Rows.length:Int)==0))] ?_);refine q_cq hm (λhm=>?_) (λhm=>?_)
     ·refine q_sq (s_vn [] 1 ⟨[(38,vb (a1.Low !=0))],[]⟩ ?_);refine q_cq hm (λhm=>?_) (λhm=>?_)
      ·refine s_vn [] 1 ⟨[(2,vi 19)],[]⟩ ?_;obtain rfl:=oi hm;exact q_rt q_rm
      ·refine q_sk (s_vn [] 1 ⟨[(2,vi 0)],[]⟩ ?_);obtain rfl:=oi hm;exact q_rt q_rm
     ·refine q_sk (q_sq ?_);refine q_jn (qDO a1) (λp=>KK a1 p=some r) ?_ ?_
      ·rintro x25 hm;refine q_cq hm (λhm=>?_) (λhm=>?_)
       ·refine s_vn [] 1 ⟨[(2,vi 19)],[]⟩ ?_;obtain rfl:=oi hm;exact q_rt q_rm
       ·refine q_sk (q_sq ?_);refine s_vn [] 1 ⟨[(54,vc (tl qF dd a1.Rows)),(55,vi (a1.Rows.length:Int)),(56,vi 0)],[]⟩ ?_;obtain⟨u37,h36,hm⟩:=qD hm;refine zR (nd f62 4084) 2 (by kernel_rfl) FUEL (λo=>EG) (λv st=>RetQ Tryz.prog f62 (YF v) (JL v) .ret st) u37 (q_hl (TY a1 0) (qDE E a1 FUEL 0 u37 h36)) ?_ ?_
        ·rintro v38 rfl st hr;obtain rfl:=oi hm;exact hr
        ·rintro o35 rfl;replace hm:_=some r:=hm;refine s_vn [] 1 ⟨[(2,vi 0)],[]⟩ ?_;obtain rfl:=oi hm;exact q_rt q_rm
      ·obtain⟨g18,hm⟩:=qH hm;obtain⟨v19,h20,hm⟩:=qD hm;rcases bif_c hm with⟨b21,hm⟩|⟨b21,hm⟩
       ·exact q_vv [qi 2 g18,qc 4 [42] 1 (jE (a1.Rows.getD (0:Int).toNat dd) v19 h20),qf 5 b21] 1 [3,35] [(52,vb true)] (q_J (true) hm)
       ·obtain⟨g22,hm⟩:=qH hm;obtain⟨v23,h24,hm⟩:=qD hm;exact q_vv [qi 2 g18,qc 4 [42] 1 (jE (a1.Rows.getD (0:Int).toNat dd) v19 h20),qf 5 b21,qi 10 g22,qk 12 [44,50] 1 ⟨[(44,vb false),(50,va [ci ((a1.Rows.getD (w64 ((a1.Rows.length:Int)-1)).toNat dd).A),ci ((a1.Rows.getD (w64 ((a1.Rows.length:Int)-1)).toNat dd).B)])],[]⟩ (jE (a1.Rows.getD (w64 ((a1.Rows.length:Int)-1)).toNat dd) v23 h24)] 1 [3,35] [(52,vb v23)] (q_J (v23) hm)
  ·rcases bif_c hm with⟨b3,hm⟩|⟨b3,hm⟩
   ·exact q_vv [qf 3 b3] 1 [12] [(22,vb true)] (q_J (true) hm)
   ·exact q_vv [qf 3 b3] 1 [12] [(22,vb (decide (a1.Low>(w64 (60-(a1.Rows.length:Int))))))] (q_J (decide (a1.Low>(w64 (60-(a1.Rows.length:Int))))) hm)
open Go.Proofs Go.Proofs.Tryz
def qHU (r:qC):V:=va (qJ r)
def qIr (r:qC):List (Nat×(Nat×O)):=[]
theorem NB (a1:qC) (r:qC) (hm:ZG a1=some r):CtX Tryz.prog globs 78 0 0 [.agg (qJ a1)] [] (qHU r) (qIr r):=by
 unfold ZG at hm;refine q_E f78 8 λE=>?_;refine s_vn [] 0 ⟨[(1,vp 0 0),(2,vp 1 0)],[(0,bx 48 (qJ a1)),(1,bx 48 [ci 0,.emp])]⟩ (q_sq ?_);obtain⟨v2,h3,hm⟩:=qD hm;refine s_vv [qc 1 [3] 2 (OV a1 v2 h3)] 2 [] [(5,vb (v2 !=0))] (q_cq hm (λhm=>?_) (λhm=>?_))
 ·refine s_vu [] 2 [1,5] [] [0] [] (q_fu [.ownB 1 1 2 64 2 (rf qF [])] [] [] [1] [(1,bx 48 [ci 0,.own 2 0 2 0]),(2,ro 0 64 2 0 (rf qF []))] o0 ?_);refine q_fu [.len 2 (([]:List Span).length),.frz 2] [] [] [1,2] [(1,bx 48 [ci 0,tl qF dd ([]:List Span)])] (o1 (And.intro (And.intro (show 0=([]:List Span).length from rfl) (show 0=([]:List Span).length from rfl)) (ki (([]:List Span).length)))) ?_;obtain rfl:=oi hm;exact q_rt q_rm
 ·refine q_sk (s_vn [] 2 ⟨[(2,vp 1 0)],[(1,bx 48 (qJ a1))]⟩ ?_);obtain rfl:=oi hm;exact q_rt q_rm
def qLS (r:Span):V:=va (qF r)
def qNx (r:Span):List (Nat×(Nat×O)):=[]
def qHI (a1:qC) (a2:Int) (x4:Bool):St:=
 ⟨[(1,vi a2),(2,vp 0 0),(4,vp 1 0),(18,vb x4)],[(0,bx 48 (qJ a1)),(1,bx 64 [ci 0,ci 0])]⟩
theorem qDk (a1:qC) (a2:Int) (r:Span) (hm:VL a1 a2=some r):CtX Tryz.prog globs 82 0 0 [.agg (qJ a1),.one (ci a2)] [] (qLS r) (qNx r):=by
 unfold VL at hm;refine q_E f82 28 λE=>?_;refine s_vn [] 0 ⟨[(1,vi a2),(2,vp 0 0),(4,vp 1 0)],[(0,bx 48 (qJ a1)),(1,bx 64 [ci 0,ci 0])]⟩ (q_sq ?_);refine q_jn (qHI a1 a2) (λp=>BA a1 a2 p=some r) ?_ ?_
 ·rintro x4 hm;refine q_cq hm (λhm=>?_) (λhm=>?_)
  ·refine s_vu [] 2 [1,2,18] [] [0] [] ?_;obtain rfl:=oi hm;exact q_rt q_rm
  ·refine q_sk ?_;obtain⟨g6,hm⟩:=qH hm;refine s_vn [qi 6 g6] 2 ⟨[(4,vp 1 0)],[(1,bx 64 (qF (a1.Rows.getD (w64 (a2-a1.Low)).toNat dd)))]⟩ ?_;obtain rfl:=oi hm;exact q_rt q_rm
 ·rcases bif_c hm with⟨b3,hm⟩|⟨b3,hm⟩
  ·exact q_vv [qf 4 b3] 2 [] [(18,vb true)] (q_J (true) hm)
  ·exact q_vv [qf 4 b3] 2 [] [(18,vb (decide (a2≥(w64 (a1.Low+(a1.Rows.length:Int))))))] (q_J (decide (a2≥(w64 (a1.Low+(a1.Rows.length:Int))))) hm)
def qOm (r:Span):V:=va (qF r)
def qN4 (r:Span):List (Nat×(Nat×O)):=[]
theorem qMs (a1:Span) (a2:Span) (r:Span) (hm:EJ a1 a2=some r):CtX Tryz.prog globs 94 0 0 [.agg (qF a1),.agg (qF a2)] [] (qOm r) (qN4 r):=by
 unfold EJ at hm;refine q_E f94 24 λE=>?_;refine s_vn [] 0 ⟨[(2,vp 0 0),(3,vp 1 0),(4,vp 2 0)],[(0,bx 64 (qF a1)),(1,bx 64 (qF a2)),(2,bx 64 [ci 0,ci 0])]⟩ (s_vu [] 3 [2,3] [(5,vp 3 0)] [0,1] [(3,bx 64 [ci (imax a1.A a2.A),ci (imin a1.B a2.B)])] ?_);refine q_sq (s_va 4 [(21,vb (decide ((imax a1.A a2.A)≥(imin a1.B a2.B))))] ?_);refine q_cq hm (λhm=>?_) (λhm=>?_)
 ·refine s_vu [] 4 [5,21] [] [3] [] ?_;obtain rfl:=oi hm;exact q_rt q_rm
 ·refine q_sk (s_vn [] 4 ⟨[(4,vp 2 0)],[(2,bx 64 [ci (imax a1.A a2.A),ci (imin a1.B a2.B)])]⟩ ?_);obtain rfl:=oi hm;exact q_rt q_rm
open Go.Proofs Go.Proofs.Tryz
def CY (a1:Int) (a2:qC) (a3:qC) (r:Span):V:=va (qF r)
def qAs (a1:Int) (a2:qC) (a3:qC) (r:Span):List (Nat×(Nat×O)):=[(0,bx 48 (qJ a2)),(1,bx 48 (qJ a3))]
theorem qFt (a1:Int) (a2:qC) (a3:qC) (r:Span) (hm:XH a1 a2 a3=some r):CtX Tryz.prog globs 93 2 2 [.one (ci a1),.one (.bptr 0 0 0),.one (.bptr 1 0 0)] [(0,bx 48 (qJ a2)),(1,bx 48 (qJ a3))] (CY a1 a2 a3 r) (qAs a1 a2 a3 r):=by
 unfold XH at hm;refine q_E f93 12 λE=>?_;refine s_vn [] 2 ⟨[(0,vi a1),(1,vp 0 0),(2,vp 1 0),(4,vp 2 0)],[(0,bx 48 (qJ a2)),(1,bx 48 (qJ a3)),(2,bx 64 [ci 0,ci 0])]⟩ ?_;obtain⟨v4,h5,hm⟩:=qD hm;obtain⟨v6,h7,hm⟩:=qD hm;obtain⟨v8,h9,hm⟩:=qD hm;refine s_du [qc 2 [5,6] 3 (qDk a2 a1 v4 h5),qc 5 [8,9] 3 (qDk a3 a1 v6 h7),qc 6 [7,10] 3 (qMs v4 v6 v8 h9)] [0,0,3,0,0,31,63,127] 3 [0,1,2] [] [2] [(2,bx 64 (qF v8))] ?_;obtain rfl:=oi hm;exact q_rt q_rm
def EB (a1:qC) (a2:qC) (r:qC):V:=va [ci r.Low,.own 2 0 2 r.Rows.length]
def AE (a1:qC) (a2:qC) (r:qC):List (Nat×(Nat×O)):=[(0,bx 48 (qJ a1)),(1,bx 48 (qJ a2)),(2,ro 0 64 2 r.Rows.length (rf qF r.Rows))]
def JA (a1:qC) (a2:qC) (x4:Int):St:=
 ⟨[(0,vc (.fn 93 [.bptr 0 0 0,.bptr 1 0 0])),(2,vp 2 0),(3,vp 3 0),(5,vi x4)],[(0,bx 48 (qJ a1)),(1,bx 48 (qJ a2)),(2,bx 48 [ci 0,.emp])]⟩
def FB (a1:qC) (a2:qC) (x4:Int) (x18:Int) (x19:Int) (l20:List Span) (l20n:Nat):St:=
 (JA a1 a2 x4).up [] [(4,vi x18)] [] [(3,bx 48 [ci x19,.own 4 0 2 l20n]),(4,ro 0 64 2 l20n (rf qF l20))]
def qCg (a1:qC) (a2:qC) (x4:Int) (l6:List Span) (v8:Span) (x14:Int):St:=
 (JA a1 a2 x4).up [] [(6,vp 5 0)] [] [(3,bx 48 [ci x14,.own 4 0 2 l6.length]),(4,ro 0 64 2 l6.length (rf qF l6)),(5,bx 64 (qF v8))]
def XA (a1:qC) (a2:qC) (x3:Int) (x4:Int) (x5:Int) (l6:List Span) (l6n:Nat):St:=
 (JA a1 a2 x4).up [] [(4,vi x3)] [] [(3,bx 48 [ci x5,.own 4 0 2 l6n]),(4,ro 0 64 2 l6n (rf qF l6))]
def FG (a1:qC) (a2:qC) (x21:Int) (x22:Int) (l23:List Span):St:=
 ⟨[(2,vp 2 0),(3,vp 3 0),(4,vi x21)],[(0,bx 48 (qJ a1)),(1,bx 48 (qJ a2)),(2,bx 48 [ci 0,.emp]),(3,bx 48 [ci x22,.own 4 0 2 l23.length]),(4,ro 0 64 2 l23.length (rf qF l23))]⟩
theorem qBK (E:Env 2) (a1:qC) (a2:qC):∀(n:Nat) (x3:Int) (x4:Int) (x5:Int) (l6:List Span) (l6n:Nat) (res:Int×Int×(List Span)),l6.length=l6n->zN a1 a2 n x3 x4 x5 l6=some res->HL (kx E 46 2) (nd f80 244) (zH 0 (λo=>FG a1 a2 o.1 o.2.1 o.2.2) res) n (XA a1 a2 x3 x4 x5 l6 l6n):=by
 intro n
 induction n with
 |zero=>
  intro x3 x4 x5 l6 l6n res hl0 hm;cases hm
 |succ n ih=>
  intro x3 x4 x5 l6 l6n res hl0 hm;subst hl0;refine qP (q_sq ?_);refine s_va 5 [(8,vb (decide (x4<60)))] (q_cq hm (λhm=>?_) (λhm=>?_))
  ·refine q_sk (q_jn (ι:=Int×Int×(List Span)×Nat) (λp=>FB a1 a2 x4 p.1 p.2.1 p.2.2.1 p.2.2.2) (λp=>p.2.2.1.length=p.2.2.2/\QE x4 (zN a1 a2 n) p.1 p.2.1 p.2.2.1=some res) ?_ ?_)
   ·rintro⟨x18,x19,l20,l20n⟩ ⟨el20,hm⟩;replace el20:l20.length=l20n:=el20;subst el20;show H _ (FB a1 a2 x4 x18 x19 l20 l20.length) _ _;exact q_vv [] 7 [5] [(5,vi (w64 (x4+1)))] (q_hl (XA a1 a2 x18 (w64 (x4+1)) x19 l20 l20.length) (ih x18 (w64 (x4+1)) x19 l20 l20.length _ rfl hm))
   ·refine q_bk 1 ?_;obtain⟨v8,h9,hm⟩:=qD hm;refine s_vu [qd 2 (dex (cen [(0,0),(1,0)] [0,0] 3 2 (CY x4 a1 a2 v8) (qAs x4 a1 a2 v8) [11,12] [0,1])) (zJ (K:=(kx E 46 2)) ⟨[(11,vc (.fn 93 [.bptr 0 0 0,.bptr 1 0 0])),(12,vi x4)],[(0,bx 48 (qJ a1)),(1,bx 48 (qJ a2))]⟩ (opAt (rg f80 3912) 2) [(0,0),(1,0)] [0,0] 3 o0 rfl (qFt x4 a1 a2 v8 h9) (.inl rfl) (by kernel_rfl))] 5 [8] [(6,vp 5 0)] [] [(5,bx 64 (qF v8))] (q_bk 2 ?_);obtain⟨v10,h11,hm⟩:=qD hm;refine s_vv [qc 1 [15] 6 (jE v8 v10 h11)] 6 [] [(14,vb (!v10))] (q_cq hm (λhm=>?_) (λhm=>?_))
    ·refine q_jn (qCg a1 a2 x4 l6 v8) (λp=>WV x4 l6 (zN a1 a2 n) v8 p=some res) ?_ ?_
     ·rintro x14 hm;obtain⟨g15,hm⟩:=qH hm;refine s_vu [qd 3 (drw 6 0 (rf qF [v8])) (litP qF dd 2 (λ_=>rfl) ([v8]:List Span) 1 rfl),qd 4 (drw 4 1 (rf qF (l6++[v8]))) (apP qF dd l6 ([v8]:List Span) l6.length 1 2 16 (1<=1) (ki _) rfl rfl (λ_=>rfl) (zK g15))] 6 [6] [] [3,4,5] [(3,bx 48 [ci x14,.own 4 1 2 (l6.length+1)]),(4,ro 1 64 2 (l6.length+1) (rf qF (l6++[v8])))] (q_va 7 [(4,vi (((l6.length+1):Nat):Int))] ?_);exact q_J ((((l6.length+1):Nat):Int),x14,(l6++[v8]),(l6.length+1)) ⟨(zA rfl rfl),hm⟩
     ·refine s_vv [] 6 [4,14] [(19,vb (x3==0))] (q_cq hm (λhm=>?_) (λhm=>?_))
      ·exact q_vu [] 6 [19] [] [3] [(3,bx 48 [ci x4,.own 4 0 2 l6.length])] (q_J (x4) hm)
      ·exact q_sk (q_J (x5) hm)
    ·refine s_vu [] 6 [6,14] [(31,vb (decide (x3>0)))] [5] [] (q_cq hm (λhm=>?_) (λhm=>?_))
     ·obtain⟨g17,hm⟩:=qH hm;exact q_vu [qd 3 (drw 6 0 (rf qF [(Span.mk 0 0)])) (litP qF dd 2 (λ_=>rfl) ([(Span.mk 0 0)]:List Span) 1 rfl),qd 4 (drw 4 1 (rf qF (l6++[(Span.mk 0 0)]))) (apP qF dd l6 ([(Span.mk 0 0)]:List Span) l6.length 1 2 16 (1<=1) (ki _) rfl rfl (λ_=>rfl) (zK g17))] 6 [31] [] [3,4] [(3,bx 48 [ci x5,.own 4 1 2 (l6.length+1)]),(4,ro 1 64 2 (l6.length+1) (rf qF (l6++[(Span.mk 0 0)])))] (q_J (x3,x5,(l6++[(Span.mk 0 0)]),(l6.length+1)) ⟨(zA rfl rfl),hm⟩)
     ·exact q_sk (q_J (x3,x5,l6,l6.length) ⟨rfl,hm⟩)
  ·refine q_ex 0 ?_;obtain rfl:=oi hm;exact q_l0
theorem qDK (a1:qC) (a2:qC) (r:qC) (hm:WK a1 a2=some r):CtX Tryz.prog globs 80 2 2 [.one (.fn 93 [.bptr 0 0 0,.bptr 1 0 0])] [(0,bx 48 (qJ a1)),(1,bx 48 (qJ a2))] (EB a1 a2 r) (AE a1 a2 r):=by
 unfold WK at hm;refine q_E f80 46 λE=>?_;refine s_vn [] 2 ⟨[(0,vc (.fn 93 [.bptr 0 0 0,.bptr 1 0 0])),(2,vp 2 0)],[(0,bx 48 (qJ a1)),(1,bx 48 (qJ a2)),(2,bx 48 [ci 0,.emp])]⟩ (s_vu [] 3 [] [(3,vp 3 0)] [] [(3,bx 48 [ci 0,.emp])] ?_);refine s_va 4 [(4,vi 0)] (q_sq ?_);refine s_va 4 [(5,vi (-60))] (q_fu [.ownB 3 1 4 64 2 (rf qF [])] [] [] [3] [(3,bx 48 [ci 0,.own 4 0 2 0]),(4,ro 0 64 2 0 (rf qF []))] o0 ?_);obtain⟨o24,h25,hm⟩:=qD hm
 refine qY (nd f80 244) 0 (by kernel_rfl) FUEL (λo=>FG a1 a2 o.1 o.2.1 o.2.2) o24 (q_hl (XA a1 a2 0 (-60) 0 ([]:List Span) 0) (qBK E a1 a2 FUEL 0 (-60) 0 ([]:List Span) 0 o24 rfl h25)) ?_;obtain⟨g26,hm⟩:=qH hm
 refine s_wu [qd 3 dN (And.intro (qT g26).2.1 (qT g26).2.2)] [.row 4 o24.1.toNat (rf qF (o24.2.2.take o24.1.toNat))] (o1 (tkP qF dd o24.2.2 o24.2.2.length o24.1.toNat (show o24.1.toNat<=o24.2.2.length by have:=(qT g26);omega))) 5 [4] [] [3,4] [(3,bx 48 [ci o24.2.1,.own 4 0 2 o24.1.toNat]),(4,ro 0 64 2 o24.1.toNat (rf qF (o24.2.2.take o24.1.toNat)))] (s_vu [] 5 [3] [] [2,3] [(2,bx 48 [ci o24.2.1,.own 4 0 2 o24.1.toNat])] ?_)
 refine q_fu [.len 4 ((o24.2.2.take o24.1.toNat).length)] [] [] [2,4] [(2,bx 48 [ci o24.2.1,.own 4 0 2 ((o24.2.2.take o24.1.toNat).length)]),(4,ro 0 64 2 ((o24.2.2.take o24.1.toNat).length) (rf qF (o24.2.2.take o24.1.toNat)))] (o1 (And.intro (Eq.symm (show(o24.2.2.take o24.1.toNat).length=o24.1.toNat from(wV rfl (show o24.1.toNat<=o24.2.2.length by have:=(qT g26);omega)))) (Eq.symm (show(o24.2.2.take o24.1.toNat).length=o24.1.toNat from(wV rfl (show o24.1.toNat<=o24.2.2.length by have:=(qT g26);omega)))))) ?_;obtain rfl:=oi hm;exact q_sw 4 2 (q_rt q_rm)
def qJS (r:qC):V:=va [ci r.Low,.own 0 0 2 r.Rows.length]
def qJL (r:qC):List (Nat×(Nat×O)):=[(0,ro 0 64 2 r.Rows.length (rf qF r.Rows))]
theorem qHW (a1:qC) (a2:qC) (r:qC) (hm:XI a1 a2=some r):CtX Tryz.prog globs 45 0 0 [.agg (qJ a1),.agg (qJ a2)] [] (qJS r) (qJL r):=by
 unfold XI at hm;refine q_E f45 11 λE=>?_;refine s_vn [] 0 ⟨[(2,vp 0 0),(3,vp 1 0),(4,vp 2 0)],[(0,bx 48 (qJ a1)),(1,bx 48 (qJ a2)),(2,bx 48 [ci 0,.emp])]⟩ ?_;obtain⟨v3,h4,hm⟩:=qD hm;obtain⟨v5,h6,hm⟩:=qD hm;refine s_du [qc 1 [5] 3 (NB a1 v3 h4),qc 3 [7] 3 (NB a2 v5 h6)] [0,1,0,7,15,31] 3 [] [] [0,1] [(0,bx 48 (qJ v3)),(1,bx 48 (qJ v5))] ?_;obtain⟨v7,h8,hm⟩:=qD hm
 refine s_vn [qd 1 (dex (cen [(0,0),(1,0)] [0,0] 1 2 (EB v3 v5 v7) (AE v3 v5 v7) [9] [0,1])) (zJ (K:=(kx E 11 0)) ⟨[(9,vc (.fn 93 [.bptr 0 0 0,.bptr 1 0 0]))],[(0,bx 48 (qJ v3)),(1,bx 48 (qJ v5))]⟩ (opAt (rg f45 14) 1) [(0,0),(1,0)] [0,0] 1 o0 rfl (qDK v3 v5 v7 h8) (.inl rfl) (by kernel_rfl))] 3 ⟨[(4,vp 2 0)],[(2,bx 48 [ci v7.Low,.own 3 0 2 v7.Rows.length]),(3,ro 0 64 2 v7.Rows.length (rf qF v7.Rows))]⟩ ?_;obtain rfl:=oi hm;exact q_sw 3 0 (q_rt q_rm)
open Go.Proofs Go.Proofs.Tryz
def qIG (r:Bool):V:=vb r
def qId (r:Bool):List (Nat×(Nat×O)):=[]
def qDN (x5:Bool):St:=
 ⟨[(6,vb x5)],[]⟩
theorem QL (a1:Span) (a2:Int) (a3:Int) (r:Bool) (hm:ZI a1 a2 a3=some r):CtX Tryz.prog globs 142 0 0 [.agg (qF a1),.one (ci a2),.one (ci a3)] [] (qIG r) (qId r):=by
 unfold ZI at hm;refine q_E f142 23 λE=>?_;refine s_vn [] 0 ⟨[(1,vi a2),(2,vi a3),(3,vp 0 0)],[(0,bx 64 (qF a1))]⟩ (q_jn (qDN) (λp=>KV p=some r) ?_ ?_)
 ·rintro x5 hm;obtain rfl:=oi hm;exact q_rt q_rm
 ·rcases bif_c hm with⟨b4,hm⟩|⟨b4,hm⟩
  ·exact q_vn [qf 7 b4] 1 ⟨[(6,vb (decide ((imax a1.A a1.B)<=a3)))],[]⟩ (q_J (decide ((imax a1.A a1.B)<=a3)) hm)
  ·exact q_vn [qf 7 b4] 1 ⟨[(6,vb false)],[]⟩ (q_J (false) hm)
end Saw
end Go.SL

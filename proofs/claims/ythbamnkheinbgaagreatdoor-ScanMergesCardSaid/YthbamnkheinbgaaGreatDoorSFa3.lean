import Derived.Test.YthbamnkheinbgaaGreatDoorSBase
import Derived.Test.YthbamnkheinbgaaGreatDoorSFa2
import Derived.Test.YthbamnkheinbgaaGreatDoorSFa1
set_option linter.unusedVariables false
set_option linter.unusedSimpArgs false
namespace Go.SL
namespace Saw
open Go.Proofs Go.Proofs.Tryz
set_option maxHeartbeats 4000000
set_option maxRecDepth 100000
def GT (a1:Int) (a2:Rect) (a3:List qB) (r:Int×Int):V:= .tup [.one (ci r.1),.one (ci r.2)]
def GC (a1:Int) (a2:Rect) (a3:List qB) (r:Int×Int):List (Nat×(Nat×O)):=[(0,bx 190 (ZI a2)),(1,bx 52 [.own 2 0 2 a3.length]),(2,ro 0 71 2 a3.length (rf qE a3))]
def YO (a1:Int) (a2:Rect) (a3:List qB) (x4:Int) (x5:Int) (x6:Int):St:=
 ⟨[(0,vi a1),(2,vp 1 0),(6,vi x4),(7,vi x5),(9,vp 3 0),(10,vp 4 0),(17,vo 2 0 2 a3.length),(18,vi (a3.length:Int)),(19,vi x6)],[(0,bx 190 (ZI a2)),(1,bx 52 [.own 2 0 2 a3.length]),(2,ro 0 71 2 a3.length (rf qE a3)),(3,bx 71 (qE (a3.getD x6.toNat dd))),(4,bx 71 (qE (a3.getD ((Int.tmod (w64 (x6+1)) (a3.length:Int)).toNat) dd)))]⟩
def FD (a1:Int) (a2:Rect) (a3:List qB) (x6:Int) (x23:Int) (x24:Int):St:=
 ⟨[(0,vi a1),(2,vp 1 0),(6,vi x23),(7,vi x24),(17,vo 2 0 2 a3.length),(18,vi (a3.length:Int)),(19,vi x6)],[(0,bx 190 (ZI a2)),(1,bx 52 [.own 2 0 2 a3.length]),(2,ro 0 71 2 a3.length (rf qE a3))]⟩
def qBQ (a1:Int) (a2:Rect) (a3:List qB) (x4:Int) (x5:Int) (x6:Int) (x19:Bool):St:=
 (YO a1 a2 a3 x4 x5 x6).up [] [(69,vb x19)] [] []
def qBI (a1:Int) (a2:Rect) (a3:List qB) (x4:Int) (x5:Int) (x6:Int) (x13:Bool):St:=
 (YO a1 a2 a3 x4 x5 x6).up [] [(32,vb x13)] [] []
def KX (a1:Int) (a2:Rect) (a3:List qB) (x4:Int) (x5:Int) (x6:Int):St:=
 (YO a1 a2 a3 x4 x5 x6).up [9,10] [] [3,4] []
def FA (a2:Rect) (a3:List qB) (x25:Int) (x26:Int):St:=
 ⟨[(6,vi x25),(7,vi x26)],[(0,bx 190 (ZI a2)),(1,bx 52 [.own 2 0 2 a3.length]),(2,ro 0 71 2 a3.length (rf qE a3))]⟩
theorem qAZ (E:Env 3) (a1:Int) (a2:Rect) (a3:List qB):∀(n:Nat) (x4:Int) (x5:Int) (x6:Int) (res:Int×Int),wL a1 a3 n x4 x5 x6=some res->HL (kx E 109 2) (nd f178 116) (zL 0 (λo=>FA a2 a3 o.1 o.2) res) n (KX a1 a2 a3 x4 x5 x6):=by
 intro n
 induction n with
 |zero=>
  intro x4 x5 x6 res hm;cases hm
 |succ n ih=>
  intro x4 x5 x6 res hm;refine qQ (s_va 3 [(20,vb (decide (x6<(a3.length:Int))))] ?_);refine q_sq (q_cq hm (λhm=>?_) (λhm=>?_))
  ·refine q_sk (q_jn (ι:=Int×Int) (λp=>FD a1 a2 a3 x6 p.1 p.2) (λp=>YX x6 (wL a1 a3 n) p.1 p.2=some res) ?_ ?_)
   ·rintro⟨x23,x24⟩ hm;show H _ (FD a1 a2 a3 x6 x23 x24) _ _;exact q_vv [] 5 [19] [(19,vi (w64 (x6+1)))] (q_hl (KX a1 a2 a3 x23 x24 (w64 (x6+1))) (ih x23 x24 (w64 (x6+1)) _ hm))
   ·refine q_bk 1 ?_;obtain⟨g8,hm⟩:=qJ hm;refine s_vu [qi 1 g8,qd 2 dN (qY (zF g8))] 3 [20] [(8,vi x6),(9,vp 3 0)] [] [(3,bx 71 (qE (a3.getD x6.toNat dd)))] ?_;obtain⟨g9,hm⟩:=qJ hm;obtain⟨g10,hm⟩:=qJ hm;refine s_du [qd 5 dN (FR g9),qi 6 g10,qd 7 dN (qY (zF g10))] [0,0,2,0,8,30,63,127,0,511] 4 [8] [(10,vp 4 0)] [] [(4,bx 71 (qE (a3.getD ((Int.tmod (w64 (x6+1)) (a3.length:Int)).toNat) dd)))] (q_bk 2 ?_);refine q_jn (qBI a1 a2 a3 x4 x5 x6) (λp=>YT a1 a3 x4 x5 x6 (wL a1 a3 n) p=some res) ?_ ?_
    ·rintro x13 hm;refine q_cq hm (λhm=>?_) (λhm=>?_)
     ·obtain⟨v15,h16,hm⟩:=qG hm;exact q_du [qc 17 [61,66] 5 (CO (w64 ((w64 (((a3.getD ((Int.tmod (w64 (x6+1)) (a3.length:Int)).toNat) dd).X)-((a3.getD x6.toNat dd).X)))*(w64 (a1-((a3.getD x6.toNat dd).Y))))) (w64 (((a3.getD ((Int.tmod (w64 (x6+1)) (a3.length:Int)).toNat) dd).Y)-((a3.getD x6.toNat dd).Y))) v15 h16)] [0,1,0,4,0,16,60,0,0,256,896,2044,0,4096,0,16384,61440,131068,262143,524287] 5 [7,9,10,32] [(7,vi (w64 (((a3.getD x6.toNat dd).X)+v15)))] [3,4] [] (q_J (x4,w64 (((a3.getD x6.toNat dd).X)+v15)) hm)
     ·refine q_jn (qBQ a1 a2 a3 x4 x5 x6) (λp=>YS a1 a3 x4 x5 x6 (wL a1 a3 n) p=some res) ?_ ?_
      ·rintro x19 hm;refine q_cq hm (λhm=>?_) (λhm=>?_)
       ·obtain⟨v21,h22,hm⟩:=qG hm
        exact q_du [qc 17 [98,103] 5 (CO (w64 ((w64 (((a3.getD ((Int.tmod (w64 (x6+1)) (a3.length:Int)).toNat) dd).X)-((a3.getD x6.toNat dd).X)))*(w64 (a1-((a3.getD ((Int.tmod (w64 (x6+1)) (a3.length:Int)).toNat) dd).Y))))) (w64 (((a3.getD x6.toNat dd).Y)-((a3.getD ((Int.tmod (w64 (x6+1)) (a3.length:Int)).toNat) dd).Y))) v21 h22)] [0,1,0,4,0,16,60,0,0,256,896,2044,0,4096,0,16384,61440,131068,262143,524287] 5 [6,9,10,69] [(6,vi (w64 (((a3.getD ((Int.tmod (w64 (x6+1)) (a3.length:Int)).toNat) dd).X)-v21)))] [3,4] [] (q_J (w64 (((a3.getD ((Int.tmod (w64 (x6+1)) (a3.length:Int)).toNat) dd).X)-v21),x5) hm)
       ·exact q_sk (q_J (x4,x5) hm)
      ·rcases bif_c hm with⟨b17,hm⟩|⟨b17,hm⟩
       ·rcases bif_c hm with⟨b18,hm⟩|⟨b18,hm⟩
        ·exact q_vv [qf 5 b17,qf 11 b18] 5 [32] [(69,vb (decide (a1<=((a3.getD x6.toNat dd).Y))))] (q_J (decide (a1<=((a3.getD x6.toNat dd).Y))) hm)
        ·exact q_vv [qf 5 b17,qf 11 b18] 5 [32] [(69,vb false)] (q_J (false) hm)
       ·exact q_vv [qf 5 b17] 5 [32] [(69,vb false)] (q_J (false) hm)
    ·rcases bif_c hm with⟨b11,hm⟩|⟨b11,hm⟩
     ·rcases bif_c hm with⟨b12,hm⟩|⟨b12,hm⟩
      ·exact q_vv [qf 5 b11,qf 11 b12] 5 [] [(32,vb (decide (a1<=((a3.getD ((Int.tmod (w64 (x6+1)) (a3.length:Int)).toNat) dd).Y))))] (q_J (decide (a1<=((a3.getD ((Int.tmod (w64 (x6+1)) (a3.length:Int)).toNat) dd).Y))) hm)
      ·exact q_vv [qf 5 b11,qf 11 b12] 5 [] [(32,vb false)] (q_J (false) hm)
     ·exact q_vv [qf 5 b11] 5 [] [(32,vb false)] (q_J (false) hm)
  ·refine q_ex 0 ?_;obtain rfl:=oi hm;exact q_l0
theorem EQ (a1:Int) (a2:Rect) (a3:List qB) (r:Int×Int) (hm:UG a1 a2 a3=some r):CtX Tryz.prog globs 178 3 2 [.one (ci a1),.one (.bptr 0 0 0),.one (.bptr 1 0 0)] [(0,bx 190 (ZI a2)),(1,bx 52 [.own 2 0 2 a3.length]),(2,ro 0 71 2 a3.length (rf qE a3))] (GT a1 a2 a3 r) (GC a1 a2 a3 r):=by
 unfold UG at hm;refine q_E f178 109 λE=>?_;refine s_vn [] 3 ⟨[(0,vi a1),(1,vp 0 0),(2,vp 1 0)],[(0,bx 190 (ZI a2)),(1,bx 52 [.own 2 0 2 a3.length]),(2,ro 0 71 2 a3.length (rf qE a3))]⟩ (s_du [] [0,1,3,0,8,24,7,127] 3 [1] [(6,vi a2.X.A),(7,vi a2.X.B)] [] [] ?_);refine q_sq (s_va 3 [(17,vo 2 0 2 a3.length),(18,vi (a3.length:Int)),(19,vi 0)] ?_);obtain⟨o27,h28,hm⟩:=qG hm;refine zI (nd f178 116) 0 (by kernel_rfl) FUEL (λo=>FA a2 a3 o.1 o.2) o27 (q_hl (KX a1 a2 a3 a2.X.A a2.X.B 0) (qAZ E a1 a2 a3 FUEL a2.X.A a2.X.B 0 o27 h28)) (s_vv [] 3 [6,7] [(4,vi o27.1),(5,vi o27.2)] ?_)
 obtain rfl:=oi hm;exact q_rt q_rm
def qGA (r:Span):V:=va (qL r)
def qG6 (r:Span):List (Nat×(Nat×O)):=[]
def qDA (a2:Int) (a3:Int) (v4:(List qB)) (v6:Rect) (x11:Bool):St:=
 ⟨[(1,vi a2),(2,vi a3),(6,vp 0 0),(7,vp 2 0),(8,vp 3 0),(40,vb x11)],[(0,bx 64 [ci 0,ci 0]),(1,ro 0 71 2 v4.length (rf qE v4)),(2,bx 52 [.own 1 0 2 v4.length]),(3,bx 190 (ZI v6))]⟩
theorem qFT (a1:List qB) (a2:Int) (a3:Int) (r:Span) (hm:CA a1 a2 a3=some r):CtX Tryz.prog globs 149 0 0 [.one (tl qE dd a1),.one (ci a2),.one (ci a3)] [] (qGA r) (qG6 r):=by
 unfold CA at hm;refine q_E f149 69 λE=>?_;refine s_vn [] 0 ⟨[(0,vc (tl qE dd a1)),(1,vi a2),(2,vi a3),(6,vp 0 0)],[(0,bx 64 [ci 0,ci 0])]⟩ ?_;obtain⟨v4,h5,hm⟩:=qG hm;refine s_vu [qc 1 [15] 1 (qGv a1 v4 h5)] 1 [0] [(7,vp 2 0)] [] [(1,ro 0 71 2 v4.length (rf qE v4)),(2,bx 52 [.own 1 0 2 v4.length])] ?_;obtain⟨v6,h7,hm⟩:=qG hm
 refine s_vu [qd 1 (dex (cen [] [] 3 0 (CQ v6) (PY v6) [17] [1])) (zG (K:=(kx E 69 0)) (b:=false) ⟨[(17,vo 1 0 2 v4.length)],[(1,ro 0 71 2 v4.length (rf qE v4))]⟩ (opAt (rg f149 14) 1) [] [] 3 (o1 (kg v4.length)) rfl (qEu v4 v6 h7) (.inr ⟨(by kernel_rfl),qFC v6⟩) (by kernel_rfl))] 3 [] [(8,vp 3 0)] [] [(3,bx 190 (ZI v6))] (q_sq ?_);refine q_jn (qDA a2 a3 v4 v6) (λp=>JM a2 a3 v4 v6 p=some r) ?_ ?_
 ·rintro x11 hm;refine q_cq hm (λhm=>?_) (λhm=>?_)
  ·refine s_vu [] 4 [1,2,7,8,40] [] [1,2,3] [] ?_;obtain rfl:=oi hm;exact q_rt q_rm
  ·refine q_sk (s_vv [] 4 [7,8,40] [(9,vc (.fn 178 [.bptr 3 0 0,.bptr 2 0 0]))] ?_);obtain⟨v13,h14,hm⟩:=qG hm
   refine s_vu [qd 2 (dex (cen [(3,0),(2,0),(1,0)] [0,0,1] 1 2 (GT a2 v6 v4 v13) (GC a2 v6 v4 v13) [44,45] [3,2,1])) (zG (K:=(kx E 69 0)) ⟨[(44,vc (.fn 178 [.bptr 3 0 0,.bptr 2 0 0])),(45,vi a2)],[(3,bx 190 (ZI v6)),(2,bx 52 [.own 1 0 2 v4.length]),(1,ro 0 71 2 v4.length (rf qE v4))]⟩ (opAt (rg f149 126) 2) [(3,0),(2,0),(1,0)] [0,0,1] 1 o0 rfl (EQ a2 v6 v4 v13 h14) (.inl rfl) (by kernel_rfl))] 4 [1] [(10,vi v13.1),(11,vi v13.2)] [1,2] [(1,ro 1 71 2 v4.length (rf qE v4)),(2,bx 52 [.own 1 1 2 v4.length])] ?_;obtain⟨v15,h16,hm⟩:=qG hm
   refine s_vu [qd 2 (dex (cen [(3,0),(2,0),(1,1)] [0,0,2] 1 2 (GT a3 v6 v4 v15) (GC a3 v6 v4 v15) [50,51] [3,2,1])) (zG (K:=(kx E 69 0)) ⟨[(50,vc (.fn 178 [.bptr 3 0 0,.bptr 2 0 0])),(51,vi a3)],[(3,bx 190 (ZI v6)),(2,bx 52 [.own 1 1 2 v4.length]),(1,ro 1 71 2 v4.length (rf qE v4))]⟩ (opAt (rg f149 254) 2) [(3,0),(2,0),(1,1)] [0,0,2] 1 o0 rfl (EQ a3 v6 v4 v15 h16) (.inl rfl) (by kernel_rfl))] 4 [2,9] [(12,vi v15.1),(13,vi v15.2)] [1,2,3] [] (s_vu [] 4 [10,11,12,13] [(14,vp 4 0)] [] [(4,bx 64 [ci (imax v13.1 v15.1),ci (imin v13.2 v15.2)])] ?_)
   refine q_sq (s_va 5 [(66,vb (decide ((imax v13.1 v15.1)≥(imin v13.2 v15.2))))] ?_);refine q_cq hm (λhm=>?_) (λhm=>?_)
   ·refine s_vu [] 5 [14,66] [] [4] [] ?_;obtain rfl:=oi hm;exact q_rt q_rm
   ·refine q_sk (s_vn [] 5 ⟨[(6,vp 0 0)],[(0,bx 64 [ci (imax v13.1 v15.1),ci (imin v13.2 v15.2)])]⟩ ?_);obtain rfl:=oi hm;exact q_rt q_rm
 ·rcases bif_c hm with⟨b8,hm⟩|⟨b8,hm⟩
  ·exact q_vv [qf 3 b8] 4 [] [(40,vb true)] (q_J (true) hm)
  ·rcases bif_c hm with⟨b9,hm⟩|⟨b9,hm⟩
   ·exact q_vv [qf 3 b8,qf 8 b9] 4 [] [(40,vb true)] (q_J (true) hm)
   ·rcases bif_c hm with⟨b10,hm⟩|⟨b10,hm⟩
    ·exact q_vv [qf 3 b8,qf 8 b9,qf 15 b10] 4 [] [(40,vb true)] (q_J (true) hm)
    ·exact q_vv [qf 3 b8,qf 8 b9,qf 15 b10] 4 [] [(40,vb (decide (a3>v6.Y.B)))] (q_J (decide (a3>v6.Y.B)) hm)
def IG (a1:Int) (a2:List qB) (r:Span):V:=va (qL r)
def IF (a1:Int) (a2:List qB) (r:Span):List (Nat×(Nat×O)):=[(0,bx 52 [tl qE dd a2])]
theorem qDj (a1:Int) (a2:List qB) (r:Span) (hm:MJ a1 a2=some r):CtX Tryz.prog globs 147 1 1 [.one (ci a1),.one (.bptr 0 0 0)] [(0,bx 52 [tl qE dd a2])] (IG a1 a2 r) (IF a1 a2 r):=by
 unfold MJ at hm;refine q_E f147 15 λE=>?_;refine s_vn [] 1 ⟨[(0,vi a1),(1,vp 0 0),(3,vp 1 0)],[(0,bx 52 [tl qE dd a2]),(1,bx 64 [ci 0,ci 0])]⟩ ?_;obtain⟨v3,h4,hm⟩:=qG hm;refine s_vu [qc 3 [5,7] 2 (qAl a1 (w64 (a1+1)) v3 h4)] 2 [0] [(4,vp 2 0)] [] [(2,bx 64 (qL v3))] ?_;obtain⟨v5,h6,hm⟩:=qG hm;refine s_vu [qc 5 [9,11,13] 3 (qFT a2 v3.A v3.B v5 h6)] 3 [1,4] [] [1,2] [(1,bx 64 (qL v5))] ?_;obtain rfl:=oi hm;exact q_rt q_rm
open Go.Proofs Go.Proofs.Tryz
def qBX (r:Bool):V:=vb r
def qBw (r:Bool):List (Nat×(Nat×O)):=[]
theorem wB (a1:Span) (r:Bool) (hm:jE a1=some r):CtX Tryz.prog globs 118 0 0 [.agg (qL a1)] [] (qBX r) (qBw r):=by
 unfold jE at hm;refine q_E f118 8 λE=>?_;refine s_vn [] 0 ⟨[(1,vp 0 0)],[(0,bx 64 (qL a1))]⟩ (s_vn [] 1 ⟨[(2,vb (decide (a1.A≥a1.B)))],[]⟩ ?_);obtain rfl:=oi hm;exact q_rt q_rm
def ER (a1:List qB) (r:qK):V:=va [ci r.Low,.own 1 0 2 r.Rows.length]
def EH (a1:List qB) (r:qK):List (Nat×(Nat×O)):=[(0,bx 52 [tl qE dd a1]),(1,ro 0 64 2 r.Rows.length (rf qL r.Rows))]
def JE (a1:List qB) (x3:Int):St:=
 ⟨[(0,vc (.fn 147 [.bptr 0 0 0])),(2,vp 1 0),(3,vp 2 0),(5,vi x3)],[(0,bx 52 [tl qE dd a1]),(1,bx 48 [ci 0,.emp])]⟩
def DY (a1:List qB) (x3:Int) (x17:Int) (x18:Int) (l19:List Span) (l19n:Nat):St:=
 (JE a1 x3).up [] [(4,vi x17)] [] [(2,bx 48 [ci x18,.own 3 0 2 l19n]),(3,ro 0 64 2 l19n (rf qL l19))]
def qAs (a1:List qB) (x3:Int) (l5:List Span) (v7:Span) (x13:Int):St:=
 (JE a1 x3).up [] [(6,vp 4 0)] [] [(2,bx 48 [ci x13,.own 3 0 2 l5.length]),(3,ro 0 64 2 l5.length (rf qL l5)),(4,bx 64 (qL v7))]
def XS (a1:List qB) (x2:Int) (x3:Int) (x4:Int) (l5:List Span) (l5n:Nat):St:=
 (JE a1 x3).up [] [(4,vi x2)] [] [(2,bx 48 [ci x4,.own 3 0 2 l5n]),(3,ro 0 64 2 l5n (rf qL l5))]
def BE (a1:List qB) (x20:Int) (x21:Int) (l22:List Span):St:=
 ⟨[(2,vp 1 0),(3,vp 2 0),(4,vi x20)],[(0,bx 52 [tl qE dd a1]),(1,bx 48 [ci 0,.emp]),(2,bx 48 [ci x21,.own 3 0 2 l22.length]),(3,ro 0 64 2 l22.length (rf qL l22))]⟩
theorem qAh (E:Env 1) (a1:List qB):∀(n:Nat) (x2:Int) (x3:Int) (x4:Int) (l5:List Span) (l5n:Nat) (res:Int×Int×(List Span)),l5.length=l5n->wC a1 n x2 x3 x4 l5=some res->HL (kx E 46 1) (nd f80 244) (zL 0 (λo=>BE a1 o.1 o.2.1 o.2.2) res) n (XS a1 x2 x3 x4 l5 l5n):=by
 intro n
 induction n with
 |zero=>
  intro x2 x3 x4 l5 l5n res hl0 hm;cases hm
 |succ n ih=>
  intro x2 x3 x4 l5 l5n res hl0 hm;subst hl0;refine qQ (q_sq ?_);refine s_va 4 [(8,vb (decide (x3<60)))] (q_cq hm (λhm=>?_) (λhm=>?_))
  ·refine q_sk (q_jn (ι:=Int×Int×(List Span)×Nat) (λp=>DY a1 x3 p.1 p.2.1 p.2.2.1 p.2.2.2) (λp=>p.2.2.1.length=p.2.2.2/\JH x3 (wC a1 n) p.1 p.2.1 p.2.2.1=some res) ?_ ?_)
   ·rintro⟨x17,x18,l19,l19n⟩ ⟨el19,hm⟩;replace el19:l19.length=l19n:=el19;subst el19;show H _ (DY a1 x3 x17 x18 l19 l19.length) _ _;exact q_vv [] 6 [5] [(5,vi (w64 (x3+1)))] (q_hl (XS a1 x17 (w64 (x3+1)) x18 l19 l19.length) (ih x17 (w64 (x3+1)) x18 l19 l19.length _ rfl hm))
   ·refine q_bk 1 ?_;obtain⟨v7,h8,hm⟩:=qG hm;refine s_vu [qd 2 (dex (cen [(0,0)] [0] 3 1 (IG x3 a1 v7) (IF x3 a1 v7) [11,12] [0])) (zG (K:=(kx E 46 1)) ⟨[(11,vc (.fn 147 [.bptr 0 0 0])),(12,vi x3)],[(0,bx 52 [tl qE dd a1])]⟩ (opAt (rg f80 3912) 2) [(0,0)] [0] 3 o0 rfl (qDj x3 a1 v7 h8) (.inl rfl) (by kernel_rfl))] 4 [8] [(6,vp 4 0)] [] [(4,bx 64 (qL v7))] (q_bk 2 ?_);obtain⟨v9,h10,hm⟩:=qG hm;refine s_vv [qc 1 [15] 5 (wB v7 v9 h10)] 5 [] [(14,vb (!v9))] (q_cq hm (λhm=>?_) (λhm=>?_))
    ·refine q_jn (qAs a1 x3 l5 v7) (λp=>RX x3 l5 (wC a1 n) v7 p=some res) ?_ ?_
     ·rintro x13 hm;obtain⟨g14,hm⟩:=qJ hm;refine s_vu [qd 3 (drw 5 0 (rf qL [v7])) (litP qL dd 2 (λ_=>rfl) ([v7]:List Span) 1 rfl),qd 4 (drw 3 1 (rf qL (l5++[v7]))) (apP qL dd l5 ([v7]:List Span) l5.length 1 2 16 (1<=1) (kg _) rfl rfl (λ_=>rfl) (zK g14))] 5 [6] [] [2,3,4] [(2,bx 48 [ci x13,.own 3 1 2 (l5.length+1)]),(3,ro 1 64 2 (l5.length+1) (rf qL (l5++[v7])))] (q_va 6 [(4,vi (((l5.length+1):Nat):Int))] ?_);exact q_J ((((l5.length+1):Nat):Int),x13,(l5++[v7]),(l5.length+1)) ⟨(zN rfl rfl),hm⟩
     ·refine s_vv [] 5 [4,14] [(19,vb (x2==0))] (q_cq hm (λhm=>?_) (λhm=>?_))
      ·exact q_vu [] 5 [19] [] [2] [(2,bx 48 [ci x3,.own 3 0 2 l5.length])] (q_J (x3) hm)
      ·exact q_sk (q_J (x4) hm)
    ·refine s_vu [] 5 [6,14] [(31,vb (decide (x2>0)))] [4] [] (q_cq hm (λhm=>?_) (λhm=>?_))
     ·obtain⟨g16,hm⟩:=qJ hm;exact q_vu [qd 3 (drw 5 0 (rf qL [(Span.mk 0 0)])) (litP qL dd 2 (λ_=>rfl) ([(Span.mk 0 0)]:List Span) 1 rfl),qd 4 (drw 3 1 (rf qL (l5++[(Span.mk 0 0)]))) (apP qL dd l5 ([(Span.mk 0 0)]:List Span) l5.length 1 2 16 (1<=1) (kg _) rfl rfl (λ_=>rfl) (zK g16))] 5 [31] [] [2,3] [(2,bx 48 [ci x4,.own 3 1 2 (l5.length+1)]),(3,ro 1 64 2 (l5.length+1) (rf qL (l5++[(Span.mk 0 0)])))] (q_J (x2,x4,(l5++[(Span.mk 0 0)]),(l5.length+1)) ⟨(zN rfl rfl),hm⟩)
     ·exact q_sk (q_J (x2,x4,l5,l5.length) ⟨rfl,hm⟩)
  ·refine q_ex 0 ?_;obtain rfl:=oi hm;exact q_l0
theorem qCg (a1:List qB) (r:qK) (hm:NE a1=some r):CtX Tryz.prog globs 80 1 1 [.one (.fn 147 [.bptr 0 0 0])] [(0,bx 52 [tl qE dd a1])] (ER a1 r) (EH a1 r):=by
 unfold NE at hm;refine q_E f80 46 λE=>?_;refine s_vn [] 1 ⟨[(0,vc (.fn 147 [.bptr 0 0 0])),(2,vp 1 0)],[(0,bx 52 [tl qE dd a1]),(1,bx 48 [ci 0,.emp])]⟩ (s_vu [] 2 [] [(3,vp 2 0)] [] [(2,bx 48 [ci 0,.emp])] ?_);refine s_va 3 [(4,vi 0)] (q_sq ?_);refine s_va 3 [(5,vi (-60))] (q_fu [.ownB 2 1 3 64 2 (rf qL [])] [] [] [2] [(2,bx 48 [ci 0,.own 3 0 2 0]),(3,ro 0 64 2 0 (rf qL []))] o0 ?_);obtain⟨o23,h24,hm⟩:=qG hm;refine zI (nd f80 244) 0 (by kernel_rfl) FUEL (λo=>BE a1 o.1 o.2.1 o.2.2) o23 (q_hl (XS a1 0 (-60) 0 ([]:List Span) 0) (qAh E a1 FUEL 0 (-60) 0 ([]:List Span) 0 o23 rfl h24)) ?_
 obtain⟨g25,hm⟩:=qJ hm;refine s_wu [qd 3 dN (And.intro (zA g25).2.1 (zA g25).2.2)] [.row 3 o23.1.toNat (rf qL (o23.2.2.take o23.1.toNat))] (o1 (tkP qL dd o23.2.2 o23.2.2.length o23.1.toNat (show o23.1.toNat<=o23.2.2.length by have:=(zA g25);omega))) 4 [4] [] [2,3] [(2,bx 48 [ci o23.2.1,.own 3 0 2 o23.1.toNat]),(3,ro 0 64 2 o23.1.toNat (rf qL (o23.2.2.take o23.1.toNat)))] (s_vu [] 4 [3] [] [1,2] [(1,bx 48 [ci o23.2.1,.own 3 0 2 o23.1.toNat])] ?_)
 refine q_fu [.len 3 ((o23.2.2.take o23.1.toNat).length)] [] [] [1,3] [(1,bx 48 [ci o23.2.1,.own 3 0 2 ((o23.2.2.take o23.1.toNat).length)]),(3,ro 0 64 2 ((o23.2.2.take o23.1.toNat).length) (rf qL (o23.2.2.take o23.1.toNat)))] (o1 (And.intro (Eq.symm (show(o23.2.2.take o23.1.toNat).length=o23.1.toNat from(JA rfl (show o23.1.toNat<=o23.2.2.length by have:=(zA g25);omega)))) (Eq.symm (show(o23.2.2.take o23.1.toNat).length=o23.1.toNat from(JA rfl (show o23.1.toNat<=o23.2.2.length by have:=(zA g25);omega)))))) ?_;obtain rfl:=oi hm;exact q_sw 3 1 (q_rt q_rm)
def qAm (r:qK×Int):V:= .tup [.agg [ci r.1.Low,.own 0 0 2 r.1.Rows.length],.one (ci r.2)]
def UX (r:qK×Int):List (Nat×(Nat×O)):=[(0,ro 0 64 2 r.1.Rows.length (rf qL r.1.Rows))]
theorem qHf (r:qK×Int):yS (UX r):=by
 intro i k o h;unfold UX at h;rw[look_cons] at h;split at h
 ·cases h;exact λ_ _=>rfl
 ·cases h
theorem qFQ (a1:List qB) (r:qK×Int) (hm:OK a1=some r):CtX Tryz.prog globs 92 0 0 [.one (tl qE dd a1)] [] (qAm r) (UX r):=by
 unfold OK at hm;refine q_E f92 20 λE=>?_;refine s_vn [] 0 ⟨[(1,vp 0 0),(2,vp 1 0)],[(0,bx 52 [tl qE dd a1]),(1,bx 48 [ci 0,.emp])]⟩ (q_sq ?_);obtain⟨v2,h3,hm⟩:=qG hm;refine s_vv [qc 1 [6] 2 (qFM a1 v2 h3)] 2 [] [(4,vi v2)] (s_va 2 [(9,vb (v2 !=0))] ?_);refine q_cq hm (λhm=>?_) (λhm=>?_)
 ·refine s_vu [] 2 [1,4,9] [(3,vi v2)] [0] [] (q_fu [.ownB 1 1 2 64 2 (rf qL [])] [] [] [1] [(1,bx 48 [ci 0,.own 2 0 2 0]),(2,ro 0 64 2 0 (rf qL []))] o0 ?_);refine q_fu [.len 2 (([]:List Span).length)] [] [] [1,2] [(1,bx 48 [ci 0,.own 2 0 2 (([]:List Span).length)]),(2,ro 0 64 2 (([]:List Span).length) (rf qL []))] (o1 (And.intro (show 0=([]:List Span).length from rfl) (show 0=([]:List Span).length from rfl))) ?_;obtain rfl:=oi hm;exact q_sw 2 0 (q_rt q_rm)
 ·refine q_sk ?_;obtain⟨v5,h6,hm⟩:=qG hm;refine s_vu [qd 1 (dex (cen [(0,0)] [0] 1 1 (ER a1 v5) (EH a1 v5) [12] [0])) (zG (K:=(kx E 20 0)) ⟨[(12,vc (.fn 147 [.bptr 0 0 0]))],[(0,bx 52 [tl qE dd a1])]⟩ (opAt (rg f92 14) 1) [(0,0)] [0] 1 o0 rfl (qCg a1 v5 h6) (.inl rfl) (by kernel_rfl))] 2 [1,4,9] [(5,vp 3 0)] [0] [(2,ro 0 64 2 v5.Rows.length (rf qL v5.Rows)),(3,bx 48 [ci v5.Low,.own 2 0 2 v5.Rows.length])] (q_sq ?_);refine s_va 4 [(17,vb ((v5.Rows.length:Int)==0))] (q_cq hm (λhm=>?_) (λhm=>?_))
  ·refine s_vu [] 4 [5,17] [(3,vi 18)] [2,3] [] (q_fu [.ownB 1 1 4 64 2 (rf qL [])] [] [] [1] [(1,bx 48 [ci 0,.own 4 0 2 0]),(4,ro 0 64 2 0 (rf qL []))] o0 ?_);refine q_fu [.len 4 (([]:List Span).length)] [] [] [1,4] [(1,bx 48 [ci 0,.own 4 0 2 (([]:List Span).length)]),(4,ro 0 64 2 (([]:List Span).length) (rf qL []))] (o1 (And.intro (show 0=([]:List Span).length from rfl) (show 0=([]:List Span).length from rfl))) ?_;obtain rfl:=oi hm;exact q_sw 4 0 (q_rt q_rm)
  ·refine q_sk (s_vu [] 4 [5,17] [(3,vi 0)] [1,3] [(1,bx 48 [ci v5.Low,.own 2 0 2 v5.Rows.length])] ?_);obtain rfl:=oi hm;exact q_sw 2 0 (q_rt q_rm)
open Go.Proofs Go.Proofs.Tryz
def qCT (r:qK×Int):V:= .tup [.agg [ci r.1.Low,.own 0 0 2 r.1.Rows.length],.one (ci r.2)]
def qCb (r:qK×Int):List (Nat×(Nat×O)):=[(0,ro 0 64 2 r.1.Rows.length (rf qL r.1.Rows))]
theorem qBz (a1:Ring) (a2:Int) (a3:Int) (r:qK×Int) (hm:GH a1 a2 a3=some r):CtX Tryz.prog globs 44 0 0 [.agg (qH a1),.one (ci a2),.one (ci a3)] [] (qCT r) (qCb r):=by
 unfold GH at hm;refine q_E f44 26 λE=>?_;refine s_vn [] 0 ⟨[(1,vi a2),(2,vi a3),(3,vp 0 0),(6,vp 1 0)],[(0,bx 45 (qH a1)),(1,bx 48 [ci 0,.emp])]⟩ ?_;obtain⟨v4,h5,hm⟩:=qG hm;obtain⟨v6,h7,hm⟩:=qG hm
 refine s_vu [qc 2 [11,12] 2 (qFB a1 a2 v4 h5),qd 4 (dex (cen [] [] 3 0 (CV v6) (PU v6) [13,14] [2])) (zG (K:=(kx E 26 0)) (b:=false) ⟨[(13,va [ci v4.Z,.own 2 0 3 v4.Read.length]),(14,vi a3)],[(2,ro 0 73 3 v4.Read.length (rf qF v4.Read))]⟩ (opAt (rg f44 6) 4) [] [] 3 (o1 (kg v4.Read.length)) rfl (qEa (Ring.mk v4.Z v4.Read) a3 v6 h7) (.inr ⟨(by kernel_rfl),qFl v6⟩) (by kernel_rfl))] 2 [1,2,3] [(8,vo 3 0 2 v6.1.length),(9,vi v6.2)] [0] [(3,ro 0 71 2 v6.1.length (rf qE v6.1))] (q_sq ?_);refine s_va 4 [(19,vb (v6.2 !=0))] (q_cq hm (λhm=>?_) (λhm=>?_))
 ·refine s_vu [] 4 [8,9,19] [(7,vi v6.2)] [3] [] (q_fu [.ownB 1 1 4 64 2 (rf qL [])] [] [] [1] [(1,bx 48 [ci 0,.own 4 0 2 0]),(4,ro 0 64 2 0 (rf qL []))] o0 ?_);refine q_fu [.len 4 (([]:List Span).length)] [] [] [1,4] [(1,bx 48 [ci 0,.own 4 0 2 (([]:List Span).length)]),(4,ro 0 64 2 (([]:List Span).length) (rf qL []))] (o1 (And.intro (show 0=([]:List Span).length from rfl) (show 0=([]:List Span).length from rfl))) ?_;obtain rfl:=oi hm;exact q_sw 4 0 (q_rt q_rm)
 ·refine q_sk ?_;obtain⟨v9,h10,hm⟩:=qG hm;refine s_vn [qd 1 (dex (cen [] [] 4 0 (qAm v9) (UX v9) [22] [3])) (zG (K:=(kx E 26 0)) (b:=false) ⟨[(22,vo 3 0 2 v6.1.length)],[(3,ro 0 71 2 v6.1.length (rf qE v6.1))]⟩ (opAt (rg f44 30) 1) [] [] 4 (o1 (kg v6.1.length)) rfl (qFQ v6.1 v9 h10) (.inr ⟨(by kernel_rfl),qHf v9⟩) (by kernel_rfl))] 4 ⟨[(6,vp 1 0),(7,vi v9.2)],[(1,bx 48 [ci v9.1.Low,.own 4 0 2 v9.1.Rows.length]),(4,ro 0 64 2 v9.1.Rows.length (rf qL v9.1.Rows))]⟩ ?_;obtain rfl:=oi hm;exact q_sw 4 0 (q_rt q_rm)
def qBR (r:Bool):V:=vb r
def qBH (r:Bool):List (Nat×(Nat×O)):=[]
def CG (x3:Bool):St:=
 ⟨[(2,vb x3)],[]⟩
theorem qAq (a1:Span) (r:Bool) (hm:UH a1=some r):CtX Tryz.prog globs 117 0 0 [.agg (qL a1)] [] (qBR r) (qBH r):=by
 unfold UH at hm;refine q_E f117 17 λE=>?_;refine s_vn [] 0 ⟨[(1,vp 0 0)],[(0,bx 64 (qL a1))]⟩ (q_jn (CG) (λp=>XM p=some r) ?_ ?_)
 ·rintro x3 hm;obtain rfl:=oi hm;exact q_rt q_rm
 ·rcases bif_c hm with⟨b2,hm⟩|⟨b2,hm⟩
  ·exact q_vn [qf 6 b2] 1 ⟨[(2,vb (decide ((imax a1.A a1.B)<=600)))],[]⟩ (q_J (decide ((imax a1.A a1.B)<=600)) hm)
  ·exact q_vn [qf 6 b2] 1 ⟨[(2,vb false)],[]⟩ (q_J (false) hm)
def ZO (r:Int):V:=vi r
def ZQ (r:Int):List (Nat×(Nat×O)):=[]
def XR (a1:qK) (x6:Int):St:=
 ⟨[(1,vp 0 0),(3,vi (a1.Rows.length:Int)),(24,vc (tl qL dd a1.Rows)),(25,vi (a1.Rows.length:Int)),(26,vi x6)],[(0,bx 48 (qP a1))]⟩
def BC (a1:qK):St:=
 ⟨[(1,vp 0 0),(3,vi (a1.Rows.length:Int))],[(0,bx 48 (qP a1))]⟩
def qAR (a1:qK) (x27:Int) (x33:Bool):St:=
 ⟨[(54,vc (tl qL dd a1.Rows)),(55,vi (a1.Rows.length:Int)),(56,vi x27),(66,vb x33)],[]⟩
def XI (a1:qK) (x27:Int):St:=
 ⟨[(54,vc (tl qL dd a1.Rows)),(55,vi (a1.Rows.length:Int)),(56,vi x27)],[]⟩
def BM :St:=
 ⟨[],[]⟩
def qAI (a1:qK) (x25:Bool):St:=
 ⟨[(1,vp 0 0),(52,vb x25)],[(0,bx 48 (qP a1))]⟩
def qAT (a1:qK) (x4:Bool):St:=
 ⟨[(1,vp 0 0),(3,vi (a1.Rows.length:Int)),(22,vb x4)],[(0,bx 48 (qP a1))]⟩
theorem qAb (E:Env 0) (a1:qK):∀(n:Nat) (x6:Int) (res:Int⊕Unit),RT a1 n x6=some res->HL (kx E 68 0) (nd f62 500) (zR 0 (λo=>BC a1) (λv st=>RetQ Tryz.prog f62 (ZO v) (ZQ v) .ret st) res) n (XR a1 x6):=by
 intro n
 induction n with
 |zero=>
  intro x6 res hm;cases hm
 |succ n ih=>
  intro x6 res hm;refine qQ (s_va 1 [(27,vb (decide (x6<(a1.Rows.length:Int))))] ?_);refine q_sq (q_cq hm (λhm=>?_) (λhm=>?_))
  ·refine q_sk (q_sq ?_);refine q_bk 1 ?_;obtain⟨g8,hm⟩:=qJ hm;refine s_vu [qi 0 g8] 1 [27] [(5,vp 1 0)] [] [(1,bx 64 (qL (a1.Rows.getD x6.toNat dd)))] ?_;obtain⟨v9,h10,hm⟩:=qG hm;refine s_vu [qc 1 [30] 2 (qAq (a1.Rows.getD x6.toNat dd) v9 h10)] 2 [5] [(32,vb (!v9))] [1] [] (q_cq hm (λhm=>?_) (λhm=>?_))
   ·refine s_vn [] 2 ⟨[(2,vi 9)],[]⟩ ?_;obtain rfl:=oi hm;refine q_rt (qW 9 ?_);exact q_rm
   ·refine q_sk (q_vv [] 2 [26,32] [(26,vi (w64 (x6+1)))] ?_);exact q_hl (XR a1 (w64 (x6+1))) (ih (w64 (x6+1)) _ hm)
  ·refine q_ex 0 ?_;obtain rfl:=oi hm;exact q_l1 ()
theorem qAa (E:Env 0) (a1:qK):∀(n:Nat) (x27:Int) (res:Int⊕Unit),QN a1 n x27=some res->HL (kx E 68 0) (nd f62 4084) (zR 2 (λo=>BM) (λv st=>RetQ Tryz.prog f62 (ZO v) (ZQ v) .ret st) res) n (XI a1 x27):=by
 intro n
 induction n with
 |zero=>
  intro x27 res hm;cases hm
 |succ n ih=>
  intro x27 res hm;refine qQ (s_va 1 [(57,vb (decide (x27<(a1.Rows.length:Int))))] ?_);refine q_sq (q_cq hm (λhm=>?_) (λhm=>?_))
  ·refine q_sk (q_sq ?_);refine q_bk 3 ?_;obtain⟨g29,hm⟩:=qJ hm;refine s_vu [qi 0 g29] 1 [57] [(7,vp 1 0)] [] [(1,bx 64 (qL (a1.Rows.getD x27.toNat dd)))] (q_jn (qAR a1 x27) (λp=>RU x27 (QN a1 n) p=some res) ?_ ?_)
   ·rintro x33 hm;refine q_cq hm (λhm=>?_) (λhm=>?_)
    ·refine s_vn [] 2 ⟨[(2,vi 19)],[]⟩ ?_;obtain rfl:=oi hm;refine q_rt (qW 19 ?_);exact q_rm
    ·refine q_sk (q_vv [] 2 [56,66] [(56,vi (w64 (x27+1)))] ?_);exact q_hl (XI a1 (w64 (x27+1))) (ih (w64 (x27+1)) _ hm)
   ·obtain⟨v30,h31,hm⟩:=qG hm;rcases bif_c hm with⟨b32,hm⟩|⟨b32,hm⟩
    ·exact q_vu [qc 1 [60] 2 (wB (a1.Rows.getD x27.toNat dd) v30 h31),qf 2 b32] 2 [7] [(66,vb (!((((a1.Rows.getD x27.toNat dd).A)==0)&&((((a1.Rows.getD x27.toNat dd).B)==0)&&true))))] [1] [] (q_J (!((((a1.Rows.getD x27.toNat dd).A)==0)&&((((a1.Rows.getD x27.toNat dd).B)==0)&&true))) hm)
    ·exact q_vu [qc 1 [60] 2 (wB (a1.Rows.getD x27.toNat dd) v30 h31),qf 2 b32] 2 [7] [(66,vb false)] [1] [] (q_J (false) hm)
  ·refine q_ex 2 ?_;obtain rfl:=oi hm;exact q_l1 ()
theorem MS (a1:qK) (r:Int) (hm:PW a1=some r):CtX Tryz.prog globs 62 0 0 [.agg (qP a1)] [] (ZO r) (ZQ r):=by
 unfold PW at hm;refine q_E f62 68 λE=>?_;refine s_vn [] 0 ⟨[(1,vp 0 0)],[(0,bx 48 (qP a1))]⟩ (s_va 1 [(3,vi (a1.Rows.length:Int))] ?_);refine q_sq (s_va 1 [(12,vb (decide ((a1.Rows.length:Int)>120)))] ?_);refine q_cq hm (λhm=>?_) (λhm=>?_)
 ·refine s_vn [] 1 ⟨[(2,vi 4)],[]⟩ ?_;obtain rfl:=oi hm;exact q_rt q_rm
 ·refine q_sk (q_sq ?_);refine q_jn (qAT a1) (λp=>TA a1 p=some r) ?_ ?_
  ·rintro x4 hm;refine q_cq hm (λhm=>?_) (λhm=>?_)
   ·refine s_vn [] 1 ⟨[(2,vi 9)],[]⟩ ?_;obtain rfl:=oi hm;exact q_rt q_rm
   ·refine q_sk (q_sq ?_);refine s_vv [] 1 [22] [(24,vc (tl qL dd a1.Rows)),(25,vi (a1.Rows.length:Int)),(26,vi 0)] ?_;obtain⟨u14,h13,hm⟩:=qG hm;refine zC (nd f62 500) 0 (by kernel_rfl) FUEL (λo=>BC a1) (λv st=>RetQ Tryz.prog f62 (ZO v) (ZQ v) .ret st) u14 (q_hl (XR a1 0) (qAb E a1 FUEL 0 u14 h13)) ?_ ?_
    ·rintro v15 rfl st hr;obtain rfl:=oi hm;exact hr
    ·rintro o12 rfl;replace hm:_=some r:=hm;refine q_sq (s_va 1 [(35,vb ((a1.Rows.length:Int)==0))] ?_);refine q_cq hm (λhm=>?_) (λhm=>?_)
     ·refine q_sq (s_vn [] 1 ⟨[(38,vb (a1.Low !=0))],[]⟩ ?_);refine q_cq hm (λhm=>?_) (λhm=>?_)
      ·refine s_vn [] 1 ⟨[(2,vi 19)],[]⟩ ?_;obtain rfl:=oi hm;exact q_rt q_rm
      ·refine q_sk (s_vn [] 1 ⟨[(2,vi 0)],[]⟩ ?_);obtain rfl:=oi hm;exact q_rt q_rm
     ·refine q_sk (q_sq ?_);refine q_jn (qAI a1) (λp=>RL a1 p=some r) ?_ ?_
      ·rintro x25 hm;refine q_cq hm (λhm=>?_) (λhm=>?_)
       ·refine s_vn [] 1 ⟨[(2,vi 19)],[]⟩ ?_;obtain rfl:=oi hm;exact q_rt q_rm
       ·refine q_sk (q_sq ?_);refine s_vn [] 1 ⟨[(54,vc (tl qL dd a1.Rows)),(55,vi (a1.Rows.length:Int)),(56,vi 0)],[]⟩ ?_;obtain⟨u37,h36,hm⟩:=qG hm;refine zC (nd f62 4084) 2 (by kernel_rfl) FUEL (λo=>BM) (λv st=>RetQ Tryz.prog f62 (ZO v) (ZQ v) .ret st) u37 (q_hl (XI a1 0) (qAa E a1 FUEL 0 u37 h36)) ?_ ?_
        ·rintro v38 rfl st hr;obtain rfl:=oi hm;exact hr
        ·rintro o35 rfl;replace hm:_=some r:=hm;refine s_vn [] 1 ⟨[(2,vi 0)],[]⟩ ?_;obtain rfl:=oi hm;exact q_rt q_rm
      ·obtain⟨g18,hm⟩:=qJ hm;obtain⟨v19,h20,hm⟩:=qG hm;rcases bif_c hm with⟨b21,hm⟩|⟨b21,hm⟩
       ·exact q_vv [qi 2 g18,qc 4 [42] 1 (wB (a1.Rows.getD (0:Int).toNat dd) v19 h20),qf 5 b21] 1 [3,35] [(52,vb true)] (q_J (true) hm)
       ·obtain⟨g22,hm⟩:=qJ hm;obtain⟨v23,h24,hm⟩:=qG hm;exact q_vv [qi 2 g18,qc 4 [42] 1 (wB (a1.Rows.getD (0:Int).toNat dd) v19 h20),qf 5 b21,qi 10 g22,qk 12 [44,50] 1 ⟨[(44,vb false),(50,va [ci ((a1.Rows.getD (w64 ((a1.Rows.length:Int)-1)).toNat dd).A),ci ((a1.Rows.getD (w64 ((a1.Rows.length:Int)-1)).toNat dd).B)])],[]⟩ (wB (a1.Rows.getD (w64 ((a1.Rows.length:Int)-1)).toNat dd) v23 h24)] 1 [3,35] [(52,vb v23)] (q_J (v23) hm)
  ·rcases bif_c hm with⟨b3,hm⟩|⟨b3,hm⟩
   ·exact q_vv [qf 3 b3] 1 [12] [(22,vb true)] (q_J (true) hm)
   ·exact q_vv [qf 3 b3] 1 [12] [(22,vb (decide (a1.Low>(w64 (60-(a1.Rows.length:Int))))))] (q_J (decide (a1.Low>(w64 (60-(a1.Rows.length:Int))))) hm)
open Go.Proofs Go.Proofs.Tryz
def qDz (r:qK):V:=va (qP r)
def qDQ (r:qK):List (Nat×(Nat×O)):=[]
theorem TB (a1:qK) (r:qK) (hm:JY a1=some r):CtX Tryz.prog globs 78 0 0 [.agg (qP a1)] [] (qDz r) (qDQ r):=by
 unfold JY at hm;refine q_E f78 8 λE=>?_;refine s_vn [] 0 ⟨[(1,vp 0 0),(2,vp 1 0)],[(0,bx 48 (qP a1)),(1,bx 48 [ci 0,.emp])]⟩ (q_sq ?_);obtain⟨v2,h3,hm⟩:=qG hm;refine s_vv [qc 1 [3] 2 (MS a1 v2 h3)] 2 [] [(5,vb (v2 !=0))] (q_cq hm (λhm=>?_) (λhm=>?_))
 ·refine s_vu [] 2 [1,5] [] [0] [] (q_fu [.ownB 1 1 2 64 2 (rf qL [])] [] [] [1] [(1,bx 48 [ci 0,.own 2 0 2 0]),(2,ro 0 64 2 0 (rf qL []))] o0 ?_);refine q_fu [.len 2 (([]:List Span).length),.frz 2] [] [] [1,2] [(1,bx 48 [ci 0,tl qL dd ([]:List Span)])] (o1 (And.intro (And.intro (show 0=([]:List Span).length from rfl) (show 0=([]:List Span).length from rfl)) (kg (([]:List Span).length)))) ?_;obtain rfl:=oi hm;exact q_rt q_rm
 ·refine q_sk (s_vn [] 2 ⟨[(2,vp 1 0)],[(1,bx 48 (qP a1))]⟩ ?_);obtain rfl:=oi hm;exact q_rt q_rm
def qGm (r:Span):V:=va (qL r)
def qGg (r:Span):List (Nat×(Nat×O)):=[]
def qDk (a1:qK) (a2:Int) (x4:Bool):St:=
 ⟨[(1,vi a2),(2,vp 0 0),(4,vp 1 0),(18,vb x4)],[(0,bx 48 (qP a1)),(1,bx 64 [ci 0,ci 0])]⟩
theorem CM (a1:qK) (a2:Int) (r:Span) (hm:FH a1 a2=some r):CtX Tryz.prog globs 82 0 0 [.agg (qP a1),.one (ci a2)] [] (qGm r) (qGg r):=by
 unfold FH at hm;refine q_E f82 28 λE=>?_;refine s_vn [] 0 ⟨[(1,vi a2),(2,vp 0 0),(4,vp 1 0)],[(0,bx 48 (qP a1)),(1,bx 64 [ci 0,ci 0])]⟩ (q_sq ?_);refine q_jn (qDk a1 a2) (λp=>NC a1 a2 p=some r) ?_ ?_
 ·rintro x4 hm;refine q_cq hm (λhm=>?_) (λhm=>?_)
  ·refine s_vu [] 2 [1,2,18] [] [0] [] ?_;obtain rfl:=oi hm;exact q_rt q_rm
  ·refine q_sk ?_;obtain⟨g6,hm⟩:=qJ hm;refine s_vn [qi 6 g6] 2 ⟨[(4,vp 1 0)],[(1,bx 64 (qL (a1.Rows.getD (w64 (a2-a1.Low)).toNat dd)))]⟩ ?_;obtain rfl:=oi hm;exact q_rt q_rm
 ·rcases bif_c hm with⟨b3,hm⟩|⟨b3,hm⟩
  ·exact q_vv [qf 4 b3] 2 [] [(18,vb true)] (q_J (true) hm)
  ·exact q_vv [qf 4 b3] 2 [] [(18,vb (decide (a2≥(w64 (a1.Low+(a1.Rows.length:Int))))))] (q_J (decide (a2≥(w64 (a1.Low+(a1.Rows.length:Int))))) hm)
def qHR (r:Span):V:=va (qL r)
def qHQ (r:Span):List (Nat×(Nat×O)):=[]
theorem qGC (a1:Span) (a2:Span) (r:Span) (hm:qAW a1 a2=some r):CtX Tryz.prog globs 94 0 0 [.agg (qL a1),.agg (qL a2)] [] (qHR r) (qHQ r):=by
 unfold qAW at hm;refine q_E f94 24 λE=>?_;refine s_vn [] 0 ⟨[(2,vp 0 0),(3,vp 1 0),(4,vp 2 0)],[(0,bx 64 (qL a1)),(1,bx 64 (qL a2)),(2,bx 64 [ci 0,ci 0])]⟩ (s_vu [] 3 [2,3] [(5,vp 3 0)] [0,1] [(3,bx 64 [ci (imax a1.A a2.A),ci (imin a1.B a2.B)])] ?_);refine q_sq (s_va 4 [(21,vb (decide ((imax a1.A a2.A)≥(imin a1.B a2.B))))] ?_);refine q_cq hm (λhm=>?_) (λhm=>?_)
 ·refine s_vu [] 4 [5,21] [] [3] [] ?_;obtain rfl:=oi hm;exact q_rt q_rm
 ·refine q_sk (s_vn [] 4 ⟨[(4,vp 2 0)],[(2,bx 64 [ci (imax a1.A a2.A),ci (imin a1.B a2.B)])]⟩ ?_);obtain rfl:=oi hm;exact q_rt q_rm
open Go.Proofs Go.Proofs.Tryz
def LF (a1:Int) (a2:qK) (a3:qK) (r:Span):V:=va (qL r)
def MG (a1:Int) (a2:qK) (a3:qK) (r:Span):List (Nat×(Nat×O)):=[(0,bx 48 (qP a2)),(1,bx 48 (qP a3))]
theorem qBB (a1:Int) (a2:qK) (a3:qK) (r:Span) (hm:GL a1 a2 a3=some r):CtX Tryz.prog globs 93 2 2 [.one (ci a1),.one (.bptr 0 0 0),.one (.bptr 1 0 0)] [(0,bx 48 (qP a2)),(1,bx 48 (qP a3))] (LF a1 a2 a3 r) (MG a1 a2 a3 r):=by
 unfold GL at hm;refine q_E f93 12 λE=>?_;refine s_vn [] 2 ⟨[(0,vi a1),(1,vp 0 0),(2,vp 1 0),(4,vp 2 0)],[(0,bx 48 (qP a2)),(1,bx 48 (qP a3)),(2,bx 64 [ci 0,ci 0])]⟩ ?_;obtain⟨v4,h5,hm⟩:=qG hm;obtain⟨v6,h7,hm⟩:=qG hm;obtain⟨v8,h9,hm⟩:=qG hm;refine s_du [qc 2 [5,6] 3 (CM a2 a1 v4 h5),qc 5 [8,9] 3 (CM a3 a1 v6 h7),qc 6 [7,10] 3 (qGC v4 v6 v8 h9)] [0,0,3,0,0,31,63,127] 3 [0,1,2] [] [2] [(2,bx 64 (qL v8))] ?_;obtain rfl:=oi hm;exact q_rt q_rm
def BJ (a1:qK) (a2:qK) (r:qK):V:=va [ci r.Low,.own 2 0 2 r.Rows.length]
def BQ (a1:qK) (a2:qK) (r:qK):List (Nat×(Nat×O)):=[(0,bx 48 (qP a1)),(1,bx 48 (qP a2)),(2,ro 0 64 2 r.Rows.length (rf qL r.Rows))]
def QV (a1:qK) (a2:qK) (x4:Int):St:=
 ⟨[(0,vc (.fn 93 [.bptr 0 0 0,.bptr 1 0 0])),(2,vp 2 0),(3,vp 3 0),(5,vi x4)],[(0,bx 48 (qP a1)),(1,bx 48 (qP a2)),(2,bx 48 [ci 0,.emp])]⟩
def TP (a1:qK) (a2:qK) (x4:Int) (x18:Int) (x19:Int) (l20:List Span) (l20n:Nat):St:=
 (QV a1 a2 x4).up [] [(4,vi x18)] [] [(3,bx 48 [ci x19,.own 4 0 2 l20n]),(4,ro 0 64 2 l20n (rf qL l20))]
def AW (a1:qK) (a2:qK) (x4:Int) (l6:List Span) (v8:Span) (x14:Int):St:=
 (QV a1 a2 x4).up [] [(6,vp 5 0)] [] [(3,bx 48 [ci x14,.own 4 0 2 l6.length]),(4,ro 0 64 2 l6.length (rf qL l6)),(5,bx 64 (qL v8))]
def WI (a1:qK) (a2:qK) (x3:Int) (x4:Int) (x5:Int) (l6:List Span) (l6n:Nat):St:=
 (QV a1 a2 x4).up [] [(4,vi x3)] [] [(3,bx 48 [ci x5,.own 4 0 2 l6n]),(4,ro 0 64 2 l6n (rf qL l6))]
def TR (a1:qK) (a2:qK) (x21:Int) (x22:Int) (l23:List Span):St:=
 ⟨[(2,vp 2 0),(3,vp 3 0),(4,vi x21)],[(0,bx 48 (qP a1)),(1,bx 48 (qP a2)),(2,bx 48 [ci 0,.emp]),(3,bx 48 [ci x22,.own 4 0 2 l23.length]),(4,ro 0 64 2 l23.length (rf qL l23))]⟩
theorem EX (E:Env 2) (a1:qK) (a2:qK):∀(n:Nat) (x3:Int) (x4:Int) (x5:Int) (l6:List Span) (l6n:Nat) (res:Int×Int×(List Span)),l6.length=l6n->zO a1 a2 n x3 x4 x5 l6=some res->HL (kx E 46 2) (nd f80 244) (zL 0 (λo=>TR a1 a2 o.1 o.2.1 o.2.2) res) n (WI a1 a2 x3 x4 x5 l6 l6n):=by
 intro n
 induction n with
 |zero=>
  intro x3 x4 x5 l6 l6n res hl0 hm;cases hm
 |succ n ih=>
  intro x3 x4 x5 l6 l6n res hl0 hm;subst hl0;refine qQ (q_sq ?_);refine s_va 5 [(8,vb (decide (x4<60)))] (q_cq hm (λhm=>?_) (λhm=>?_))
  ·refine q_sk (q_jn (ι:=Int×Int×(List Span)×Nat) (λp=>TP a1 a2 x4 p.1 p.2.1 p.2.2.1 p.2.2.2) (λp=>p.2.2.1.length=p.2.2.2/\QT x4 (zO a1 a2 n) p.1 p.2.1 p.2.2.1=some res) ?_ ?_)
   ·rintro⟨x18,x19,l20,l20n⟩ ⟨el20,hm⟩;replace el20:l20.length=l20n:=el20;subst el20;show H _ (TP a1 a2 x4 x18 x19 l20 l20.length) _ _;exact q_vv [] 7 [5] [(5,vi (w64 (x4+1)))] (q_hl (WI a1 a2 x18 (w64 (x4+1)) x19 l20 l20.length) (ih x18 (w64 (x4+1)) x19 l20 l20.length _ rfl hm))
   ·refine q_bk 1 ?_;obtain⟨v8,h9,hm⟩:=qG hm;refine s_vu [qd 2 (dex (cen [(0,0),(1,0)] [0,0] 3 2 (LF x4 a1 a2 v8) (MG x4 a1 a2 v8) [11,12] [0,1])) (zG (K:=(kx E 46 2)) ⟨[(11,vc (.fn 93 [.bptr 0 0 0,.bptr 1 0 0])),(12,vi x4)],[(0,bx 48 (qP a1)),(1,bx 48 (qP a2))]⟩ (opAt (rg f80 3912) 2) [(0,0),(1,0)] [0,0] 3 o0 rfl (qBB x4 a1 a2 v8 h9) (.inl rfl) (by kernel_rfl))] 5 [8] [(6,vp 5 0)] [] [(5,bx 64 (qL v8))] (q_bk 2 ?_);obtain⟨v10,h11,hm⟩:=qG hm;refine s_vv [qc 1 [15] 6 (wB v8 v10 h11)] 6 [] [(14,vb (!v10))] (q_cq hm (λhm=>?_) (λhm=>?_))
    ·refine q_jn (AW a1 a2 x4 l6 v8) (λp=>YK x4 l6 (zO a1 a2 n) v8 p=some res) ?_ ?_
     ·rintro x14 hm;obtain⟨g15,hm⟩:=qJ hm;refine s_vu [qd 3 (drw 6 0 (rf qL [v8])) (litP qL dd 2 (λ_=>rfl) ([v8]:List Span) 1 rfl),qd 4 (drw 4 1 (rf qL (l6++[v8]))) (apP qL dd l6 ([v8]:List Span) l6.length 1 2 16 (1<=1) (kg _) rfl rfl (λ_=>rfl) (zK g15))] 6 [6] [] [3,4,5] [(3,bx 48 [ci x14,.own 4 1 2 (l6.length+1)]),(4,ro 1 64 2 (l6.length+1) (rf qL (l6++[v8])))] (q_va 7 [(4,vi (((l6.length+1):Nat):Int))] ?_);exact q_J ((((l6.length+1):Nat):Int),x14,(l6++[v8]),(l6.length+1)) ⟨(zN rfl rfl),hm⟩
     ·refine s_vv [] 6 [4,14] [(19,vb (x3==0))] (q_cq hm (λhm=>?_) (λhm=>?_))
      ·exact q_vu [] 6 [19] [] [3] [(3,bx 48 [ci x4,.own 4 0 2 l6.length])] (q_J (x4) hm)
      ·exact q_sk (q_J (x5) hm)
    ·refine s_vu [] 6 [6,14] [(31,vb (decide (x3>0)))] [5] [] (q_cq hm (λhm=>?_) (λhm=>?_))
     ·obtain⟨g17,hm⟩:=qJ hm;exact q_vu [qd 3 (drw 6 0 (rf qL [(Span.mk 0 0)])) (litP qL dd 2 (λ_=>rfl) ([(Span.mk 0 0)]:List Span) 1 rfl),qd 4 (drw 4 1 (rf qL (l6++[(Span.mk 0 0)]))) (apP qL dd l6 ([(Span.mk 0 0)]:List Span) l6.length 1 2 16 (1<=1) (kg _) rfl rfl (λ_=>rfl) (zK g17))] 6 [31] [] [3,4] [(3,bx 48 [ci x5,.own 4 1 2 (l6.length+1)]),(4,ro 1 64 2 (l6.length+1) (rf qL (l6++[(Span.mk 0 0)])))] (q_J (x3,x5,(l6++[(Span.mk 0 0)]),(l6.length+1)) ⟨(zN rfl rfl),hm⟩)
     ·exact q_sk (q_J (x3,x5,l6,l6.length) ⟨rfl,hm⟩)
  ·refine q_ex 0 ?_;obtain rfl:=oi hm;exact q_l0
theorem CY (a1:qK) (a2:qK) (r:qK) (hm:RD a1 a2=some r):CtX Tryz.prog globs 80 2 2 [.one (.fn 93 [.bptr 0 0 0,.bptr 1 0 0])] [(0,bx 48 (qP a1)),(1,bx 48 (qP a2))] (BJ a1 a2 r) (BQ a1 a2 r):=by
 unfold RD at hm;refine q_E f80 46 λE=>?_;refine s_vn [] 2 ⟨[(0,vc (.fn 93 [.bptr 0 0 0,.bptr 1 0 0])),(2,vp 2 0)],[(0,bx 48 (qP a1)),(1,bx 48 (qP a2)),(2,bx 48 [ci 0,.emp])]⟩ (s_vu [] 3 [] [(3,vp 3 0)] [] [(3,bx 48 [ci 0,.emp])] ?_);refine s_va 4 [(4,vi 0)] (q_sq ?_);refine s_va 4 [(5,vi (-60))] (q_fu [.ownB 3 1 4 64 2 (rf qL [])] [] [] [3] [(3,bx 48 [ci 0,.own 4 0 2 0]),(4,ro 0 64 2 0 (rf qL []))] o0 ?_);obtain⟨o24,h25,hm⟩:=qG hm
 refine zI (nd f80 244) 0 (by kernel_rfl) FUEL (λo=>TR a1 a2 o.1 o.2.1 o.2.2) o24 (q_hl (WI a1 a2 0 (-60) 0 ([]:List Span) 0) (EX E a1 a2 FUEL 0 (-60) 0 ([]:List Span) 0 o24 rfl h25)) ?_;obtain⟨g26,hm⟩:=qJ hm
 refine s_wu [qd 3 dN (And.intro (zA g26).2.1 (zA g26).2.2)] [.row 4 o24.1.toNat (rf qL (o24.2.2.take o24.1.toNat))] (o1 (tkP qL dd o24.2.2 o24.2.2.length o24.1.toNat (show o24.1.toNat<=o24.2.2.length by have:=(zA g26);omega))) 5 [4] [] [3,4] [(3,bx 48 [ci o24.2.1,.own 4 0 2 o24.1.toNat]),(4,ro 0 64 2 o24.1.toNat (rf qL (o24.2.2.take o24.1.toNat)))] (s_vu [] 5 [3] [] [2,3] [(2,bx 48 [ci o24.2.1,.own 4 0 2 o24.1.toNat])] ?_)
 refine q_fu [.len 4 ((o24.2.2.take o24.1.toNat).length)] [] [] [2,4] [(2,bx 48 [ci o24.2.1,.own 4 0 2 ((o24.2.2.take o24.1.toNat).length)]),(4,ro 0 64 2 ((o24.2.2.take o24.1.toNat).length) (rf qL (o24.2.2.take o24.1.toNat)))] (o1 (And.intro (Eq.symm (show(o24.2.2.take o24.1.toNat).length=o24.1.toNat from(JA rfl (show o24.1.toNat<=o24.2.2.length by have:=(zA g26);omega)))) (Eq.symm (show(o24.2.2.take o24.1.toNat).length=o24.1.toNat from(JA rfl (show o24.1.toNat<=o24.2.2.length by have:=(zA g26);omega)))))) ?_;obtain rfl:=oi hm;exact q_sw 4 2 (q_rt q_rm)
def qD3 (r:qK):V:=va [ci r.Low,.own 0 0 2 r.Rows.length]
def qEx (r:qK):List (Nat×(Nat×O)):=[(0,ro 0 64 2 r.Rows.length (rf qL r.Rows))]
theorem qDy (a1:qK) (a2:qK) (r:qK) (hm:MY a1 a2=some r):CtX Tryz.prog globs 45 0 0 [.agg (qP a1),.agg (qP a2)] [] (qD3 r) (qEx r):=by
 unfold MY at hm;refine q_E f45 11 λE=>?_;refine s_vn [] 0 ⟨[(2,vp 0 0),(3,vp 1 0),(4,vp 2 0)],[(0,bx 48 (qP a1)),(1,bx 48 (qP a2)),(2,bx 48 [ci 0,.emp])]⟩ ?_;obtain⟨v3,h4,hm⟩:=qG hm;obtain⟨v5,h6,hm⟩:=qG hm;refine s_du [qc 1 [5] 3 (TB a1 v3 h4),qc 3 [7] 3 (TB a2 v5 h6)] [0,1,0,7,15,31] 3 [] [] [0,1] [(0,bx 48 (qP v3)),(1,bx 48 (qP v5))] ?_;obtain⟨v7,h8,hm⟩:=qG hm
 refine s_vn [qd 1 (dex (cen [(0,0),(1,0)] [0,0] 1 2 (BJ v3 v5 v7) (BQ v3 v5 v7) [9] [0,1])) (zG (K:=(kx E 11 0)) ⟨[(9,vc (.fn 93 [.bptr 0 0 0,.bptr 1 0 0]))],[(0,bx 48 (qP v3)),(1,bx 48 (qP v5))]⟩ (opAt (rg f45 14) 1) [(0,0),(1,0)] [0,0] 1 o0 rfl (CY v3 v5 v7 h8) (.inl rfl) (by kernel_rfl))] 3 ⟨[(4,vp 2 0)],[(2,bx 48 [ci v7.Low,.own 3 0 2 v7.Rows.length]),(3,ro 0 64 2 v7.Rows.length (rf qL v7.Rows))]⟩ ?_;obtain rfl:=oi hm;exact q_sw 3 0 (q_rt q_rm)
open Go.Proofs Go.Proofs.Tryz
def qC7 (r:Bool):V:=vb r
def qDc (r:Bool):List (Nat×(Nat×O)):=[]
def qAJ (x5:Bool):St:=
 ⟨[(6,vb x5)],[]⟩
theorem jT (a1:Span) (a2:Int) (a3:Int) (r:Bool) (hm:yO a1 a2 a3=some r):CtX Tryz.prog globs 142 0 0 [.agg (qL a1),.one (ci a2),.one (ci a3)] [] (qC7 r) (qDc r):=by
 unfold yO at hm;refine q_E f142 23 λE=>?_;refine s_vn [] 0 ⟨[(1,vi a2),(2,vi a3),(3,vp 0 0)],[(0,bx 64 (qL a1))]⟩ (q_jn (qAJ) (λp=>JI p=some r) ?_ ?_)
 ·rintro x5 hm;obtain rfl:=oi hm;exact q_rt q_rm
 ·rcases bif_c hm with⟨b4,hm⟩|⟨b4,hm⟩
  ·exact q_vn [qf 7 b4] 1 ⟨[(6,vb (decide ((imax a1.A a1.B)<=a3)))],[]⟩ (q_J (decide ((imax a1.A a1.B)<=a3)) hm)
  ·exact q_vn [qf 7 b4] 1 ⟨[(6,vb false)],[]⟩ (q_J (false) hm)
end Saw
end Go.SL

import Derived.Test.YthbamnkheinbgaaGreatDoorSBase
import Derived.Test.YthbamnkheinbgaaGreatDoorSFa2
import Derived.Test.YthbamnkheinbgaaGreatDoorSFa1
set_option linter.unusedVariables false
set_option linter.unusedSimpArgs false
namespace Go.SL
namespace Saw
open Go.Proofs Go.Proofs.Tryz
set_option maxHeartbeats 4000000
set_option maxRecDepth 100000
def VE (a1:Int) (a2:Rect) (a3:List qA) (r:Int×Int):V:= .tup [.one (ci r.1),.one (ci r.2)]
def GF (a1:Int) (a2:Rect) (a3:List qA) (r:Int×Int):List (Nat×(Nat×O)):=[(0,bx 190 (ZQ a2)),(1,bx 52 [.own 2 0 2 a3.length]),(2,ro 0 71 2 a3.length (rf qB a3))]
def YR (a1:Int) (a2:Rect) (a3:List qA) (x4:Int) (x5:Int) (x6:Int):St:=
 ⟨[(0,vi a1),(2,vp 1 0),(6,vi x4),(7,vi x5),(9,vp 3 0),(10,vp 4 0),(17,vo 2 0 2 a3.length),(18,vi (a3.length:Int)),(19,vi x6)],[(0,bx 190 (ZQ a2)),(1,bx 52 [.own 2 0 2 a3.length]),(2,ro 0 71 2 a3.length (rf qB a3)),(3,bx 71 (qB (a3.getD x6.toNat dd))),(4,bx 71 (qB (a3.getD ((Int.tmod (w64 (x6+1)) (a3.length:Int)).toNat) dd)))]⟩
def BU (a1:Int) (a2:Rect) (a3:List qA) (x6:Int) (x23:Int) (x24:Int):St:=
 ⟨[(0,vi a1),(2,vp 1 0),(6,vi x23),(7,vi x24),(17,vo 2 0 2 a3.length),(18,vi (a3.length:Int)),(19,vi x6)],[(0,bx 190 (ZQ a2)),(1,bx 52 [.own 2 0 2 a3.length]),(2,ro 0 71 2 a3.length (rf qB a3))]⟩
def qAP (a1:Int) (a2:Rect) (a3:List qA) (x4:Int) (x5:Int) (x6:Int) (x19:Bool):St:=
 (YR a1 a2 a3 x4 x5 x6).up [] [(69,vb x19)] [] []
def qAW (a1:Int) (a2:Rect) (a3:List qA) (x4:Int) (x5:Int) (x6:Int) (x13:Bool):St:=
 (YR a1 a2 a3 x4 x5 x6).up [] [(32,vb x13)] [] []
def KW (a1:Int) (a2:Rect) (a3:List qA) (x4:Int) (x5:Int) (x6:Int):St:=
 (YR a1 a2 a3 x4 x5 x6).up [9,10] [] [3,4] []
def BR (a2:Rect) (a3:List qA) (x25:Int) (x26:Int):St:=
 ⟨[(6,vi x25),(7,vi x26)],[(0,bx 190 (ZQ a2)),(1,bx 52 [.own 2 0 2 a3.length]),(2,ro 0 71 2 a3.length (rf qB a3))]⟩
theorem OX (E:Env 3) (a1:Int) (a2:Rect) (a3:List qA):∀(n:Nat) (x4:Int) (x5:Int) (x6:Int) (res:Int×Int),wO a1 a3 n x4 x5 x6=some res->HL (kx E 109 2) (nd f178 116) (zT 0 (λo=>BR a2 a3 o.1 o.2) res) n (KW a1 a2 a3 x4 x5 x6):=by
 intro n
 induction n with
 |zero=>
  intro x4 x5 x6 res hm;cases hm
 |succ n ih=>
  intro x4 x5 x6 res hm;refine qT (s_va 3 [(20,vb (decide (x6<(a3.length:Int))))] ?_);refine q_sq (q_cq hm (λhm=>?_) (λhm=>?_))
  ·refine q_sk (q_jn (ι:=Int×Int) (λp=>BU a1 a2 a3 x6 p.1 p.2) (λp=>XB x6 (wO a1 a3 n) p.1 p.2=some res) ?_ ?_)
   ·rintro⟨x23,x24⟩ hm;show H _ (BU a1 a2 a3 x6 x23 x24) _ _;exact q_vv [] 5 [19] [(19,vi (w64 (x6+1)))] (q_hl (KW a1 a2 a3 x23 x24 (w64 (x6+1))) (ih x23 x24 (w64 (x6+1)) _ hm))
   ·refine q_bk 1 ?_;obtain⟨g8,hm⟩:=qJ hm;refine s_vu [qi 1 g8,qd 2 dN (toNat_lt (zJ g8))] 3 [20] [(8,vi x6),(9,vp 3 0)] [] [(3,bx 71 (qB (a3.getD x6.toNat dd)))] ?_;obtain⟨g9,hm⟩:=qJ hm;obtain⟨g10,hm⟩:=qJ hm;refine s_du [qd 5 dN (ND g9),qi 6 g10,qd 7 dN (toNat_lt (zJ g10))] [0,0,2,0,8,30,63,127,0,511] 4 [8] [(10,vp 4 0)] [] [(4,bx 71 (qB (a3.getD ((Int.tmod (w64 (x6+1)) (a3.length:Int)).toNat) dd)))] (q_bk 2 ?_);refine q_jn (qAW a1 a2 a3 x4 x5 x6) (λp=>XA a1 a3 x4 x5 x6 (wO a1 a3 n) p=some res) ?_ ?_
    ·rintro x13 hm;refine q_cq hm (λhm=>?_) (λhm=>?_)
     ·obtain⟨v15,h16,hm⟩:=qE hm;exact q_du [qc 17 [61,66] 5 (IF (w64 ((w64 (((a3.getD ((Int.tmod (w64 (x6+1)) (a3.length:Int)).toNat) dd).X)-((a3.getD x6.toNat dd).X)))*(w64 (a1-((a3.getD x6.toNat dd).Y))))) (w64 (((a3.getD ((Int.tmod (w64 (x6+1)) (a3.length:Int)).toNat) dd).Y)-((a3.getD x6.toNat dd).Y))) v15 h16)] [0,1,0,4,0,16,60,0,0,256,896,2044,0,4096,0,16384,61440,131068,262143,524287] 5 [7,9,10,32] [(7,vi (w64 (((a3.getD x6.toNat dd).X)+v15)))] [3,4] [] (q_J (x4,w64 (((a3.getD x6.toNat dd).X)+v15)) hm)
     ·refine q_jn (qAP a1 a2 a3 x4 x5 x6) (λp=>XE a1 a3 x4 x5 x6 (wO a1 a3 n) p=some res) ?_ ?_
      ·rintro x19 hm;refine q_cq hm (λhm=>?_) (λhm=>?_)
       ·obtain⟨v21,h22,hm⟩:=qE hm
        exact q_du [qc 17 [98,103] 5 (IF (w64 ((w64 (((a3.getD ((Int.tmod (w64 (x6+1)) (a3.length:Int)).toNat) dd).X)-((a3.getD x6.toNat dd).X)))*(w64 (a1-((a3.getD ((Int.tmod (w64 (x6+1)) (a3.length:Int)).toNat) dd).Y))))) (w64 (((a3.getD x6.toNat dd).Y)-((a3.getD ((Int.tmod (w64 (x6+1)) (a3.length:Int)).toNat) dd).Y))) v21 h22)] [0,1,0,4,0,16,60,0,0,256,896,2044,0,4096,0,16384,61440,131068,262143,524287] 5 [6,9,10,69] [(6,vi (w64 (((a3.getD ((Int.tmod (w64 (x6+1)) (a3.length:Int)).toNat) dd).X)-v21)))] [3,4] [] (q_J (w64 (((a3.getD ((Int.tmod (w64 (x6+1)) (a3.length:Int)).toNat) dd).X)-v21),x5) hm)
       ·exact q_sk (q_J (x4,x5) hm)
      ·rcases bif_c hm with⟨b17,hm⟩|⟨b17,hm⟩
       ·rcases bif_c hm with⟨b18,hm⟩|⟨b18,hm⟩
        ·exact q_vv [qf 5 b17,qf 11 b18] 5 [32] [(69,vb (decide (a1<=((a3.getD x6.toNat dd).Y))))] (q_J (decide (a1<=((a3.getD x6.toNat dd).Y))) hm)
        ·exact q_vv [qf 5 b17,qf 11 b18] 5 [32] [(69,vb false)] (q_J (false) hm)
       ·exact q_vv [qf 5 b17] 5 [32] [(69,vb false)] (q_J (false) hm)
    ·rcases bif_c hm with⟨b11,hm⟩|⟨b11,hm⟩
     ·rcases bif_c hm with⟨b12,hm⟩|⟨b12,hm⟩
      ·exact q_vv [qf 5 b11,qf 11 b12] 5 [] [(32,vb (decide (a1<=((a3.getD ((Int.tmod (w64 (x6+1)) (a3.length:Int)).toNat) dd).Y))))] (q_J (decide (a1<=((a3.getD ((Int.tmod (w64 (x6+1)) (a3.length:Int)).toNat) dd).Y))) hm)
      ·exact q_vv [qf 5 b11,qf 11 b12] 5 [] [(32,vb false)] (q_J (false) hm)
     ·exact q_vv [qf 5 b11] 5 [] [(32,vb false)] (q_J (false) hm)
  ·refine q_ex 0 ?_;obtain rfl:=oi hm;exact q_l0
theorem MA (a1:Int) (a2:Rect) (a3:List qA) (r:Int×Int) (hm:TF a1 a2 a3=some r):CtX Tryz.prog globs 178 3 2 [.one (ci a1),.one (.bptr 0 0 0),.one (.bptr 1 0 0)] [(0,bx 190 (ZQ a2)),(1,bx 52 [.own 2 0 2 a3.length]),(2,ro 0 71 2 a3.length (rf qB a3))] (VE a1 a2 a3 r) (GF a1 a2 a3 r):=by
 unfold TF at hm;refine q_E f178 109 λE=>?_;refine s_vn [] 3 ⟨[(0,vi a1),(1,vp 0 0),(2,vp 1 0)],[(0,bx 190 (ZQ a2)),(1,bx 52 [.own 2 0 2 a3.length]),(2,ro 0 71 2 a3.length (rf qB a3))]⟩ (s_du [] [0,1,3,0,8,24,7,127] 3 [1] [(6,vi a2.X.A),(7,vi a2.X.B)] [] [] ?_);refine q_sq (s_va 3 [(17,vo 2 0 2 a3.length),(18,vi (a3.length:Int)),(19,vi 0)] ?_);obtain⟨o27,h28,hm⟩:=qE hm;refine zQ (nd f178 116) 0 (by kernel_rfl) FUEL (λo=>BR a2 a3 o.1 o.2) o27 (q_hl (KW a1 a2 a3 a2.X.A a2.X.B 0) (OX E a1 a2 a3 FUEL a2.X.A a2.X.B 0 o27 h28)) (s_vv [] 3 [6,7] [(4,vi o27.1),(5,vi o27.2)] ?_);obtain rfl:=oi hm
 exact q_rt q_rm
def qF5 (r:Span):V:=va (qH r)
def qFz (r:Span):List (Nat×(Nat×O)):=[]
def qCx (a2:Int) (a3:Int) (v4:(List qA)) (v6:Rect) (x11:Bool):St:=
 ⟨[(1,vi a2),(2,vi a3),(6,vp 0 0),(7,vp 2 0),(8,vp 3 0),(40,vb x11)],[(0,bx 64 [ci 0,ci 0]),(1,ro 0 71 2 v4.length (rf qB v4)),(2,bx 52 [.own 1 0 2 v4.length]),(3,bx 190 (ZQ v6))]⟩
theorem qEl (a1:List qA) (a2:Int) (a3:Int) (r:Span) (hm:EX a1 a2 a3=some r):CtX Tryz.prog globs 149 0 0 [.one (tl qB dd a1),.one (ci a2),.one (ci a3)] [] (qF5 r) (qFz r):=by
 unfold EX at hm;refine q_E f149 69 λE=>?_;refine s_vn [] 0 ⟨[(0,vc (tl qB dd a1)),(1,vi a2),(2,vi a3),(6,vp 0 0)],[(0,bx 64 [ci 0,ci 0])]⟩ ?_;obtain⟨v4,h5,hm⟩:=qE hm;refine s_vu [qc 1 [15] 1 (qE1 a1 v4 h5)] 1 [0] [(7,vp 2 0)] [] [(1,ro 0 71 2 v4.length (rf qB v4)),(2,bx 52 [.own 1 0 2 v4.length])] ?_;obtain⟨v6,h7,hm⟩:=qE hm
 refine s_vu [qd 1 (dex (cen [] [] 3 0 (ID v6) (PR v6) [17] [1])) (zG (K:=(kx E 69 0)) (b:=false) ⟨[(17,vo 1 0 2 v4.length)],[(1,ro 0 71 2 v4.length (rf qB v4))]⟩ (opAt (rg f149 14) 1) [] [] 3 (o1 (kr v4.length)) rfl (qDk v4 v6 h7) (.inr ⟨(by kernel_rfl),qEF v6⟩) (by kernel_rfl))] 3 [] [(8,vp 3 0)] [] [(3,bx 190 (ZQ v6))] (q_sq ?_);refine q_jn (qCx a2 a3 v4 v6) (λp=>YA a2 a3 v4 v6 p=some r) ?_ ?_
 ·rintro x11 hm;refine q_cq hm (λhm=>?_) (λhm=>?_)
  ·refine s_vu [] 4 [1,2,7,8,40] [] [1,2,3] [] ?_;obtain rfl:=oi hm;exact q_rt q_rm
  ·refine q_sk (s_vv [] 4 [7,8,40] [(9,vc (.fn 178 [.bptr 3 0 0,.bptr 2 0 0]))] ?_);obtain⟨v13,h14,hm⟩:=qE hm
   refine s_vu [qd 2 (dex (cen [(3,0),(2,0),(1,0)] [0,0,1] 1 2 (VE a2 v6 v4 v13) (GF a2 v6 v4 v13) [44,45] [3,2,1])) (zG (K:=(kx E 69 0)) ⟨[(44,vc (.fn 178 [.bptr 3 0 0,.bptr 2 0 0])),(45,vi a2)],[(3,bx 190 (ZQ v6)),(2,bx 52 [.own 1 0 2 v4.length]),(1,ro 0 71 2 v4.length (rf qB v4))]⟩ (opAt (rg f149 126) 2) [(3,0),(2,0),(1,0)] [0,0,1] 1 o0 rfl (MA a2 v6 v4 v13 h14) (.inl rfl) (by kernel_rfl))] 4 [1] [(10,vi v13.1),(11,vi v13.2)] [1,2] [(1,ro 1 71 2 v4.length (rf qB v4)),(2,bx 52 [.own 1 1 2 v4.length])] ?_;obtain⟨v15,h16,hm⟩:=qE hm
   refine s_vu [qd 2 (dex (cen [(3,0),(2,0),(1,1)] [0,0,2] 1 2 (VE a3 v6 v4 v15) (GF a3 v6 v4 v15) [50,51] [3,2,1])) (zG (K:=(kx E 69 0)) ⟨[(50,vc (.fn 178 [.bptr 3 0 0,.bptr 2 0 0])),(51,vi a3)],[(3,bx 190 (ZQ v6)),(2,bx 52 [.own 1 1 2 v4.length]),(1,ro 1 71 2 v4.length (rf qB v4))]⟩ (opAt (rg f149 254) 2) [(3,0),(2,0),(1,1)] [0,0,2] 1 o0 rfl (MA a3 v6 v4 v15 h16) (.inl rfl) (by kernel_rfl))] 4 [2,9] [(12,vi v15.1),(13,vi v15.2)] [1,2,3] [] (s_vu [] 4 [10,11,12,13] [(14,vp 4 0)] [] [(4,bx 64 [ci (imax v13.1 v15.1),ci (imin v13.2 v15.2)])] ?_)
   refine q_sq (s_va 5 [(66,vb (decide ((imax v13.1 v15.1)≥(imin v13.2 v15.2))))] ?_);refine q_cq hm (λhm=>?_) (λhm=>?_)
   ·refine s_vu [] 5 [14,66] [] [4] [] ?_;obtain rfl:=oi hm;exact q_rt q_rm
   ·refine q_sk (s_vn [] 5 ⟨[(6,vp 0 0)],[(0,bx 64 [ci (imax v13.1 v15.1),ci (imin v13.2 v15.2)])]⟩ ?_);obtain rfl:=oi hm;exact q_rt q_rm
 ·rcases bif_c hm with⟨b8,hm⟩|⟨b8,hm⟩
  ·exact q_vv [qf 3 b8] 4 [] [(40,vb true)] (q_J (true) hm)
  ·rcases bif_c hm with⟨b9,hm⟩|⟨b9,hm⟩
   ·exact q_vv [qf 3 b8,qf 8 b9] 4 [] [(40,vb true)] (q_J (true) hm)
   ·rcases bif_c hm with⟨b10,hm⟩|⟨b10,hm⟩
    ·exact q_vv [qf 3 b8,qf 8 b9,qf 15 b10] 4 [] [(40,vb true)] (q_J (true) hm)
    ·exact q_vv [qf 3 b8,qf 8 b9,qf 15 b10] 4 [] [(40,vb (decide (a3>v6.Y.B)))] (q_J (decide (a3>v6.Y.B)) hm)
def SN (a1:Int) (a2:List qA) (r:Span):V:=va (qH r)
def ST (a1:Int) (a2:List qA) (r:Span):List (Nat×(Nat×O)):=[(0,bx 52 [tl qB dd a2])]
theorem qCc (a1:Int) (a2:List qA) (r:Span) (hm:NZ a1 a2=some r):CtX Tryz.prog globs 147 1 1 [.one (ci a1),.one (.bptr 0 0 0)] [(0,bx 52 [tl qB dd a2])] (SN a1 a2 r) (ST a1 a2 r):=by
 unfold NZ at hm;refine q_E f147 15 λE=>?_;refine s_vn [] 1 ⟨[(0,vi a1),(1,vp 0 0),(3,vp 1 0)],[(0,bx 52 [tl qB dd a2]),(1,bx 64 [ci 0,ci 0])]⟩ ?_;obtain⟨v3,h4,hm⟩:=qE hm;refine s_vu [qc 3 [5,7] 2 (OC a1 (w64 (a1+1)) v3 h4)] 2 [0] [(4,vp 2 0)] [] [(2,bx 64 (qH v3))] ?_;obtain⟨v5,h6,hm⟩:=qE hm;refine s_vu [qc 5 [9,11,13] 3 (qEl a2 v3.A v3.B v5 h6)] 3 [1,4] [] [1,2] [(1,bx 64 (qH v5))] ?_;obtain rfl:=oi hm;exact q_rt q_rm
open Go.Proofs Go.Proofs.Tryz
def qAU (r:Bool):V:=vb r
def qAH (r:Bool):List (Nat×(Nat×O)):=[]
theorem wG (a1:Span) (r:Bool) (hm:jI a1=some r):CtX Tryz.prog globs 118 0 0 [.agg (qH a1)] [] (qAU r) (qAH r):=by
 unfold jI at hm;refine q_E f118 8 λE=>?_;refine s_vn [] 0 ⟨[(1,vp 0 0)],[(0,bx 64 (qH a1))]⟩ (s_vn [] 1 ⟨[(2,vb (decide (a1.A≥a1.B)))],[]⟩ ?_);obtain rfl:=oi hm;exact q_rt q_rm
def MQ (a1:List qA) (r:qG):V:=va [ci r.Low,.own 1 0 2 r.Rows.length]
def LW (a1:List qA) (r:qG):List (Nat×(Nat×O)):=[(0,bx 52 [tl qB dd a1]),(1,ro 0 64 2 r.Rows.length (rf qH r.Rows))]
def JL (a1:List qA) (x3:Int):St:=
 ⟨[(0,vc (.fn 147 [.bptr 0 0 0])),(2,vp 1 0),(3,vp 2 0),(5,vi x3)],[(0,bx 52 [tl qB dd a1]),(1,bx 48 [ci 0,.emp])]⟩
def GZ (a1:List qA) (x3:Int) (x17:Int) (x18:Int) (l19:List Span) (l19n:Nat):St:=
 (JL a1 x3).up [] [(4,vi x17)] [] [(2,bx 48 [ci x18,.own 3 0 2 l19n]),(3,ro 0 64 2 l19n (rf qH l19))]
def OV (a1:List qA) (x3:Int) (l5:List Span) (v7:Span) (x13:Int):St:=
 (JL a1 x3).up [] [(6,vp 4 0)] [] [(2,bx 48 [ci x13,.own 3 0 2 l5.length]),(3,ro 0 64 2 l5.length (rf qH l5)),(4,bx 64 (qH v7))]
def XZ (a1:List qA) (x2:Int) (x3:Int) (x4:Int) (l5:List Span) (l5n:Nat):St:=
 (JL a1 x3).up [] [(4,vi x2)] [] [(2,bx 48 [ci x4,.own 3 0 2 l5n]),(3,ro 0 64 2 l5n (rf qH l5))]
def DB (a1:List qA) (x20:Int) (x21:Int) (l22:List Span):St:=
 ⟨[(2,vp 1 0),(3,vp 2 0),(4,vi x20)],[(0,bx 52 [tl qB dd a1]),(1,bx 48 [ci 0,.emp]),(2,bx 48 [ci x21,.own 3 0 2 l22.length]),(3,ro 0 64 2 l22.length (rf qH l22))]⟩
theorem OB (E:Env 1) (a1:List qA):∀(n:Nat) (x2:Int) (x3:Int) (x4:Int) (l5:List Span) (l5n:Nat) (res:Int×Int×(List Span)),l5.length=l5n->wE a1 n x2 x3 x4 l5=some res->HL (kx E 46 1) (nd f80 244) (zT 0 (λo=>DB a1 o.1 o.2.1 o.2.2) res) n (XZ a1 x2 x3 x4 l5 l5n):=by
 intro n
 induction n with
 |zero=>
  intro x2 x3 x4 l5 l5n res hl0 hm;cases hm
 |succ n ih=>
  intro x2 x3 x4 l5 l5n res hl0 hm;subst hl0;refine qT (q_sq ?_);refine s_va 4 [(8,vb (decide (x3<60)))] (q_cq hm (λhm=>?_) (λhm=>?_))
  ·refine q_sk (q_jn (ι:=Int×Int×(List Span)×Nat) (λp=>GZ a1 x3 p.1 p.2.1 p.2.2.1 p.2.2.2) (λp=>p.2.2.1.length=p.2.2.2/\JR x3 (wE a1 n) p.1 p.2.1 p.2.2.1=some res) ?_ ?_)
   ·rintro⟨x17,x18,l19,l19n⟩ ⟨el19,hm⟩;replace el19:l19.length=l19n:=el19;subst el19;show H _ (GZ a1 x3 x17 x18 l19 l19.length) _ _;exact q_vv [] 6 [5] [(5,vi (w64 (x3+1)))] (q_hl (XZ a1 x17 (w64 (x3+1)) x18 l19 l19.length) (ih x17 (w64 (x3+1)) x18 l19 l19.length _ rfl hm))
   ·refine q_bk 1 ?_;obtain⟨v7,h8,hm⟩:=qE hm;refine s_vu [qd 2 (dex (cen [(0,0)] [0] 3 1 (SN x3 a1 v7) (ST x3 a1 v7) [11,12] [0])) (zG (K:=(kx E 46 1)) ⟨[(11,vc (.fn 147 [.bptr 0 0 0])),(12,vi x3)],[(0,bx 52 [tl qB dd a1])]⟩ (opAt (rg f80 3912) 2) [(0,0)] [0] 3 o0 rfl (qCc x3 a1 v7 h8) (.inl rfl) (by kernel_rfl))] 4 [8] [(6,vp 4 0)] [] [(4,bx 64 (qH v7))] (q_bk 2 ?_);obtain⟨v9,h10,hm⟩:=qE hm;refine s_vv [qc 1 [15] 5 (wG v7 v9 h10)] 5 [] [(14,vb (!v9))] (q_cq hm (λhm=>?_) (λhm=>?_))
    ·refine q_jn (OV a1 x3 l5 v7) (λp=>RJ x3 l5 (wE a1 n) v7 p=some res) ?_ ?_
     ·rintro x13 hm;obtain⟨g14,hm⟩:=qJ hm;refine s_vu [qd 3 (drw 5 0 (rf qH [v7])) (litP qH dd 2 (λ_=>rfl) ([v7]:List Span) 1 rfl),qd 4 (drw 3 1 (rf qH (l5++[v7]))) (apP qH dd l5 ([v7]:List Span) l5.length 1 2 16 (1<=1) (kr _) rfl rfl (λ_=>rfl) (zW g14))] 5 [6] [] [2,3,4] [(2,bx 48 [ci x13,.own 3 1 2 (l5.length+1)]),(3,ro 1 64 2 (l5.length+1) (rf qH (l5++[v7])))] (q_va 6 [(4,vi (((l5.length+1):Nat):Int))] ?_);exact q_J ((((l5.length+1):Nat):Int),x13,(l5++[v7]),(l5.length+1)) ⟨(wK rfl rfl),hm⟩
     ·refine s_vv [] 5 [4,14] [(19,vb (x2==0))] (q_cq hm (λhm=>?_) (λhm=>?_))
      ·exact q_vu [] 5 [19] [] [2] [(2,bx 48 [ci x3,.own 3 0 2 l5.length])] (q_J (x3) hm)
      ·exact q_sk (q_J (x4) hm)
    ·refine s_vu [] 5 [6,14] [(31,vb (decide (x2>0)))] [4] [] (q_cq hm (λhm=>?_) (λhm=>?_))
     ·obtain⟨g16,hm⟩:=qJ hm;exact q_vu [qd 3 (drw 5 0 (rf qH [(Span.mk 0 0)])) (litP qH dd 2 (λ_=>rfl) ([(Span.mk 0 0)]:List Span) 1 rfl),qd 4 (drw 3 1 (rf qH (l5++[(Span.mk 0 0)]))) (apP qH dd l5 ([(Span.mk 0 0)]:List Span) l5.length 1 2 16 (1<=1) (kr _) rfl rfl (λ_=>rfl) (zW g16))] 5 [31] [] [2,3] [(2,bx 48 [ci x4,.own 3 1 2 (l5.length+1)]),(3,ro 1 64 2 (l5.length+1) (rf qH (l5++[(Span.mk 0 0)])))] (q_J (x2,x4,(l5++[(Span.mk 0 0)]),(l5.length+1)) ⟨(wK rfl rfl),hm⟩)
     ·exact q_sk (q_J (x2,x4,l5,l5.length) ⟨rfl,hm⟩)
  ·refine q_ex 0 ?_;obtain rfl:=oi hm;exact q_l0
theorem qBK (a1:List qA) (r:qG) (hm:BD a1=some r):CtX Tryz.prog globs 80 1 1 [.one (.fn 147 [.bptr 0 0 0])] [(0,bx 52 [tl qB dd a1])] (MQ a1 r) (LW a1 r):=by
 unfold BD at hm;refine q_E f80 46 λE=>?_;refine s_vn [] 1 ⟨[(0,vc (.fn 147 [.bptr 0 0 0])),(2,vp 1 0)],[(0,bx 52 [tl qB dd a1]),(1,bx 48 [ci 0,.emp])]⟩ (s_vu [] 2 [] [(3,vp 2 0)] [] [(2,bx 48 [ci 0,.emp])] ?_);refine s_va 3 [(4,vi 0)] (q_sq ?_);refine s_va 3 [(5,vi (-60))] (q_fu [.ownB 2 1 3 64 2 (rf qH [])] [] [] [2] [(2,bx 48 [ci 0,.own 3 0 2 0]),(3,ro 0 64 2 0 (rf qH []))] o0 ?_);obtain⟨o23,h24,hm⟩:=qE hm;refine zQ (nd f80 244) 0 (by kernel_rfl) FUEL (λo=>DB a1 o.1 o.2.1 o.2.2) o23 (q_hl (XZ a1 0 (-60) 0 ([]:List Span) 0) (OB E a1 FUEL 0 (-60) 0 ([]:List Span) 0 o23 rfl h24)) ?_
 obtain⟨g25,hm⟩:=qJ hm;refine s_wu [qd 3 dN (And.intro (qZ g25).2.1 (qZ g25).2.2)] [.row 3 o23.1.toNat (rf qH (o23.2.2.take o23.1.toNat))] (o1 (tkP qH dd o23.2.2 o23.2.2.length o23.1.toNat (show o23.1.toNat<=o23.2.2.length by have:=(qZ g25);omega))) 4 [4] [] [2,3] [(2,bx 48 [ci o23.2.1,.own 3 0 2 o23.1.toNat]),(3,ro 0 64 2 o23.1.toNat (rf qH (o23.2.2.take o23.1.toNat)))] (s_vu [] 4 [3] [] [1,2] [(1,bx 48 [ci o23.2.1,.own 3 0 2 o23.1.toNat])] ?_)
 refine q_fu [.len 3 ((o23.2.2.take o23.1.toNat).length)] [] [] [1,3] [(1,bx 48 [ci o23.2.1,.own 3 0 2 ((o23.2.2.take o23.1.toNat).length)]),(3,ro 0 64 2 ((o23.2.2.take o23.1.toNat).length) (rf qH (o23.2.2.take o23.1.toNat)))] (o1 (And.intro (Eq.symm (show(o23.2.2.take o23.1.toNat).length=o23.1.toNat from(JK rfl (show o23.1.toNat<=o23.2.2.length by have:=(qZ g25);omega)))) (Eq.symm (show(o23.2.2.take o23.1.toNat).length=o23.1.toNat from(JK rfl (show o23.1.toNat<=o23.2.2.length by have:=(qZ g25);omega)))))) ?_;obtain rfl:=oi hm;exact q_sw 3 1 (q_rt q_rm)
def OE (r:qG×Int):V:= .tup [.agg [ci r.1.Low,.own 0 0 2 r.1.Rows.length],.one (ci r.2)]
def UE (r:qG×Int):List (Nat×(Nat×O)):=[(0,ro 0 64 2 r.1.Rows.length (rf qH r.1.Rows))]
theorem qGd (r:qG×Int):QI (UE r):=by
 intro i k o h;unfold UE at h;rw[look_cons] at h;split at h
 ·cases h;exact λ_ _=>rfl
 ·cases h
theorem qEQ (a1:List qA) (r:qG×Int) (hm:EP a1=some r):CtX Tryz.prog globs 92 0 0 [.one (tl qB dd a1)] [] (OE r) (UE r):=by
 unfold EP at hm;refine q_E f92 20 λE=>?_;refine s_vn [] 0 ⟨[(1,vp 0 0),(2,vp 1 0)],[(0,bx 52 [tl qB dd a1]),(1,bx 48 [ci 0,.emp])]⟩ (q_sq ?_);obtain⟨v2,h3,hm⟩:=qE hm;refine s_vv [qc 1 [6] 2 (qEp a1 v2 h3)] 2 [] [(4,vi v2)] (s_va 2 [(9,vb (v2 !=0))] ?_);refine q_cq hm (λhm=>?_) (λhm=>?_)
 ·refine s_vu [] 2 [1,4,9] [(3,vi v2)] [0] [] (q_fu [.ownB 1 1 2 64 2 (rf qH [])] [] [] [1] [(1,bx 48 [ci 0,.own 2 0 2 0]),(2,ro 0 64 2 0 (rf qH []))] o0 ?_);refine q_fu [.len 2 (([]:List Span).length)] [] [] [1,2] [(1,bx 48 [ci 0,.own 2 0 2 (([]:List Span).length)]),(2,ro 0 64 2 (([]:List Span).length) (rf qH []))] (o1 (And.intro (show 0=([]:List Span).length from rfl) (show 0=([]:List Span).length from rfl))) ?_;obtain rfl:=oi hm;exact q_sw 2 0 (q_rt q_rm)
 ·refine q_sk ?_;obtain⟨v5,h6,hm⟩:=qE hm;refine s_vu [qd 1 (dex (cen [(0,0)] [0] 1 1 (MQ a1 v5) (LW a1 v5) [12] [0])) (zG (K:=(kx E 20 0)) ⟨[(12,vc (.fn 147 [.bptr 0 0 0]))],[(0,bx 52 [tl qB dd a1])]⟩ (opAt (rg f92 14) 1) [(0,0)] [0] 1 o0 rfl (qBK a1 v5 h6) (.inl rfl) (by kernel_rfl))] 2 [1,4,9] [(5,vp 3 0)] [0] [(2,ro 0 64 2 v5.Rows.length (rf qH v5.Rows)),(3,bx 48 [ci v5.Low,.own 2 0 2 v5.Rows.length])] (q_sq ?_);refine s_va 4 [(17,vb ((v5.Rows.length:Int)==0))] (q_cq hm (λhm=>?_) (λhm=>?_))
  ·refine s_vu [] 4 [5,17] [(3,vi 18)] [2,3] [] (q_fu [.ownB 1 1 4 64 2 (rf qH [])] [] [] [1] [(1,bx 48 [ci 0,.own 4 0 2 0]),(4,ro 0 64 2 0 (rf qH []))] o0 ?_);refine q_fu [.len 4 (([]:List Span).length)] [] [] [1,4] [(1,bx 48 [ci 0,.own 4 0 2 (([]:List Span).length)]),(4,ro 0 64 2 (([]:List Span).length) (rf qH []))] (o1 (And.intro (show 0=([]:List Span).length from rfl) (show 0=([]:List Span).length from rfl))) ?_;obtain rfl:=oi hm;exact q_sw 4 0 (q_rt q_rm)
  ·refine q_sk (s_vu [] 4 [5,17] [(3,vi 0)] [1,3] [(1,bx 48 [ci v5.Low,.own 2 0 2 v5.Rows.length])] ?_);obtain rfl:=oi hm;exact q_sw 2 0 (q_rt q_rm)
open Go.Proofs Go.Proofs.Tryz
def qBp (r:qG×Int):V:= .tup [.agg [ci r.1.Low,.own 0 0 2 r.1.Rows.length],.one (ci r.2)]
def qBf (r:qG×Int):List (Nat×(Nat×O)):=[(0,ro 0 64 2 r.1.Rows.length (rf qH r.1.Rows))]
theorem qAI (a1:Ring) (a2:Int) (a3:Int) (r:qG×Int) (hm:VR a1 a2 a3=some r):CtX Tryz.prog globs 44 0 0 [.agg (qO a1),.one (ci a2),.one (ci a3)] [] (qBp r) (qBf r):=by
 unfold VR at hm;refine q_E f44 26 λE=>?_;refine s_vn [] 0 ⟨[(1,vi a2),(2,vi a3),(3,vp 0 0),(6,vp 1 0)],[(0,bx 45 (qO a1)),(1,bx 48 [ci 0,.emp])]⟩ ?_;obtain⟨v4,h5,hm⟩:=qE hm;obtain⟨v6,h7,hm⟩:=qE hm
 refine s_vu [qc 2 [11,12] 2 (qEA a1 a2 v4 h5),qd 4 (dex (cen [] [] 3 0 (IJ v6) (PJ v6) [13,14] [2])) (zG (K:=(kx E 26 0)) (b:=false) ⟨[(13,va [ci v4.Z,.own 2 0 3 v4.Read.length]),(14,vi a3)],[(2,ro 0 73 3 v4.Read.length (rf qF v4.Read))]⟩ (opAt (rg f44 6) 4) [] [] 3 (o1 (kr v4.Read.length)) rfl (qDt (Ring.mk v4.Z v4.Read) a3 v6 h7) (.inr ⟨(by kernel_rfl),qEL v6⟩) (by kernel_rfl))] 2 [1,2,3] [(8,vo 3 0 2 v6.1.length),(9,vi v6.2)] [0] [(3,ro 0 71 2 v6.1.length (rf qB v6.1))] (q_sq ?_);refine s_va 4 [(19,vb (v6.2 !=0))] (q_cq hm (λhm=>?_) (λhm=>?_))
 ·refine s_vu [] 4 [8,9,19] [(7,vi v6.2)] [3] [] (q_fu [.ownB 1 1 4 64 2 (rf qH [])] [] [] [1] [(1,bx 48 [ci 0,.own 4 0 2 0]),(4,ro 0 64 2 0 (rf qH []))] o0 ?_);refine q_fu [.len 4 (([]:List Span).length)] [] [] [1,4] [(1,bx 48 [ci 0,.own 4 0 2 (([]:List Span).length)]),(4,ro 0 64 2 (([]:List Span).length) (rf qH []))] (o1 (And.intro (show 0=([]:List Span).length from rfl) (show 0=([]:List Span).length from rfl))) ?_;obtain rfl:=oi hm;exact q_sw 4 0 (q_rt q_rm)
 ·refine q_sk ?_;obtain⟨v9,h10,hm⟩:=qE hm;refine s_vn [qd 1 (dex (cen [] [] 4 0 (OE v9) (UE v9) [22] [3])) (zG (K:=(kx E 26 0)) (b:=false) ⟨[(22,vo 3 0 2 v6.1.length)],[(3,ro 0 71 2 v6.1.length (rf qB v6.1))]⟩ (opAt (rg f44 30) 1) [] [] 4 (o1 (kr v6.1.length)) rfl (qEQ v6.1 v9 h10) (.inr ⟨(by kernel_rfl),qGd v9⟩) (by kernel_rfl))] 4 ⟨[(6,vp 1 0),(7,vi v9.2)],[(1,bx 48 [ci v9.1.Low,.own 4 0 2 v9.1.Rows.length]),(4,ro 0 64 2 v9.1.Rows.length (rf qH v9.1.Rows))]⟩ ?_;obtain rfl:=oi hm;exact q_sw 4 0 (q_rt q_rm)
def qAS (r:Bool):V:=vb r
def qAD (r:Bool):List (Nat×(Nat×O)):=[]
def EU (x3:Bool):St:=
 ⟨[(2,vb x3)],[]⟩
theorem qAg (a1:Span) (r:Bool) (hm:UM a1=some r):CtX Tryz.prog globs 117 0 0 [.agg (qH a1)] [] (qAS r) (qAD r):=by
 unfold UM at hm;refine q_E f117 17 λE=>?_;refine s_vn [] 0 ⟨[(1,vp 0 0)],[(0,bx 64 (qH a1))]⟩ (q_jn (EU) (λp=>XN p=some r) ?_ ?_)
 ·rintro x3 hm;obtain rfl:=oi hm;exact q_rt q_rm
 ·rcases bif_c hm with⟨b2,hm⟩|⟨b2,hm⟩
  ·exact q_vn [qf 6 b2] 1 ⟨[(2,vb (decide ((imax a1.A a1.B)<=600)))],[]⟩ (q_J (decide ((imax a1.A a1.B)<=600)) hm)
  ·exact q_vn [qf 6 b2] 1 ⟨[(2,vb false)],[]⟩ (q_J (false) hm)
def ZZ (r:Int):V:=vi r
def ZR (r:Int):List (Nat×(Nat×O)):=[]
def XS (a1:qG) (x6:Int):St:=
 ⟨[(1,vp 0 0),(3,vi (a1.Rows.length:Int)),(24,vc (tl qH dd a1.Rows)),(25,vi (a1.Rows.length:Int)),(26,vi x6)],[(0,bx 48 (qQ a1))]⟩
def GU (a1:qG):St:=
 ⟨[(1,vp 0 0),(3,vi (a1.Rows.length:Int))],[(0,bx 48 (qQ a1))]⟩
def OL (a1:qG) (x27:Int) (x33:Bool):St:=
 ⟨[(54,vc (tl qH dd a1.Rows)),(55,vi (a1.Rows.length:Int)),(56,vi x27),(66,vb x33)],[]⟩
def XP (a1:qG) (x27:Int):St:=
 ⟨[(54,vc (tl qH dd a1.Rows)),(55,vi (a1.Rows.length:Int)),(56,vi x27)],[]⟩
def GV :St:=
 ⟨[],[]⟩
def CR (a1:qG) (x25:Bool):St:=
 ⟨[(1,vp 0 0),(52,vb x25)],[(0,bx 48 (qQ a1))]⟩
def OP (a1:qG) (x4:Bool):St:=
 ⟨[(1,vp 0 0),(3,vi (a1.Rows.length:Int)),(22,vb x4)],[(0,bx 48 (qQ a1))]⟩
theorem IT (E:Env 0) (a1:qG):∀(n:Nat) (x6:Int) (res:Int⊕Unit),RC a1 n x6=some res->HL (kx E 68 0) (nd f62 500) (yS 0 (λo=>GU a1) (λv st=>RetQ Tryz.prog f62 (ZZ v) (ZR v) .ret st) res) n (XS a1 x6):=by
 intro n
 induction n with
 |zero=>
  intro x6 res hm;cases hm
 |succ n ih=>
  intro x6 res hm;refine qT (s_va 1 [(27,vb (decide (x6<(a1.Rows.length:Int))))] ?_);refine q_sq (q_cq hm (λhm=>?_) (λhm=>?_))
  ·refine q_sk (q_sq ?_);refine q_bk 1 ?_;obtain⟨g8,hm⟩:=qJ hm;refine s_vu [qi 0 g8] 1 [27] [(5,vp 1 0)] [] [(1,bx 64 (qH (a1.Rows.getD x6.toNat dd)))] ?_;obtain⟨v9,h10,hm⟩:=qE hm;refine s_vu [qc 1 [30] 2 (qAg (a1.Rows.getD x6.toNat dd) v9 h10)] 2 [5] [(32,vb (!v9))] [1] [] (q_cq hm (λhm=>?_) (λhm=>?_))
   ·refine s_vn [] 2 ⟨[(2,vi 9)],[]⟩ ?_;obtain rfl:=oi hm;refine q_rt (zU 9 ?_);exact q_rm
   ·refine q_sk (q_vv [] 2 [26,32] [(26,vi (w64 (x6+1)))] ?_);exact q_hl (XS a1 (w64 (x6+1))) (ih (w64 (x6+1)) _ hm)
  ·refine q_ex 0 ?_;obtain rfl:=oi hm;exact q_l1 ()
theorem IN (E:Env 0) (a1:qG):∀(n:Nat) (x27:Int) (res:Int⊕Unit),ZB a1 n x27=some res->HL (kx E 68 0) (nd f62 4084) (yS 2 (λo=>GV) (λv st=>RetQ Tryz.prog f62 (ZZ v) (ZR v) .ret st) res) n (XP a1 x27):=by
 intro n
 induction n with
 |zero=>
  intro x27 res hm;cases hm
 |succ n ih=>
  intro x27 res hm;refine qT (s_va 1 [(57,vb (decide (x27<(a1.Rows.length:Int))))] ?_);refine q_sq (q_cq hm (λhm=>?_) (λhm=>?_))
  ·refine q_sk (q_sq ?_);refine q_bk 3 ?_;obtain⟨g29,hm⟩:=qJ hm;refine s_vu [qi 0 g29] 1 [57] [(7,vp 1 0)] [] [(1,bx 64 (qH (a1.Rows.getD x27.toNat dd)))] (q_jn (OL a1 x27) (λp=>PS x27 (ZB a1 n) p=some res) ?_ ?_)
   ·rintro x33 hm;refine q_cq hm (λhm=>?_) (λhm=>?_)
    ·refine s_vn [] 2 ⟨[(2,vi 19)],[]⟩ ?_;obtain rfl:=oi hm;refine q_rt (zU 19 ?_);exact q_rm
    ·refine q_sk (q_vv [] 2 [56,66] [(56,vi (w64 (x27+1)))] ?_);exact q_hl (XP a1 (w64 (x27+1))) (ih (w64 (x27+1)) _ hm)
   ·obtain⟨v30,h31,hm⟩:=qE hm;rcases bif_c hm with⟨b32,hm⟩|⟨b32,hm⟩
    ·exact q_vu [qc 1 [60] 2 (wG (a1.Rows.getD x27.toNat dd) v30 h31),qf 2 b32] 2 [7] [(66,vb (!((((a1.Rows.getD x27.toNat dd).A)==0)&&((((a1.Rows.getD x27.toNat dd).B)==0)&&true))))] [1] [] (q_J (!((((a1.Rows.getD x27.toNat dd).A)==0)&&((((a1.Rows.getD x27.toNat dd).B)==0)&&true))) hm)
    ·exact q_vu [qc 1 [60] 2 (wG (a1.Rows.getD x27.toNat dd) v30 h31),qf 2 b32] 2 [7] [(66,vb false)] [1] [] (q_J (false) hm)
  ·refine q_ex 2 ?_;obtain rfl:=oi hm;exact q_l1 ()
theorem FK (a1:qG) (r:Int) (hm:PN a1=some r):CtX Tryz.prog globs 62 0 0 [.agg (qQ a1)] [] (ZZ r) (ZR r):=by
 unfold PN at hm;refine q_E f62 68 λE=>?_;refine s_vn [] 0 ⟨[(1,vp 0 0)],[(0,bx 48 (qQ a1))]⟩ (s_va 1 [(3,vi (a1.Rows.length:Int))] ?_);refine q_sq (s_va 1 [(12,vb (decide ((a1.Rows.length:Int)>120)))] ?_);refine q_cq hm (λhm=>?_) (λhm=>?_)
 ·refine s_vn [] 1 ⟨[(2,vi 4)],[]⟩ ?_;obtain rfl:=oi hm;exact q_rt q_rm
 ·refine q_sk (q_sq ?_);refine q_jn (OP a1) (λp=>RA a1 p=some r) ?_ ?_
  ·rintro x4 hm;refine q_cq hm (λhm=>?_) (λhm=>?_)
   ·refine s_vn [] 1 ⟨[(2,vi 9)],[]⟩ ?_;obtain rfl:=oi hm;exact q_rt q_rm
   ·refine q_sk (q_sq ?_);refine s_vv [] 1 [22] [(24,vc (tl qH dd a1.Rows)),(25,vi (a1.Rows.length:Int)),(26,vi 0)] ?_;obtain⟨u14,h13,hm⟩:=qE hm;refine wL (nd f62 500) 0 (by kernel_rfl) FUEL (λo=>GU a1) (λv st=>RetQ Tryz.prog f62 (ZZ v) (ZR v) .ret st) u14 (q_hl (XS a1 0) (IT E a1 FUEL 0 u14 h13)) ?_ ?_
    ·rintro v15 rfl st hr;obtain rfl:=oi hm;exact hr
    ·rintro o12 rfl;replace hm:_=some r:=hm;refine q_sq (s_va 1 [(35,vb ((a1.Rows.length:Int)==0))] ?_);refine q_cq hm (λhm=>?_) (λhm=>?_)
     ·refine q_sq (s_vn [] 1 ⟨[(38,vb (a1.Low !=0))],[]⟩ ?_);refine q_cq hm (λhm=>?_) (λhm=>?_)
      ·refine s_vn [] 1 ⟨[(2,vi 19)],[]⟩ ?_;obtain rfl:=oi hm;exact q_rt q_rm
      ·refine q_sk (s_vn [] 1 ⟨[(2,vi 0)],[]⟩ ?_);obtain rfl:=oi hm;exact q_rt q_rm
     ·refine q_sk (q_sq ?_);refine q_jn (CR a1) (λp=>RE a1 p=some r) ?_ ?_
      ·rintro x25 hm;refine q_cq hm (λhm=>?_) (λhm=>?_)
       ·refine s_vn [] 1 ⟨[(2,vi 19)],[]⟩ ?_;obtain rfl:=oi hm;exact q_rt q_rm
       ·refine q_sk (q_sq ?_);refine s_vn [] 1 ⟨[(54,vc (tl qH dd a1.Rows)),(55,vi (a1.Rows.length:Int)),(56,vi 0)],[]⟩ ?_;obtain⟨u37,h36,hm⟩:=qE hm;refine wL (nd f62 4084) 2 (by kernel_rfl) FUEL (λo=>GV) (λv st=>RetQ Tryz.prog f62 (ZZ v) (ZR v) .ret st) u37 (q_hl (XP a1 0) (IN E a1 FUEL 0 u37 h36)) ?_ ?_
        ·rintro v38 rfl st hr;obtain rfl:=oi hm;exact hr
        ·rintro o35 rfl;replace hm:_=some r:=hm;refine s_vn [] 1 ⟨[(2,vi 0)],[]⟩ ?_;obtain rfl:=oi hm;exact q_rt q_rm
      ·obtain⟨g18,hm⟩:=qJ hm;obtain⟨v19,h20,hm⟩:=qE hm;rcases bif_c hm with⟨b21,hm⟩|⟨b21,hm⟩
       ·exact q_vv [qi 2 g18,qc 4 [42] 1 (wG (a1.Rows.getD (0:Int).toNat dd) v19 h20),qf 5 b21] 1 [3,35] [(52,vb true)] (q_J (true) hm)
       ·obtain⟨g22,hm⟩:=qJ hm;obtain⟨v23,h24,hm⟩:=qE hm;exact q_vv [qi 2 g18,qc 4 [42] 1 (wG (a1.Rows.getD (0:Int).toNat dd) v19 h20),qf 5 b21,qi 10 g22,qk 12 [44,50] 1 ⟨[(44,vb false),(50,va [ci ((a1.Rows.getD (w64 ((a1.Rows.length:Int)-1)).toNat dd).A),ci ((a1.Rows.getD (w64 ((a1.Rows.length:Int)-1)).toNat dd).B)])],[]⟩ (wG (a1.Rows.getD (w64 ((a1.Rows.length:Int)-1)).toNat dd) v23 h24)] 1 [3,35] [(52,vb v23)] (q_J (v23) hm)
  ·rcases bif_c hm with⟨b3,hm⟩|⟨b3,hm⟩
   ·exact q_vv [qf 3 b3] 1 [12] [(22,vb true)] (q_J (true) hm)
   ·exact q_vv [qf 3 b3] 1 [12] [(22,vb (decide (a1.Low>(w64 (60-(a1.Rows.length:Int))))))] (q_J (decide (a1.Low>(w64 (60-(a1.Rows.length:Int))))) hm)
open Go.Proofs Go.Proofs.Tryz
def qCj (r:qG):V:=va (qQ r)
def qCl (r:qG):List (Nat×(Nat×O)):=[]
theorem PX (a1:qG) (r:qG) (hm:YN a1=some r):CtX Tryz.prog globs 78 0 0 [.agg (qQ a1)] [] (qCj r) (qCl r):=by
 unfold YN at hm;refine q_E f78 8 λE=>?_;refine s_vn [] 0 ⟨[(1,vp 0 0),(2,vp 1 0)],[(0,bx 48 (qQ a1)),(1,bx 48 [ci 0,.emp])]⟩ (q_sq ?_);obtain⟨v2,h3,hm⟩:=qE hm;refine s_vv [qc 1 [3] 2 (FK a1 v2 h3)] 2 [] [(5,vb (v2 !=0))] (q_cq hm (λhm=>?_) (λhm=>?_))
 ·refine s_vu [] 2 [1,5] [] [0] [] (q_fu [.ownB 1 1 2 64 2 (rf qH [])] [] [] [1] [(1,bx 48 [ci 0,.own 2 0 2 0]),(2,ro 0 64 2 0 (rf qH []))] o0 ?_);refine q_fu [.len 2 (([]:List Span).length),.frz 2] [] [] [1,2] [(1,bx 48 [ci 0,tl qH dd ([]:List Span)])] (o1 (And.intro (And.intro (show 0=([]:List Span).length from rfl) (show 0=([]:List Span).length from rfl)) (kr (([]:List Span).length)))) ?_;obtain rfl:=oi hm;exact q_rt q_rm
 ·refine q_sk (s_vn [] 2 ⟨[(2,vp 1 0)],[(1,bx 48 (qQ a1))]⟩ ?_);obtain rfl:=oi hm;exact q_rt q_rm
def qGf (r:Span):V:=va (qH r)
def qGg (r:Span):List (Nat×(Nat×O)):=[]
def qB5 (a1:qG) (a2:Int) (x4:Bool):St:=
 ⟨[(1,vi a2),(2,vp 0 0),(4,vp 1 0),(18,vb x4)],[(0,bx 48 (qQ a1)),(1,bx 64 [ci 0,ci 0])]⟩
theorem IG (a1:qG) (a2:Int) (r:Span) (hm:NI a1 a2=some r):CtX Tryz.prog globs 82 0 0 [.agg (qQ a1),.one (ci a2)] [] (qGf r) (qGg r):=by
 unfold NI at hm;refine q_E f82 28 λE=>?_;refine s_vn [] 0 ⟨[(1,vi a2),(2,vp 0 0),(4,vp 1 0)],[(0,bx 48 (qQ a1)),(1,bx 64 [ci 0,ci 0])]⟩ (q_sq ?_);refine q_jn (qB5 a1 a2) (λp=>BN a1 a2 p=some r) ?_ ?_
 ·rintro x4 hm;refine q_cq hm (λhm=>?_) (λhm=>?_)
  ·refine s_vu [] 2 [1,2,18] [] [0] [] ?_;obtain rfl:=oi hm;exact q_rt q_rm
  ·refine q_sk ?_;obtain⟨g6,hm⟩:=qJ hm;refine s_vn [qi 6 g6] 2 ⟨[(4,vp 1 0)],[(1,bx 64 (qH (a1.Rows.getD (w64 (a2-a1.Low)).toNat dd)))]⟩ ?_;obtain rfl:=oi hm;exact q_rt q_rm
 ·rcases bif_c hm with⟨b3,hm⟩|⟨b3,hm⟩
  ·exact q_vv [qf 4 b3] 2 [] [(18,vb true)] (q_J (true) hm)
  ·exact q_vv [qf 4 b3] 2 [] [(18,vb (decide (a2≥(w64 (a1.Low+(a1.Rows.length:Int))))))] (q_J (decide (a2≥(w64 (a1.Low+(a1.Rows.length:Int))))) hm)
def qGT (r:Span):V:=va (qH r)
def qGV (r:Span):List (Nat×(Nat×O)):=[]
theorem qGs (a1:Span) (a2:Span) (r:Span) (hm:OI a1 a2=some r):CtX Tryz.prog globs 94 0 0 [.agg (qH a1),.agg (qH a2)] [] (qGT r) (qGV r):=by
 unfold OI at hm;refine q_E f94 24 λE=>?_;refine s_vn [] 0 ⟨[(2,vp 0 0),(3,vp 1 0),(4,vp 2 0)],[(0,bx 64 (qH a1)),(1,bx 64 (qH a2)),(2,bx 64 [ci 0,ci 0])]⟩ (s_vu [] 3 [2,3] [(5,vp 3 0)] [0,1] [(3,bx 64 [ci (imax a1.A a2.A),ci (imin a1.B a2.B)])] ?_);refine q_sq (s_va 4 [(21,vb (decide ((imax a1.A a2.A)≥(imin a1.B a2.B))))] ?_);refine q_cq hm (λhm=>?_) (λhm=>?_)
 ·refine s_vu [] 4 [5,21] [] [3] [] ?_;obtain rfl:=oi hm;exact q_rt q_rm
 ·refine q_sk (s_vn [] 4 ⟨[(4,vp 2 0)],[(2,bx 64 [ci (imax a1.A a2.A),ci (imin a1.B a2.B)])]⟩ ?_);obtain rfl:=oi hm;exact q_rt q_rm
open Go.Proofs Go.Proofs.Tryz
def NO (a1:Int) (a2:qG) (a3:qG) (r:Span):V:=va (qH r)
def LD (a1:Int) (a2:qG) (a3:qG) (r:Span):List (Nat×(Nat×O)):=[(0,bx 48 (qQ a2)),(1,bx 48 (qQ a3))]
theorem qAX (a1:Int) (a2:qG) (a3:qG) (r:Span) (hm:VO a1 a2 a3=some r):CtX Tryz.prog globs 93 2 2 [.one (ci a1),.one (.bptr 0 0 0),.one (.bptr 1 0 0)] [(0,bx 48 (qQ a2)),(1,bx 48 (qQ a3))] (NO a1 a2 a3 r) (LD a1 a2 a3 r):=by
 unfold VO at hm;refine q_E f93 12 λE=>?_;refine s_vn [] 2 ⟨[(0,vi a1),(1,vp 0 0),(2,vp 1 0),(4,vp 2 0)],[(0,bx 48 (qQ a2)),(1,bx 48 (qQ a3)),(2,bx 64 [ci 0,ci 0])]⟩ ?_;obtain⟨v4,h5,hm⟩:=qE hm;obtain⟨v6,h7,hm⟩:=qE hm;obtain⟨v8,h9,hm⟩:=qE hm;refine s_du [qc 2 [5,6] 3 (IG a2 a1 v4 h5),qc 5 [8,9] 3 (IG a3 a1 v6 h7),qc 6 [7,10] 3 (qGs v4 v6 v8 h9)] [0,0,3,0,0,31,63,127] 3 [0,1,2] [] [2] [(2,bx 64 (qH v8))] ?_;obtain rfl:=oi hm;exact q_rt q_rm
def DL (a1:qG) (a2:qG) (r:qG):V:=va [ci r.Low,.own 2 0 2 r.Rows.length]
def DN (a1:qG) (a2:qG) (r:qG):List (Nat×(Nat×O)):=[(0,bx 48 (qQ a1)),(1,bx 48 (qQ a2)),(2,ro 0 64 2 r.Rows.length (rf qH r.Rows))]
def ZJ (a1:qG) (a2:qG) (x4:Int):St:=
 ⟨[(0,vc (.fn 93 [.bptr 0 0 0,.bptr 1 0 0])),(2,vp 2 0),(3,vp 3 0),(5,vi x4)],[(0,bx 48 (qQ a1)),(1,bx 48 (qQ a2)),(2,bx 48 [ci 0,.emp])]⟩
def TE (a1:qG) (a2:qG) (x4:Int) (x18:Int) (x19:Int) (l20:List Span) (l20n:Nat):St:=
 (ZJ a1 a2 x4).up [] [(4,vi x18)] [] [(3,bx 48 [ci x19,.own 4 0 2 l20n]),(4,ro 0 64 2 l20n (rf qH l20))]
def SE (a1:qG) (a2:qG) (x4:Int) (l6:List Span) (v8:Span) (x14:Int):St:=
 (ZJ a1 a2 x4).up [] [(6,vp 5 0)] [] [(3,bx 48 [ci x14,.own 4 0 2 l6.length]),(4,ro 0 64 2 l6.length (rf qH l6)),(5,bx 64 (qH v8))]
def WY (a1:qG) (a2:qG) (x3:Int) (x4:Int) (x5:Int) (l6:List Span) (l6n:Nat):St:=
 (ZJ a1 a2 x4).up [] [(4,vi x3)] [] [(3,bx 48 [ci x5,.own 4 0 2 l6n]),(4,ro 0 64 2 l6n (rf qH l6))]
def TB (a1:qG) (a2:qG) (x21:Int) (x22:Int) (l23:List Span):St:=
 ⟨[(2,vp 2 0),(3,vp 3 0),(4,vi x21)],[(0,bx 48 (qQ a1)),(1,bx 48 (qQ a2)),(2,bx 48 [ci 0,.emp]),(3,bx 48 [ci x22,.own 4 0 2 l23.length]),(4,ro 0 64 2 l23.length (rf qH l23))]⟩
theorem MZ (E:Env 2) (a1:qG) (a2:qG):∀(n:Nat) (x3:Int) (x4:Int) (x5:Int) (l6:List Span) (l6n:Nat) (res:Int×Int×(List Span)),l6.length=l6n->zR a1 a2 n x3 x4 x5 l6=some res->HL (kx E 46 2) (nd f80 244) (zT 0 (λo=>TB a1 a2 o.1 o.2.1 o.2.2) res) n (WY a1 a2 x3 x4 x5 l6 l6n):=by
 intro n
 induction n with
 |zero=>
  intro x3 x4 x5 l6 l6n res hl0 hm;cases hm
 |succ n ih=>
  intro x3 x4 x5 l6 l6n res hl0 hm;subst hl0;refine qT (q_sq ?_);refine s_va 5 [(8,vb (decide (x4<60)))] (q_cq hm (λhm=>?_) (λhm=>?_))
  ·refine q_sk (q_jn (ι:=Int×Int×(List Span)×Nat) (λp=>TE a1 a2 x4 p.1 p.2.1 p.2.2.1 p.2.2.2) (λp=>p.2.2.1.length=p.2.2.2/\ZG x4 (zR a1 a2 n) p.1 p.2.1 p.2.2.1=some res) ?_ ?_)
   ·rintro⟨x18,x19,l20,l20n⟩ ⟨el20,hm⟩;replace el20:l20.length=l20n:=el20;subst el20;show H _ (TE a1 a2 x4 x18 x19 l20 l20.length) _ _;exact q_vv [] 7 [5] [(5,vi (w64 (x4+1)))] (q_hl (WY a1 a2 x18 (w64 (x4+1)) x19 l20 l20.length) (ih x18 (w64 (x4+1)) x19 l20 l20.length _ rfl hm))
   ·refine q_bk 1 ?_;obtain⟨v8,h9,hm⟩:=qE hm;refine s_vu [qd 2 (dex (cen [(0,0),(1,0)] [0,0] 3 2 (NO x4 a1 a2 v8) (LD x4 a1 a2 v8) [11,12] [0,1])) (zG (K:=(kx E 46 2)) ⟨[(11,vc (.fn 93 [.bptr 0 0 0,.bptr 1 0 0])),(12,vi x4)],[(0,bx 48 (qQ a1)),(1,bx 48 (qQ a2))]⟩ (opAt (rg f80 3912) 2) [(0,0),(1,0)] [0,0] 3 o0 rfl (qAX x4 a1 a2 v8 h9) (.inl rfl) (by kernel_rfl))] 5 [8] [(6,vp 5 0)] [] [(5,bx 64 (qH v8))] (q_bk 2 ?_);obtain⟨v10,h11,hm⟩:=qE hm;refine s_vv [qc 1 [15] 6 (wG v8 v10 h11)] 6 [] [(14,vb (!v10))] (q_cq hm (λhm=>?_) (λhm=>?_))
    ·refine q_jn (SE a1 a2 x4 l6 v8) (λp=>YU x4 l6 (zR a1 a2 n) v8 p=some res) ?_ ?_
     ·rintro x14 hm;obtain⟨g15,hm⟩:=qJ hm;refine s_vu [qd 3 (drw 6 0 (rf qH [v8])) (litP qH dd 2 (λ_=>rfl) ([v8]:List Span) 1 rfl),qd 4 (drw 4 1 (rf qH (l6++[v8]))) (apP qH dd l6 ([v8]:List Span) l6.length 1 2 16 (1<=1) (kr _) rfl rfl (λ_=>rfl) (zW g15))] 6 [6] [] [3,4,5] [(3,bx 48 [ci x14,.own 4 1 2 (l6.length+1)]),(4,ro 1 64 2 (l6.length+1) (rf qH (l6++[v8])))] (q_va 7 [(4,vi (((l6.length+1):Nat):Int))] ?_);exact q_J ((((l6.length+1):Nat):Int),x14,(l6++[v8]),(l6.length+1)) ⟨(wK rfl rfl),hm⟩
     ·refine s_vv [] 6 [4,14] [(19,vb (x3==0))] (q_cq hm (λhm=>?_) (λhm=>?_))
      ·exact q_vu [] 6 [19] [] [3] [(3,bx 48 [ci x4,.own 4 0 2 l6.length])] (q_J (x4) hm)
      ·exact q_sk (q_J (x5) hm)
    ·refine s_vu [] 6 [6,14] [(31,vb (decide (x3>0)))] [5] [] (q_cq hm (λhm=>?_) (λhm=>?_))
     ·obtain⟨g17,hm⟩:=qJ hm;exact q_vu [qd 3 (drw 6 0 (rf qH [(Span.mk 0 0)])) (litP qH dd 2 (λ_=>rfl) ([(Span.mk 0 0)]:List Span) 1 rfl),qd 4 (drw 4 1 (rf qH (l6++[(Span.mk 0 0)]))) (apP qH dd l6 ([(Span.mk 0 0)]:List Span) l6.length 1 2 16 (1<=1) (kr _) rfl rfl (λ_=>rfl) (zW g17))] 6 [31] [] [3,4] [(3,bx 48 [ci x5,.own 4 1 2 (l6.length+1)]),(4,ro 1 64 2 (l6.length+1) (rf qH (l6++[(Span.mk 0 0)])))] (q_J (x3,x5,(l6++[(Span.mk 0 0)]),(l6.length+1)) ⟨(wK rfl rfl),hm⟩)
     ·exact q_sk (q_J (x3,x5,l6,l6.length) ⟨rfl,hm⟩)
  ·refine q_ex 0 ?_;obtain rfl:=oi hm;exact q_l0
theorem IR (a1:qG) (a2:qG) (r:qG) (hm:RM a1 a2=some r):CtX Tryz.prog globs 80 2 2 [.one (.fn 93 [.bptr 0 0 0,.bptr 1 0 0])] [(0,bx 48 (qQ a1)),(1,bx 48 (qQ a2))] (DL a1 a2 r) (DN a1 a2 r):=by
 unfold RM at hm;refine q_E f80 46 λE=>?_;refine s_vn [] 2 ⟨[(0,vc (.fn 93 [.bptr 0 0 0,.bptr 1 0 0])),(2,vp 2 0)],[(0,bx 48 (qQ a1)),(1,bx 48 (qQ a2)),(2,bx 48 [ci 0,.emp])]⟩ (s_vu [] 3 [] [(3,vp 3 0)] [] [(3,bx 48 [ci 0,.emp])] ?_);refine s_va 4 [(4,vi 0)] (q_sq ?_);refine s_va 4 [(5,vi (-60))] (q_fu [.ownB 3 1 4 64 2 (rf qH [])] [] [] [3] [(3,bx 48 [ci 0,.own 4 0 2 0]),(4,ro 0 64 2 0 (rf qH []))] o0 ?_);obtain⟨o24,h25,hm⟩:=qE hm
 refine zQ (nd f80 244) 0 (by kernel_rfl) FUEL (λo=>TB a1 a2 o.1 o.2.1 o.2.2) o24 (q_hl (WY a1 a2 0 (-60) 0 ([]:List Span) 0) (MZ E a1 a2 FUEL 0 (-60) 0 ([]:List Span) 0 o24 rfl h25)) ?_;obtain⟨g26,hm⟩:=qJ hm
 refine s_wu [qd 3 dN (And.intro (qZ g26).2.1 (qZ g26).2.2)] [.row 4 o24.1.toNat (rf qH (o24.2.2.take o24.1.toNat))] (o1 (tkP qH dd o24.2.2 o24.2.2.length o24.1.toNat (show o24.1.toNat<=o24.2.2.length by have:=(qZ g26);omega))) 5 [4] [] [3,4] [(3,bx 48 [ci o24.2.1,.own 4 0 2 o24.1.toNat]),(4,ro 0 64 2 o24.1.toNat (rf qH (o24.2.2.take o24.1.toNat)))] (s_vu [] 5 [3] [] [2,3] [(2,bx 48 [ci o24.2.1,.own 4 0 2 o24.1.toNat])] ?_)
 refine q_fu [.len 4 ((o24.2.2.take o24.1.toNat).length)] [] [] [2,4] [(2,bx 48 [ci o24.2.1,.own 4 0 2 ((o24.2.2.take o24.1.toNat).length)]),(4,ro 0 64 2 ((o24.2.2.take o24.1.toNat).length) (rf qH (o24.2.2.take o24.1.toNat)))] (o1 (And.intro (Eq.symm (show(o24.2.2.take o24.1.toNat).length=o24.1.toNat from(JK rfl (show o24.1.toNat<=o24.2.2.length by have:=(qZ g26);omega)))) (Eq.symm (show(o24.2.2.take o24.1.toNat).length=o24.1.toNat from(JK rfl (show o24.1.toNat<=o24.2.2.length by have:=(qZ g26);omega)))))) ?_;obtain rfl:=oi hm;exact q_sw 4 2 (q_rt q_rm)
def qDz (r:qG):V:=va [ci r.Low,.own 0 0 2 r.Rows.length]
def qC0 (r:qG):List (Nat×(Nat×O)):=[(0,ro 0 64 2 r.Rows.length (rf qH r.Rows))]
theorem qCi (a1:qG) (a2:qG) (r:qG) (hm:FI a1 a2=some r):CtX Tryz.prog globs 45 0 0 [.agg (qQ a1),.agg (qQ a2)] [] (qDz r) (qC0 r):=by
 unfold FI at hm;refine q_E f45 11 λE=>?_;refine s_vn [] 0 ⟨[(2,vp 0 0),(3,vp 1 0),(4,vp 2 0)],[(0,bx 48 (qQ a1)),(1,bx 48 (qQ a2)),(2,bx 48 [ci 0,.emp])]⟩ ?_;obtain⟨v3,h4,hm⟩:=qE hm;obtain⟨v5,h6,hm⟩:=qE hm;refine s_du [qc 1 [5] 3 (PX a1 v3 h4),qc 3 [7] 3 (PX a2 v5 h6)] [0,1,0,7,15,31] 3 [] [] [0,1] [(0,bx 48 (qQ v3)),(1,bx 48 (qQ v5))] ?_;obtain⟨v7,h8,hm⟩:=qE hm
 refine s_vn [qd 1 (dex (cen [(0,0),(1,0)] [0,0] 1 2 (DL v3 v5 v7) (DN v3 v5 v7) [9] [0,1])) (zG (K:=(kx E 11 0)) ⟨[(9,vc (.fn 93 [.bptr 0 0 0,.bptr 1 0 0]))],[(0,bx 48 (qQ v3)),(1,bx 48 (qQ v5))]⟩ (opAt (rg f45 14) 1) [(0,0),(1,0)] [0,0] 1 o0 rfl (IR v3 v5 v7 h8) (.inl rfl) (by kernel_rfl))] 3 ⟨[(4,vp 2 0)],[(2,bx 48 [ci v7.Low,.own 3 0 2 v7.Rows.length]),(3,ro 0 64 2 v7.Rows.length (rf qH v7.Rows))]⟩ ?_;obtain rfl:=oi hm;exact q_sw 3 0 (q_rt q_rm)
open Go.Proofs Go.Proofs.Tryz
def qCy (r:Bool):V:=vb r
def qCF (r:Bool):List (Nat×(Nat×O)):=[]
def CP (x5:Bool):St:=
 ⟨[(6,vb x5)],[]⟩
theorem yF (a1:Span) (a2:Int) (a3:Int) (r:Bool) (hm:QA a1 a2 a3=some r):CtX Tryz.prog globs 142 0 0 [.agg (qH a1),.one (ci a2),.one (ci a3)] [] (qCy r) (qCF r):=by
 unfold QA at hm;refine q_E f142 23 λE=>?_;refine s_vn [] 0 ⟨[(1,vi a2),(2,vi a3),(3,vp 0 0)],[(0,bx 64 (qH a1))]⟩ (q_jn (CP) (λp=>JO p=some r) ?_ ?_)
 ·rintro x5 hm;obtain rfl:=oi hm;exact q_rt q_rm
 ·rcases bif_c hm with⟨b4,hm⟩|⟨b4,hm⟩
  ·exact q_vn [qf 7 b4] 1 ⟨[(6,vb (decide ((imax a1.A a1.B)<=a3)))],[]⟩ (q_J (decide ((imax a1.A a1.B)<=a3)) hm)
  ·exact q_vn [qf 7 b4] 1 ⟨[(6,vb false)],[]⟩ (q_J (false) hm)
end Saw
end Go.SL

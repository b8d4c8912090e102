import Derived.Test.YtigmogcdifllhaaGreatDoorEBase
import Derived.Test.YtigmogcdifllhaaGreatDoorEFa3
import Derived.Test.YtigmogcdifllhaaGreatDoorEFa2
set_option linter.unusedVariables false
set_option linter.unusedSimpArgs false
namespace Go.SL
namespace Saw
open Go.Proofs Go.Proofs.Tryz
set_option maxHeartbeats 4000000
set_option maxRecDepth 100000
def qKk (r:Rect):V:=va (qX r)
def AR (r:Rect):List (Nat×(Nat×O)):=[]
theorem qVt (r:Rect):wQ (AR r):=by
 intro i k o h;unfold AR at h;cases h
def OX (a1:List qA) (x4:Int) (x5:Rect):St:=
 ⟨[(2,vp 0 0),(3,vp 1 0),(29,vc (tl qB dd a1)),(30,vi (a1.length:Int)),(31,vi x4)],[(0,bx 55 [ci 0,ci 0,ci 0,ci 0]),(1,bx 55 (qX x5))]⟩
def qFo (x8:Rect):St:=
 ⟨[(2,vp 0 0),(3,vp 1 0)],[(0,bx 55 [ci 0,ci 0,ci 0,ci 0]),(1,bx 55 (qX x8))]⟩
theorem qNw (E:Env 0) (a1:List qA):∀(n:Nat) (x4:Int) (x5:Rect) (res:Rect),UL a1 n x4 x5=some res->HL (kx E 65 0) (nd f202 244) (zF 0 qFo res) n (OX a1 x4 x5):=by
 intro n
 induction n with
 |zero=>
  intro x4 x5 res hm;cases hm
 |succ n ih=>
  intro x4 x5 res hm;refine qR (s_va 2 [(32,vb (decide (x4<(a1.length:Int))))] ?_);refine q_sq (q_cq hm (λhm=>?_) (λhm=>?_))
  ·refine q_sk (q_sq ?_);refine q_bk 1 ?_;obtain⟨g7,hm⟩:=qI hm;refine s_vu [qi 0 g7] 2 [32] [(5,vp 2 0)] [] [(2,bx 93 (qB (a1.getD x4.toNat dd)))] (s_vu [] 3 [] [] [1] [(1,bx 55 [ci (imin x5.X.A ((a1.getD x4.toNat dd).X)),ci (imax x5.X.B ((a1.getD x4.toNat dd).X)),ci x5.Y.A,ci x5.Y.B])] ?_);refine q_vu [] 3 [5] [] [1,2] [(1,bx 55 [ci (imin x5.X.A ((a1.getD x4.toNat dd).X)),ci (imax x5.X.B ((a1.getD x4.toNat dd).X)),ci (imin x5.Y.A ((a1.getD x4.toNat dd).Y)),ci (imax x5.Y.B ((a1.getD x4.toNat dd).Y))])] (q_vv [] 3 [31] [(31,vi (w64 (x4+1)))] ?_)
   exact q_hl (OX a1 (w64 (x4+1)) (Rect.mk (Span.mk (imin x5.X.A ((a1.getD x4.toNat dd).X)) (imax x5.X.B ((a1.getD x4.toNat dd).X))) (Span.mk (imin x5.Y.A ((a1.getD x4.toNat dd).Y)) (imax x5.Y.B ((a1.getD x4.toNat dd).Y))))) (ih (w64 (x4+1)) (Rect.mk (Span.mk (imin x5.X.A ((a1.getD x4.toNat dd).X)) (imax x5.X.B ((a1.getD x4.toNat dd).X))) (Span.mk (imin x5.Y.A ((a1.getD x4.toNat dd).Y)) (imax x5.Y.B ((a1.getD x4.toNat dd).Y)))) _ hm)
  ·refine q_ex 0 ?_;obtain rfl:=oi hm;exact q_l0
theorem qTb (a1:List qA) (r:Rect) (hm:ES a1=some r):CtX Tryz.prog globs 202 0 0 [.one (tl qB dd a1)] [] (qKk r) (AR r):=by
 unfold ES at hm;refine q_E f202 65 λE=>?_;refine s_vn [] 0 ⟨[(0,vc (tl qB dd a1)),(2,vp 0 0)],[(0,bx 55 [ci 0,ci 0,ci 0,ci 0])]⟩ (q_sq ?_);refine s_va 1 [(8,vb ((a1.length:Int)==0))] (q_cq hm (λhm=>?_) (λhm=>?_))
 ·refine s_vv [] 1 [0,8] [] ?_;obtain rfl:=oi hm;exact q_rt q_rm
 ·refine q_sk ?_;obtain⟨g3,hm⟩:=qI hm;refine s_du [qi 1 g3,qi 5 g3,qi 10 g3,qi 14 g3] [0,1,3,7,0,16,48,112,255,0,512,1536,3584,0,8192,24576,57344,130560,262143,0,1048575] 1 [8] [(3,vp 1 0)] [] [(1,bx 55 [ci ((a1.getD (0:Int).toNat dd).X),ci ((a1.getD (0:Int).toNat dd).X),ci ((a1.getD (0:Int).toNat dd).Y),ci ((a1.getD (0:Int).toNat dd).Y)])] (q_sq ?_);refine s_vv [] 2 [0] [(29,vc (tl qB dd a1)),(30,vi (a1.length:Int)),(31,vi 0)] ?_;obtain⟨o9,h10,hm⟩:=qC hm
  refine zB (nd f202 244) 0 (by kernel_rfl) FUEL qFo o9 (q_hl (OX a1 0 (Rect.mk (Span.mk ((a1.getD (0:Int).toNat dd).X) ((a1.getD (0:Int).toNat dd).X)) (Span.mk ((a1.getD (0:Int).toNat dd).Y) ((a1.getD (0:Int).toNat dd).Y)))) (qNw E a1 FUEL 0 (Rect.mk (Span.mk ((a1.getD (0:Int).toNat dd).X) ((a1.getD (0:Int).toNat dd).X)) (Span.mk ((a1.getD (0:Int).toNat dd).Y) ((a1.getD (0:Int).toNat dd).Y))) o9 h10)) (s_vu [] 2 [3] [] [0,1] [(0,bx 55 (qX o9))] ?_);obtain rfl:=oi hm;exact q_rt q_rm
def qXj (r:Int):V:=vi r
def qXF (r:Int):List (Nat×(Nat×O)):=[]
def qRF (x5:Int):St:=
 ⟨[(5,vi x5)],[]⟩
theorem qKt (a1:Int) (a2:Int) (r:Int) (hm:HC a1 a2=some r):CtX Tryz.prog globs 204 0 0 [.one (ci a1),.one (ci a2)] [] (qXj r) (qXF r):=by
 unfold HC at hm;refine q_E f204 16 λE=>?_;refine s_vn [] 0 ⟨[(0,vi a1),(1,vi a2)],[]⟩ ?_;obtain⟨g3,hm⟩:=qI hm;refine s_vv [qd 2 dN (JK g3)] 0 [] [(5,vi (w64 (Int.tdiv a1 a2)))] (q_jn (qRF) (λp=>AE p=some r) ?_ ?_)
 ·rintro x5 hm;refine s_vn [] 0 ⟨[(4,vi x5)],[]⟩ ?_;obtain rfl:=oi hm;exact q_rt q_rm
 ·refine s_vv [qd 2 dN (JK g3)] 0 [0,1] [(12,vb (decide ((Int.tmod a1 a2)<0)))] (q_cq hm (λhm=>?_) (λhm=>?_))
  ·exact q_vn [] 0 ⟨[(5,vi (w64 ((w64 (Int.tdiv a1 a2))-1)))],[]⟩ (q_J (w64 ((w64 (Int.tdiv a1 a2))-1)) hm)
  ·exact q_sk (q_J (w64 (Int.tdiv a1 a2)) hm)
def qBV (a1:Int) (a2:Rect) (a3:List qA) (r:Int×Int):V:= .tup [.one (ci r.1),.one (ci r.2)]
def qB3 (a1:Int) (a2:Rect) (a3:List qA) (r:Int×Int):List (Nat×(Nat×O)):=[(0,bx 55 (qX a2)),(1,bx 111 [.own 2 0 2 a3.length]),(2,ro 0 93 2 a3.length (rf qB a3))]
def BG (a1:Int) (a2:Rect) (a3:List qA) (x4:Int) (x5:Int) (x6:Int):St:=
 ⟨[(0,vi a1),(2,vp 1 0),(6,vi x4),(7,vi x5),(9,vp 3 0),(10,vp 4 0),(17,vo 2 0 2 a3.length),(18,vi (a3.length:Int)),(19,vi x6)],[(0,bx 55 (qX a2)),(1,bx 111 [.own 2 0 2 a3.length]),(2,ro 0 93 2 a3.length (rf qB a3)),(3,bx 93 (qB (a3.getD x6.toNat dd))),(4,bx 93 (qB (a3.getD ((Int.tmod (w64 (x6+1)) (a3.length:Int)).toNat) dd)))]⟩
def qEe (a1:Int) (a2:Rect) (a3:List qA) (x6:Int) (x23:Int) (x24:Int):St:=
 ⟨[(0,vi a1),(2,vp 1 0),(6,vi x23),(7,vi x24),(17,vo 2 0 2 a3.length),(18,vi (a3.length:Int)),(19,vi x6)],[(0,bx 55 (qX a2)),(1,bx 111 [.own 2 0 2 a3.length]),(2,ro 0 93 2 a3.length (rf qB a3))]⟩
def qMM (a1:Int) (a2:Rect) (a3:List qA) (x4:Int) (x5:Int) (x6:Int) (x19:Bool):St:=
 (BG a1 a2 a3 x4 x5 x6).up [] [(69,vb x19)] [] []
def qNJ (a1:Int) (a2:Rect) (a3:List qA) (x4:Int) (x5:Int) (x6:Int) (x13:Bool):St:=
 (BG a1 a2 a3 x4 x5 x6).up [] [(32,vb x13)] [] []
def SU (a1:Int) (a2:Rect) (a3:List qA) (x4:Int) (x5:Int) (x6:Int):St:=
 (BG a1 a2 a3 x4 x5 x6).up [9,10] [] [3,4] []
def qEH (a2:Rect) (a3:List qA) (x25:Int) (x26:Int):St:=
 ⟨[(6,vi x25),(7,vi x26)],[(0,bx 55 (qX a2)),(1,bx 111 [.own 2 0 2 a3.length]),(2,ro 0 93 2 a3.length (rf qB a3))]⟩
theorem qMw (E:Env 3) (a1:Int) (a2:Rect) (a3:List qA):∀(n:Nat) (x4:Int) (x5:Int) (x6:Int) (res:Int×Int),wT a1 a3 n x4 x5 x6=some res->HL (kx E 109 2) (nd f203 116) (zF 0 (λo=>qEH a2 a3 o.1 o.2) res) n (SU a1 a2 a3 x4 x5 x6):=by
 intro n
 induction n with
 |zero=>
  intro x4 x5 x6 res hm;cases hm
 |succ n ih=>
  intro x4 x5 x6 res hm;refine qR (s_va 3 [(20,vb (decide (x6<(a3.length:Int))))] ?_);refine q_sq (q_cq hm (λhm=>?_) (λhm=>?_))
  ·refine q_sk (q_jn (ι:=Int×Int) (λp=>qEe a1 a2 a3 x6 p.1 p.2) (λp=>RJ x6 (wT a1 a3 n) p.1 p.2=some res) ?_ ?_)
   ·rintro⟨x23,x24⟩ hm;show H _ (qEe a1 a2 a3 x6 x23 x24) _ _;exact q_vv [] 5 [19] [(19,vi (w64 (x6+1)))] (q_hl (SU a1 a2 a3 x23 x24 (w64 (x6+1))) (ih x23 x24 (w64 (x6+1)) _ hm))
   ·refine q_bk 1 ?_;obtain⟨g8,hm⟩:=qI hm;refine s_vu [qi 1 g8,qd 2 dN (qW (zD g8))] 3 [20] [(8,vi x6),(9,vp 3 0)] [] [(3,bx 93 (qB (a3.getD x6.toNat dd)))] ?_;obtain⟨g9,hm⟩:=qI hm;obtain⟨g10,hm⟩:=qI hm;refine s_du [qd 5 dN (JK g9),qi 6 g10,qd 7 dN (qW (zD g10))] [0,0,2,0,8,30,63,127,0,511] 4 [8] [(10,vp 4 0)] [] [(4,bx 93 (qB (a3.getD ((Int.tmod (w64 (x6+1)) (a3.length:Int)).toNat) dd)))] (q_bk 2 ?_);refine q_jn (qNJ a1 a2 a3 x4 x5 x6) (λp=>RE a1 a3 x4 x5 x6 (wT a1 a3 n) p=some res) ?_ ?_
    ·rintro x13 hm;refine q_cq hm (λhm=>?_) (λhm=>?_)
     ·obtain⟨v15,h16,hm⟩:=qC hm;exact q_du [qc 17 [61,66] 5 (qKt (w64 ((w64 (((a3.getD ((Int.tmod (w64 (x6+1)) (a3.length:Int)).toNat) dd).X)-((a3.getD x6.toNat dd).X)))*(w64 (a1-((a3.getD x6.toNat dd).Y))))) (w64 (((a3.getD ((Int.tmod (w64 (x6+1)) (a3.length:Int)).toNat) dd).Y)-((a3.getD x6.toNat dd).Y))) v15 h16)] [0,1,0,4,0,16,60,0,0,256,896,2044,0,4096,0,16384,61440,131068,262143,524287] 5 [7,9,10,32] [(7,vi (w64 (((a3.getD x6.toNat dd).X)+v15)))] [3,4] [] (q_J (x4,w64 (((a3.getD x6.toNat dd).X)+v15)) hm)
     ·refine q_jn (qMM a1 a2 a3 x4 x5 x6) (λp=>PT a1 a3 x4 x5 x6 (wT a1 a3 n) p=some res) ?_ ?_
      ·rintro x19 hm;refine q_cq hm (λhm=>?_) (λhm=>?_)
       ·obtain⟨v21,h22,hm⟩:=qC hm
        exact q_du [qc 17 [98,103] 5 (qKt (w64 ((w64 (((a3.getD ((Int.tmod (w64 (x6+1)) (a3.length:Int)).toNat) dd).X)-((a3.getD x6.toNat dd).X)))*(w64 (a1-((a3.getD ((Int.tmod (w64 (x6+1)) (a3.length:Int)).toNat) dd).Y))))) (w64 (((a3.getD x6.toNat dd).Y)-((a3.getD ((Int.tmod (w64 (x6+1)) (a3.length:Int)).toNat) dd).Y))) v21 h22)] [0,1,0,4,0,16,60,0,0,256,896,2044,0,4096,0,16384,61440,131068,262143,524287] 5 [6,9,10,69] [(6,vi (w64 (((a3.getD ((Int.tmod (w64 (x6+1)) (a3.length:Int)).toNat) dd).X)-v21)))] [3,4] [] (q_J (w64 (((a3.getD ((Int.tmod (w64 (x6+1)) (a3.length:Int)).toNat) dd).X)-v21),x5) hm)
       ·exact q_sk (q_J (x4,x5) hm)
      ·rcases bif_c hm with⟨b17,hm⟩|⟨b17,hm⟩
       ·rcases bif_c hm with⟨b18,hm⟩|⟨b18,hm⟩
        ·exact q_vv [qf 5 b17,qf 11 b18] 5 [32] [(69,vb (decide (a1<=((a3.getD x6.toNat dd).Y))))] (q_J (decide (a1<=((a3.getD x6.toNat dd).Y))) hm)
        ·exact q_vv [qf 5 b17,qf 11 b18] 5 [32] [(69,vb false)] (q_J (false) hm)
       ·exact q_vv [qf 5 b17] 5 [32] [(69,vb false)] (q_J (false) hm)
    ·rcases bif_c hm with⟨b11,hm⟩|⟨b11,hm⟩
     ·rcases bif_c hm with⟨b12,hm⟩|⟨b12,hm⟩
      ·exact q_vv [qf 5 b11,qf 11 b12] 5 [] [(32,vb (decide (a1<=((a3.getD ((Int.tmod (w64 (x6+1)) (a3.length:Int)).toNat) dd).Y))))] (q_J (decide (a1<=((a3.getD ((Int.tmod (w64 (x6+1)) (a3.length:Int)).toNat) dd).Y))) hm)
      ·exact q_vv [qf 5 b11,qf 11 b12] 5 [] [(32,vb false)] (q_J (false) hm)
     ·exact q_vv [qf 5 b11] 5 [] [(32,vb false)] (q_J (false) hm)
  ·refine q_ex 0 ?_;obtain rfl:=oi hm;exact q_l0
theorem qGx (a1:Int) (a2:Rect) (a3:List qA) (r:Int×Int) (hm:TW a1 a2 a3=some r):CtX Tryz.prog globs 203 3 2 [.one (ci a1),.one (.bptr 0 0 0),.one (.bptr 1 0 0)] [(0,bx 55 (qX a2)),(1,bx 111 [.own 2 0 2 a3.length]),(2,ro 0 93 2 a3.length (rf qB a3))] (qBV a1 a2 a3 r) (qB3 a1 a2 a3 r):=by
 unfold TW at hm;refine q_E f203 109 λE=>?_;refine s_vn [] 3 ⟨[(0,vi a1),(1,vp 0 0),(2,vp 1 0)],[(0,bx 55 (qX a2)),(1,bx 111 [.own 2 0 2 a3.length]),(2,ro 0 93 2 a3.length (rf qB a3))]⟩ (s_du [] [0,1,3,0,8,24,7,127] 3 [1] [(6,vi a2.X.A),(7,vi a2.X.B)] [] [] ?_);refine q_sq (s_va 3 [(17,vo 2 0 2 a3.length),(18,vi (a3.length:Int)),(19,vi 0)] ?_);obtain⟨o27,h28,hm⟩:=qC hm;refine zB (nd f203 116) 0 (by kernel_rfl) FUEL (λo=>qEH a2 a3 o.1 o.2) o27 (q_hl (SU a1 a2 a3 a2.X.A a2.X.B 0) (qMw E a1 a2 a3 FUEL a2.X.A a2.X.B 0 o27 h28)) (s_vv [] 3 [6,7] [(4,vi o27.1),(5,vi o27.2)] ?_)
 obtain rfl:=oi hm;exact q_rt q_rm
open Go.Proofs Go.Proofs.Tryz
def qXK (r:Span):V:=va (qE r)
def qWZ (r:Span):List (Nat×(Nat×O)):=[]
def qQB (a2:Int) (a3:Int) (v4:(List qA)) (v6:Rect) (x11:Bool):St:=
 ⟨[(1,vi a2),(2,vi a3),(6,vp 0 0),(7,vp 2 0),(8,vp 3 0),(40,vb x11)],[(0,bx 53 [ci 0,ci 0]),(1,ro 0 93 2 v4.length (rf qB v4)),(2,bx 111 [.own 1 0 2 v4.length]),(3,bx 55 (qX v6))]⟩
theorem qUC (a1:List qA) (a2:Int) (a3:Int) (r:Span) (hm:qBo a1 a2 a3=some r):CtX Tryz.prog globs 154 0 0 [.one (tl qB dd a1),.one (ci a2),.one (ci a3)] [] (qXK r) (qWZ r):=by
 unfold qBo at hm;refine q_E f154 69 λE=>?_;refine s_vn [] 0 ⟨[(0,vc (tl qB dd a1)),(1,vi a2),(2,vi a3),(6,vp 0 0)],[(0,bx 53 [ci 0,ci 0])]⟩ ?_;obtain⟨v4,h5,hm⟩:=qC hm;refine s_vu [qc 1 [15] 1 (qXw a1 v4 h5)] 1 [0] [(7,vp 2 0)] [] [(1,ro 0 93 2 v4.length (rf qB v4)),(2,bx 111 [.own 1 0 2 v4.length])] ?_;obtain⟨v6,h7,hm⟩:=qC hm
 refine s_vu [qd 1 (dex (cen [] [] 3 0 (qKk v6) (AR v6) [17] [1])) (zW (K:=(kx E 69 0)) (b:=false) ⟨[(17,vo 1 0 2 v4.length)],[(1,ro 0 93 2 v4.length (rf qB v4))]⟩ (opAt (rg f154 14) 1) [] [] 3 (o1 (kd v4.length)) rfl (qTb v4 v6 h7) (.inr ⟨(by kernel_rfl),qVt v6⟩) (by kernel_rfl))] 3 [] [(8,vp 3 0)] [] [(3,bx 55 (qX v6))] (q_sq ?_);refine q_jn (qQB a2 a3 v4 v6) (λp=>PJ a2 a3 v4 v6 p=some r) ?_ ?_
 ·rintro x11 hm;refine q_cq hm (λhm=>?_) (λhm=>?_)
  ·refine s_vu [] 4 [1,2,7,8,40] [] [1,2,3] [] ?_;obtain rfl:=oi hm;exact q_rt q_rm
  ·refine q_sk (s_vv [] 4 [7,8,40] [(9,vc (.fn 203 [.bptr 3 0 0,.bptr 2 0 0]))] ?_);obtain⟨v13,h14,hm⟩:=qC hm
   refine s_vu [qd 2 (dex (cen [(3,0),(2,0),(1,0)] [0,0,1] 1 2 (qBV a2 v6 v4 v13) (qB3 a2 v6 v4 v13) [44,45] [3,2,1])) (zW (K:=(kx E 69 0)) ⟨[(44,vc (.fn 203 [.bptr 3 0 0,.bptr 2 0 0])),(45,vi a2)],[(3,bx 55 (qX v6)),(2,bx 111 [.own 1 0 2 v4.length]),(1,ro 0 93 2 v4.length (rf qB v4))]⟩ (opAt (rg f154 126) 2) [(3,0),(2,0),(1,0)] [0,0,1] 1 o0 rfl (qGx a2 v6 v4 v13 h14) (.inl rfl) (by kernel_rfl))] 4 [1] [(10,vi v13.1),(11,vi v13.2)] [1,2] [(1,ro 1 93 2 v4.length (rf qB v4)),(2,bx 111 [.own 1 1 2 v4.length])] ?_;obtain⟨v15,h16,hm⟩:=qC hm
   refine s_vu [qd 2 (dex (cen [(3,0),(2,0),(1,1)] [0,0,2] 1 2 (qBV a3 v6 v4 v15) (qB3 a3 v6 v4 v15) [50,51] [3,2,1])) (zW (K:=(kx E 69 0)) ⟨[(50,vc (.fn 203 [.bptr 3 0 0,.bptr 2 0 0])),(51,vi a3)],[(3,bx 55 (qX v6)),(2,bx 111 [.own 1 1 2 v4.length]),(1,ro 1 93 2 v4.length (rf qB v4))]⟩ (opAt (rg f154 254) 2) [(3,0),(2,0),(1,1)] [0,0,2] 1 o0 rfl (qGx a3 v6 v4 v15 h16) (.inl rfl) (by kernel_rfl))] 4 [2,9] [(12,vi v15.1),(13,vi v15.2)] [1,2,3] [] (s_vu [] 4 [10,11,12,13] [(14,vp 4 0)] [] [(4,bx 53 [ci (imax v13.1 v15.1),ci (imin v13.2 v15.2)])] ?_)
   refine q_sq (s_va 5 [(66,vb (decide ((imax v13.1 v15.1)≥(imin v13.2 v15.2))))] ?_);refine q_cq hm (λhm=>?_) (λhm=>?_)
   ·refine s_vu [] 5 [14,66] [] [4] [] ?_;obtain rfl:=oi hm;exact q_rt q_rm
   ·refine q_sk (s_vn [] 5 ⟨[(6,vp 0 0)],[(0,bx 53 [ci (imax v13.1 v15.1),ci (imin v13.2 v15.2)])]⟩ ?_);obtain rfl:=oi hm;exact q_rt q_rm
 ·rcases bif_c hm with⟨b8,hm⟩|⟨b8,hm⟩
  ·exact q_vv [qf 3 b8] 4 [] [(40,vb true)] (q_J (true) hm)
  ·rcases bif_c hm with⟨b9,hm⟩|⟨b9,hm⟩
   ·exact q_vv [qf 3 b8,qf 8 b9] 4 [] [(40,vb true)] (q_J (true) hm)
   ·rcases bif_c hm with⟨b10,hm⟩|⟨b10,hm⟩
    ·exact q_vv [qf 3 b8,qf 8 b9,qf 15 b10] 4 [] [(40,vb true)] (q_J (true) hm)
    ·exact q_vv [qf 3 b8,qf 8 b9,qf 15 b10] 4 [] [(40,vb (decide (a3>v6.Y.B)))] (q_J (decide (a3>v6.Y.B)) hm)
def qIE (a1:Int) (a2:List qA) (r:Span):V:=va (qE r)
def qIH (a1:Int) (a2:List qA) (r:Span):List (Nat×(Nat×O)):=[(0,bx 111 [tl qB dd a2])]
theorem qQV (a1:Int) (a2:List qA) (r:Span) (hm:FI a1 a2=some r):CtX Tryz.prog globs 152 1 1 [.one (ci a1),.one (.bptr 0 0 0)] [(0,bx 111 [tl qB dd a2])] (qIE a1 a2 r) (qIH a1 a2 r):=by
 unfold FI at hm;refine q_E f152 15 λE=>?_;refine s_vn [] 1 ⟨[(0,vi a1),(1,vp 0 0),(3,vp 1 0)],[(0,bx 111 [tl qB dd a2]),(1,bx 53 [ci 0,ci 0])]⟩ ?_;obtain⟨v3,h4,hm⟩:=qC hm;refine s_vu [qc 3 [5,7] 2 (LM a1 (w64 (a1+1)) v3 h4)] 2 [0] [(4,vp 2 0)] [] [(2,bx 53 (qE v3))] ?_;obtain⟨v5,h6,hm⟩:=qC hm;refine s_vu [qc 5 [9,11,13] 3 (qUC a2 v3.A v3.B v5 h6)] 3 [1,4] [] [1,2] [(1,bx 53 (qE v5))] ?_;obtain rfl:=oi hm;exact q_rt q_rm
def qM0 (r:Bool):V:=vb r
def qNk (r:Bool):List (Nat×(Nat×O)):=[]
theorem jG (a1:Span) (r:Bool) (hm:yF a1=some r):CtX Tryz.prog globs 156 0 0 [.agg (qE a1)] [] (qM0 r) (qNk r):=by
 unfold yF at hm;refine q_E f156 8 λE=>?_;refine s_vn [] 0 ⟨[(1,vp 0 0)],[(0,bx 53 (qE a1))]⟩ (s_vn [] 1 ⟨[(2,vb (decide (a1.A≥a1.B)))],[]⟩ ?_);obtain rfl:=oi hm;exact q_rt q_rm
open Go.Proofs Go.Proofs.Tryz
def qGH (a1:List qA) (r:qG):V:=va [ci r.Low,.own 1 0 2 r.Rows.length]
def qHj (a1:List qA) (r:qG):List (Nat×(Nat×O)):=[(0,bx 111 [tl qB dd a1]),(1,ro 0 53 2 r.Rows.length (rf qE r.Rows))]
def GH (a1:List qA) (x3:Int):St:=
 ⟨[(0,vc (.fn 152 [.bptr 0 0 0])),(2,vp 1 0),(3,vp 2 0),(5,vi x3)],[(0,bx 111 [tl qB dd a1]),(1,bx 78 [ci 0,.emp])]⟩
def qCX (a1:List qA) (x3:Int) (x17:Int) (x18:Int) (l19:List Span) (l19n:Nat):St:=
 (GH a1 x3).up [] [(4,vi x17)] [] [(2,bx 78 [ci x18,.own 3 0 2 l19n]),(3,ro 0 53 2 l19n (rf qE l19))]
def qL5 (a1:List qA) (x3:Int) (l5:List Span) (v7:Span) (x13:Int):St:=
 (GH a1 x3).up [] [(6,vp 4 0)] [] [(2,bx 78 [ci x13,.own 3 0 2 l5.length]),(3,ro 0 53 2 l5.length (rf qE l5)),(4,bx 53 (qE v7))]
def LA (a1:List qA) (x2:Int) (x3:Int) (x4:Int) (l5:List Span) (l5n:Nat):St:=
 (GH a1 x3).up [] [(4,vi x2)] [] [(2,bx 78 [ci x4,.own 3 0 2 l5n]),(3,ro 0 53 2 l5n (rf qE l5))]
def qCU (a1:List qA) (x20:Int) (x21:Int) (l22:List Span):St:=
 ⟨[(2,vp 1 0),(3,vp 2 0),(4,vi x20)],[(0,bx 111 [tl qB dd a1]),(1,bx 78 [ci 0,.emp]),(2,bx 78 [ci x21,.own 3 0 2 l22.length]),(3,ro 0 53 2 l22.length (rf qE l22))]⟩
theorem qKI (E:Env 1) (a1:List qA):∀(n:Nat) (x2:Int) (x3:Int) (x4:Int) (l5:List Span) (l5n:Nat) (res:Int×Int×(List Span)),l5.length=l5n->wN a1 n x2 x3 x4 l5=some res->HL (kx E 46 1) (nd f92 244) (zF 0 (λo=>qCU a1 o.1 o.2.1 o.2.2) res) n (LA a1 x2 x3 x4 l5 l5n):=by
 intro n
 induction n with
 |zero=>
  intro x2 x3 x4 l5 l5n res hl0 hm;cases hm
 |succ n ih=>
  intro x2 x3 x4 l5 l5n res hl0 hm;subst hl0;refine qR (q_sq ?_);refine s_va 4 [(8,vb (decide (x3<60)))] (q_cq hm (λhm=>?_) (λhm=>?_))
  ·refine q_sk (q_jn (ι:=Int×Int×(List Span)×Nat) (λp=>qCX a1 x3 p.1 p.2.1 p.2.2.1 p.2.2.2) (λp=>p.2.2.1.length=p.2.2.2/\KS x3 (wN a1 n) p.1 p.2.1 p.2.2.1=some res) ?_ ?_)
   ·rintro⟨x17,x18,l19,l19n⟩ ⟨el19,hm⟩;replace el19:l19.length=l19n:=el19;subst el19;show H _ (qCX a1 x3 x17 x18 l19 l19.length) _ _;exact q_vv [] 6 [5] [(5,vi (w64 (x3+1)))] (q_hl (LA a1 x17 (w64 (x3+1)) x18 l19 l19.length) (ih x17 (w64 (x3+1)) x18 l19 l19.length _ rfl hm))
   ·refine q_bk 1 ?_;obtain⟨v7,h8,hm⟩:=qC hm;refine s_vu [qd 2 (dex (cen [(0,0)] [0] 3 1 (qIE x3 a1 v7) (qIH x3 a1 v7) [11,12] [0])) (zW (K:=(kx E 46 1)) ⟨[(11,vc (.fn 152 [.bptr 0 0 0])),(12,vi x3)],[(0,bx 111 [tl qB dd a1])]⟩ (opAt (rg f92 3912) 2) [(0,0)] [0] 3 o0 rfl (qQV x3 a1 v7 h8) (.inl rfl) (by kernel_rfl))] 4 [8] [(6,vp 4 0)] [] [(4,bx 53 (qE v7))] (q_bk 2 ?_);obtain⟨v9,h10,hm⟩:=qC hm;refine s_vv [qc 1 [15] 5 (jG v7 v9 h10)] 5 [] [(14,vb (!v9))] (q_cq hm (λhm=>?_) (λhm=>?_))
    ·refine q_jn (qL5 a1 x3 l5 v7) (λp=>VU x3 l5 (wN a1 n) v7 p=some res) ?_ ?_
     ·rintro x13 hm;obtain⟨g14,hm⟩:=qI hm;refine s_vu [qd 3 (drw 5 0 (rf qE [v7])) (litP qE dd 2 (λ_=>rfl) ([v7]:List Span) 1 rfl),qd 4 (drw 3 1 (rf qE (l5++[v7]))) (apP qE dd l5 ([v7]:List Span) l5.length 1 2 16 (1<=1) (kd _) rfl rfl (λ_=>rfl) (zN g14))] 5 [6] [] [2,3,4] [(2,bx 78 [ci x13,.own 3 1 2 (l5.length+1)]),(3,ro 1 53 2 (l5.length+1) (rf qE (l5++[v7])))] (q_va 6 [(4,vi (((l5.length+1):Nat):Int))] ?_);exact q_J ((((l5.length+1):Nat):Int),x13,(l5++[v7]),(l5.length+1)) ⟨(zH rfl rfl),hm⟩
     ·refine s_vv [] 5 [4,14] [(19,vb (x2==0))] (q_cq hm (λhm=>?_) (λhm=>?_))
      ·exact q_vu [] 5 [19] [] [2] [(2,bx 78 [ci x3,.own 3 0 2 l5.length])] (q_J (x3) hm)
      ·exact q_sk (q_J (x4) hm)
    ·refine s_vu [] 5 [6,14] [(31,vb (decide (x2>0)))] [4] [] (q_cq hm (λhm=>?_) (λhm=>?_))
     ·obtain⟨g16,hm⟩:=qI hm;exact q_vu [qd 3 (drw 5 0 (rf qE [(Span.mk 0 0)])) (litP qE dd 2 (λ_=>rfl) ([(Span.mk 0 0)]:List Span) 1 rfl),qd 4 (drw 3 1 (rf qE (l5++[(Span.mk 0 0)]))) (apP qE dd l5 ([(Span.mk 0 0)]:List Span) l5.length 1 2 16 (1<=1) (kd _) rfl rfl (λ_=>rfl) (zN g16))] 5 [31] [] [2,3] [(2,bx 78 [ci x4,.own 3 1 2 (l5.length+1)]),(3,ro 1 53 2 (l5.length+1) (rf qE (l5++[(Span.mk 0 0)])))] (q_J (x2,x4,(l5++[(Span.mk 0 0)]),(l5.length+1)) ⟨(zH rfl rfl),hm⟩)
     ·exact q_sk (q_J (x2,x4,l5,l5.length) ⟨rfl,hm⟩)
  ·refine q_ex 0 ?_;obtain rfl:=oi hm;exact q_l0
theorem qPP (a1:List qA) (r:qG) (hm:DO a1=some r):CtX Tryz.prog globs 92 1 1 [.one (.fn 152 [.bptr 0 0 0])] [(0,bx 111 [tl qB dd a1])] (qGH a1 r) (qHj a1 r):=by
 unfold DO at hm;refine q_E f92 46 λE=>?_;refine s_vn [] 1 ⟨[(0,vc (.fn 152 [.bptr 0 0 0])),(2,vp 1 0)],[(0,bx 111 [tl qB dd a1]),(1,bx 78 [ci 0,.emp])]⟩ (s_vu [] 2 [] [(3,vp 2 0)] [] [(2,bx 78 [ci 0,.emp])] ?_);refine s_va 3 [(4,vi 0)] (q_sq ?_);refine s_va 3 [(5,vi (-60))] (q_fu [.ownB 2 1 3 53 2 (rf qE [])] [] [] [2] [(2,bx 78 [ci 0,.own 3 0 2 0]),(3,ro 0 53 2 0 (rf qE []))] o0 ?_);obtain⟨o23,h24,hm⟩:=qC hm;refine zB (nd f92 244) 0 (by kernel_rfl) FUEL (λo=>qCU a1 o.1 o.2.1 o.2.2) o23 (q_hl (LA a1 0 (-60) 0 ([]:List Span) 0) (qKI E a1 FUEL 0 (-60) 0 ([]:List Span) 0 o23 rfl h24)) ?_
 obtain⟨g25,hm⟩:=qI hm;refine s_wu [qd 3 dN (And.intro (zG g25).2.1 (zG g25).2.2)] [.row 3 o23.1.toNat (rf qE (o23.2.2.take o23.1.toNat))] (o1 (tkP qE dd o23.2.2 o23.2.2.length o23.1.toNat (show o23.1.toNat<=o23.2.2.length by have:=(zG g25);omega))) 4 [4] [] [2,3] [(2,bx 78 [ci o23.2.1,.own 3 0 2 o23.1.toNat]),(3,ro 0 53 2 o23.1.toNat (rf qE (o23.2.2.take o23.1.toNat)))] (s_vu [] 4 [3] [] [1,2] [(1,bx 78 [ci o23.2.1,.own 3 0 2 o23.1.toNat])] ?_)
 refine q_fu [.len 3 ((o23.2.2.take o23.1.toNat).length)] [] [] [1,3] [(1,bx 78 [ci o23.2.1,.own 3 0 2 ((o23.2.2.take o23.1.toNat).length)]),(3,ro 0 53 2 ((o23.2.2.take o23.1.toNat).length) (rf qE (o23.2.2.take o23.1.toNat)))] (o1 (And.intro (Eq.symm (show(o23.2.2.take o23.1.toNat).length=o23.1.toNat from(jE rfl (show o23.1.toNat<=o23.2.2.length by have:=(zG g25);omega)))) (Eq.symm (show(o23.2.2.take o23.1.toNat).length=o23.1.toNat from(jE rfl (show o23.1.toNat<=o23.2.2.length by have:=(zG g25);omega)))))) ?_;obtain rfl:=oi hm;exact q_sw 3 1 (q_rt q_rm)
def qMt (r:qG×Int):V:= .tup [.agg [ci r.1.Low,.own 0 0 2 r.1.Rows.length],.one (ci r.2)]
def qBk (r:qG×Int):List (Nat×(Nat×O)):=[(0,ro 0 53 2 r.1.Rows.length (rf qE r.1.Rows))]
theorem qYo (r:qG×Int):wQ (qBk r):=by
 intro i k o h;unfold qBk at h;rw[look_cons] at h;split at h
 ·cases h;exact λ_ _=>rfl
 ·cases h
theorem qVA (a1:List qA) (r:qG×Int) (hm:CW a1=some r):CtX Tryz.prog globs 90 0 0 [.one (tl qB dd a1)] [] (qMt r) (qBk r):=by
 unfold CW at hm;refine q_E f90 20 λE=>?_;refine s_vn [] 0 ⟨[(1,vp 0 0),(2,vp 1 0)],[(0,bx 111 [tl qB dd a1]),(1,bx 78 [ci 0,.emp])]⟩ (q_sq ?_);obtain⟨v2,h3,hm⟩:=qC hm;refine s_vv [qc 1 [6] 2 (qVd a1 v2 h3)] 2 [] [(4,vi v2)] (s_va 2 [(9,vb (v2 !=0))] ?_);refine q_cq hm (λhm=>?_) (λhm=>?_)
 ·refine s_vu [] 2 [1,4,9] [(3,vi v2)] [0] [] (q_fu [.ownB 1 1 2 53 2 (rf qE [])] [] [] [1] [(1,bx 78 [ci 0,.own 2 0 2 0]),(2,ro 0 53 2 0 (rf qE []))] o0 ?_);refine q_fu [.len 2 (([]:List Span).length)] [] [] [1,2] [(1,bx 78 [ci 0,.own 2 0 2 (([]:List Span).length)]),(2,ro 0 53 2 (([]:List Span).length) (rf qE []))] (o1 (And.intro (show 0=([]:List Span).length from rfl) (show 0=([]:List Span).length from rfl))) ?_;obtain rfl:=oi hm;exact q_sw 2 0 (q_rt q_rm)
 ·refine q_sk ?_;obtain⟨v5,h6,hm⟩:=qC hm;refine s_vu [qd 1 (dex (cen [(0,0)] [0] 1 1 (qGH a1 v5) (qHj a1 v5) [12] [0])) (zW (K:=(kx E 20 0)) ⟨[(12,vc (.fn 152 [.bptr 0 0 0]))],[(0,bx 111 [tl qB dd a1])]⟩ (opAt (rg f90 14) 1) [(0,0)] [0] 1 o0 rfl (qPP a1 v5 h6) (.inl rfl) (by kernel_rfl))] 2 [1,4,9] [(5,vp 3 0)] [0] [(2,ro 0 53 2 v5.Rows.length (rf qE v5.Rows)),(3,bx 78 [ci v5.Low,.own 2 0 2 v5.Rows.length])] (q_sq ?_);refine s_va 4 [(17,vb ((v5.Rows.length:Int)==0))] (q_cq hm (λhm=>?_) (λhm=>?_))
  ·refine s_vu [] 4 [5,17] [(3,vi 18)] [2,3] [] (q_fu [.ownB 1 1 4 53 2 (rf qE [])] [] [] [1] [(1,bx 78 [ci 0,.own 4 0 2 0]),(4,ro 0 53 2 0 (rf qE []))] o0 ?_);refine q_fu [.len 4 (([]:List Span).length)] [] [] [1,4] [(1,bx 78 [ci 0,.own 4 0 2 (([]:List Span).length)]),(4,ro 0 53 2 (([]:List Span).length) (rf qE []))] (o1 (And.intro (show 0=([]:List Span).length from rfl) (show 0=([]:List Span).length from rfl))) ?_;obtain rfl:=oi hm;exact q_sw 4 0 (q_rt q_rm)
  ·refine q_sk (s_vu [] 4 [5,17] [(3,vi 0)] [1,3] [(1,bx 78 [ci v5.Low,.own 2 0 2 v5.Rows.length])] ?_);obtain rfl:=oi hm;exact q_sw 2 0 (q_rt q_rm)
def qOz (r:qG×Int):V:= .tup [.agg [ci r.1.Low,.own 0 0 2 r.1.Rows.length],.one (ci r.2)]
def qPD (r:qG×Int):List (Nat×(Nat×O)):=[(0,ro 0 53 2 r.1.Rows.length (rf qE r.1.Rows))]
theorem qMT (a1:Ring) (a2:Int) (a3:Int) (r:qG×Int) (hm:UJ a1 a2 a3=some r):CtX Tryz.prog globs 45 0 0 [.agg (qU a1),.one (ci a2),.one (ci a3)] [] (qOz r) (qPD r):=by
 unfold UJ at hm;refine q_E f45 26 λE=>?_;refine s_vn [] 0 ⟨[(1,vi a2),(2,vi a3),(3,vp 0 0),(6,vp 1 0)],[(0,bx 71 (qU a1)),(1,bx 78 [ci 0,.emp])]⟩ ?_;obtain⟨v4,h5,hm⟩:=qC hm;obtain⟨v6,h7,hm⟩:=qC hm
 refine s_vu [qc 2 [11,12] 2 (qUN a1 a2 v4 h5),qd 4 (dex (cen [] [] 3 0 (qKr v6) (AN v6) [13,14] [2])) (zW (K:=(kx E 26 0)) (b:=false) ⟨[(13,va [ci v4.Z,.own 2 0 3 v4.Read.length]),(14,vi a3)],[(2,ro 0 95 3 v4.Read.length (rf qQ v4.Read))]⟩ (opAt (rg f45 6) 4) [] [] 3 (o1 (kd v4.Read.length)) rfl (qTj (Ring.mk v4.Z v4.Read) a3 v6 h7) (.inr ⟨(by kernel_rfl),qVH v6⟩) (by kernel_rfl))] 2 [1,2,3] [(8,vo 3 0 2 v6.1.length),(9,vi v6.2)] [0] [(3,ro 0 93 2 v6.1.length (rf qB v6.1))] (q_sq ?_);refine s_va 4 [(19,vb (v6.2 !=0))] (q_cq hm (λhm=>?_) (λhm=>?_))
 ·refine s_vu [] 4 [8,9,19] [(7,vi v6.2)] [3] [] (q_fu [.ownB 1 1 4 53 2 (rf qE [])] [] [] [1] [(1,bx 78 [ci 0,.own 4 0 2 0]),(4,ro 0 53 2 0 (rf qE []))] o0 ?_);refine q_fu [.len 4 (([]:List Span).length)] [] [] [1,4] [(1,bx 78 [ci 0,.own 4 0 2 (([]:List Span).length)]),(4,ro 0 53 2 (([]:List Span).length) (rf qE []))] (o1 (And.intro (show 0=([]:List Span).length from rfl) (show 0=([]:List Span).length from rfl))) ?_;obtain rfl:=oi hm;exact q_sw 4 0 (q_rt q_rm)
 ·refine q_sk ?_;obtain⟨v9,h10,hm⟩:=qC hm;refine s_vn [qd 1 (dex (cen [] [] 4 0 (qMt v9) (qBk v9) [22] [3])) (zW (K:=(kx E 26 0)) (b:=false) ⟨[(22,vo 3 0 2 v6.1.length)],[(3,ro 0 93 2 v6.1.length (rf qB v6.1))]⟩ (opAt (rg f45 30) 1) [] [] 4 (o1 (kd v6.1.length)) rfl (qVA v6.1 v9 h10) (.inr ⟨(by kernel_rfl),qYo v9⟩) (by kernel_rfl))] 4 ⟨[(6,vp 1 0),(7,vi v9.2)],[(1,bx 78 [ci v9.1.Low,.own 4 0 2 v9.1.Rows.length]),(4,ro 0 53 2 v9.1.Rows.length (rf qE v9.1.Rows))]⟩ ?_;obtain rfl:=oi hm;exact q_sw 4 0 (q_rt q_rm)
open Go.Proofs Go.Proofs.Tryz
def qM4 (r:Bool):V:=vb r
def qNv (r:Bool):List (Nat×(Nat×O)):=[]
def qJF (x3:Bool):St:=
 ⟨[(2,vb x3)],[]⟩
theorem qLo (a1:Span) (r:Bool) (hm:RT a1=some r):CtX Tryz.prog globs 205 0 0 [.agg (qE a1)] [] (qM4 r) (qNv r):=by
 unfold RT at hm;refine q_E f205 17 λE=>?_;refine s_vn [] 0 ⟨[(1,vp 0 0)],[(0,bx 53 (qE a1))]⟩ (q_jn (qJF) (λp=>RL p=some r) ?_ ?_)
 ·rintro x3 hm;obtain rfl:=oi hm;exact q_rt q_rm
 ·rcases bif_c hm with⟨b2,hm⟩|⟨b2,hm⟩
  ·exact q_vn [qf 6 b2] 1 ⟨[(2,vb (decide ((imax a1.A a1.B)<=600)))],[]⟩ (q_J (decide ((imax a1.A a1.B)<=600)) hm)
  ·exact q_vn [qf 6 b2] 1 ⟨[(2,vb false)],[]⟩ (q_J (false) hm)
def PO (r:Int):V:=vi r
def PW (r:Int):List (Nat×(Nat×O)):=[]
def LO (a1:qG) (x6:Int):St:=
 ⟨[(1,vp 0 0),(3,vi (a1.Rows.length:Int)),(24,vc (tl qE dd a1.Rows)),(25,vi (a1.Rows.length:Int)),(26,vi x6)],[(0,bx 78 (qV a1))]⟩
def qDf (a1:qG):St:=
 ⟨[(1,vp 0 0),(3,vi (a1.Rows.length:Int))],[(0,bx 78 (qV a1))]⟩
def qL2 (a1:qG) (x27:Int) (x33:Bool):St:=
 ⟨[(54,vc (tl qE dd a1.Rows)),(55,vi (a1.Rows.length:Int)),(56,vi x27),(66,vb x33)],[]⟩
def LS (a1:qG) (x27:Int):St:=
 ⟨[(54,vc (tl qE dd a1.Rows)),(55,vi (a1.Rows.length:Int)),(56,vi x27)],[]⟩
def qCT :St:=
 ⟨[],[]⟩
def qL0 (a1:qG) (x25:Bool):St:=
 ⟨[(1,vp 0 0),(52,vb x25)],[(0,bx 78 (qV a1))]⟩
def qL9 (a1:qG) (x4:Bool):St:=
 ⟨[(1,vp 0 0),(3,vi (a1.Rows.length:Int)),(22,vb x4)],[(0,bx 78 (qV a1))]⟩
theorem qKQ (E:Env 0) (a1:qG):∀(n:Nat) (x6:Int) (res:Int⊕Unit),ZD a1 n x6=some res->HL (kx E 68 0) (nd f155 500) (wC 0 (λo=>qDf a1) (λv st=>RetQ Tryz.prog f155 (PO v) (PW v) .ret st) res) n (LO a1 x6):=by
 intro n
 induction n with
 |zero=>
  intro x6 res hm;cases hm
 |succ n ih=>
  intro x6 res hm;refine qR (s_va 1 [(27,vb (decide (x6<(a1.Rows.length:Int))))] ?_);refine q_sq (q_cq hm (λhm=>?_) (λhm=>?_))
  ·refine q_sk (q_sq ?_);refine q_bk 1 ?_;obtain⟨g8,hm⟩:=qI hm;refine s_vu [qi 0 g8] 1 [27] [(5,vp 1 0)] [] [(1,bx 53 (qE (a1.Rows.getD x6.toNat dd)))] ?_;obtain⟨v9,h10,hm⟩:=qC hm;refine s_vu [qc 1 [30] 2 (qLo (a1.Rows.getD x6.toNat dd) v9 h10)] 2 [5] [(32,vb (!v9))] [1] [] (q_cq hm (λhm=>?_) (λhm=>?_))
   ·refine s_vn [] 2 ⟨[(2,vi 9)],[]⟩ ?_;obtain rfl:=oi hm;refine q_rt (zJ 9 ?_);exact q_rm
   ·refine q_sk (q_vv [] 2 [26,32] [(26,vi (w64 (x6+1)))] ?_);exact q_hl (LO a1 (w64 (x6+1))) (ih (w64 (x6+1)) _ hm)
  ·refine q_ex 0 ?_;obtain rfl:=oi hm;exact q_l1 ()
theorem qKL (E:Env 0) (a1:qG):∀(n:Nat) (x27:Int) (res:Int⊕Unit),jP a1 n x27=some res->HL (kx E 68 0) (nd f155 4084) (wC 2 (λo=>qCT) (λv st=>RetQ Tryz.prog f155 (PO v) (PW v) .ret st) res) n (LS a1 x27):=by
 intro n
 induction n with
 |zero=>
  intro x27 res hm;cases hm
 |succ n ih=>
  intro x27 res hm;refine qR (s_va 1 [(57,vb (decide (x27<(a1.Rows.length:Int))))] ?_);refine q_sq (q_cq hm (λhm=>?_) (λhm=>?_))
  ·refine q_sk (q_sq ?_);refine q_bk 3 ?_;obtain⟨g29,hm⟩:=qI hm;refine s_vu [qi 0 g29] 1 [57] [(7,vp 1 0)] [] [(1,bx 53 (qE (a1.Rows.getD x27.toNat dd)))] (q_jn (qL2 a1 x27) (λp=>VZ x27 (jP a1 n) p=some res) ?_ ?_)
   ·rintro x33 hm;refine q_cq hm (λhm=>?_) (λhm=>?_)
    ·refine s_vn [] 2 ⟨[(2,vi 19)],[]⟩ ?_;obtain rfl:=oi hm;refine q_rt (zJ 19 ?_);exact q_rm
    ·refine q_sk (q_vv [] 2 [56,66] [(56,vi (w64 (x27+1)))] ?_);exact q_hl (LS a1 (w64 (x27+1))) (ih (w64 (x27+1)) _ hm)
   ·obtain⟨v30,h31,hm⟩:=qC hm;rcases bif_c hm with⟨b32,hm⟩|⟨b32,hm⟩
    ·exact q_vu [qc 1 [60] 2 (jG (a1.Rows.getD x27.toNat dd) v30 h31),qf 2 b32] 2 [7] [(66,vb (!((((a1.Rows.getD x27.toNat dd).A)==0)&&((((a1.Rows.getD x27.toNat dd).B)==0)&&true))))] [1] [] (q_J (!((((a1.Rows.getD x27.toNat dd).A)==0)&&((((a1.Rows.getD x27.toNat dd).B)==0)&&true))) hm)
    ·exact q_vu [qc 1 [60] 2 (jG (a1.Rows.getD x27.toNat dd) v30 h31),qf 2 b32] 2 [7] [(66,vb false)] [1] [] (q_J (false) hm)
  ·refine q_ex 2 ?_;obtain rfl:=oi hm;exact q_l1 ()
theorem qFJ (a1:qG) (r:Int) (hm:PL a1=some r):CtX Tryz.prog globs 155 0 0 [.agg (qV a1)] [] (PO r) (PW r):=by
 unfold PL at hm;refine q_E f155 68 λE=>?_;refine s_vn [] 0 ⟨[(1,vp 0 0)],[(0,bx 78 (qV a1))]⟩ (s_va 1 [(3,vi (a1.Rows.length:Int))] ?_);refine q_sq (s_va 1 [(12,vb (decide ((a1.Rows.length:Int)>120)))] ?_);refine q_cq hm (λhm=>?_) (λhm=>?_)
 ·refine s_vn [] 1 ⟨[(2,vi 4)],[]⟩ ?_;obtain rfl:=oi hm;exact q_rt q_rm
 ·refine q_sk (q_sq ?_);refine q_jn (qL9 a1) (λp=>GL a1 p=some r) ?_ ?_
  ·rintro x4 hm;refine q_cq hm (λhm=>?_) (λhm=>?_)
   ·refine s_vn [] 1 ⟨[(2,vi 9)],[]⟩ ?_;obtain rfl:=oi hm;exact q_rt q_rm
   ·refine q_sk (q_sq ?_);refine s_vv [] 1 [22] [(24,vc (tl qE dd a1.Rows)),(25,vi (a1.Rows.length:Int)),(26,vi 0)] ?_;obtain⟨u14,h13,hm⟩:=qC hm;refine zQ (nd f155 500) 0 (by kernel_rfl) FUEL (λo=>qDf a1) (λv st=>RetQ Tryz.prog f155 (PO v) (PW v) .ret st) u14 (q_hl (LO a1 0) (qKQ E a1 FUEL 0 u14 h13)) ?_ ?_
    ·rintro v15 rfl st hr;obtain rfl:=oi hm;exact hr
    ·rintro o12 rfl;replace hm:_=some r:=hm;refine q_sq (s_va 1 [(35,vb ((a1.Rows.length:Int)==0))] ?_);refine q_cq hm (λhm=>?_) (λhm=>?_)
     ·refine q_sq (s_vn [] 1 ⟨[(38,vb (a1.Low !=0))],[]⟩ ?_);refine q_cq hm (λhm=>?_) (λhm=>?_)
      ·refine s_vn [] 1 ⟨[(2,vi 19)],[]⟩ ?_;obtain rfl:=oi hm;exact q_rt q_rm
      ·refine q_sk (s_vn [] 1 ⟨[(2,vi 0)],[]⟩ ?_);obtain rfl:=oi hm;exact q_rt q_rm
     ·refine q_sk (q_sq ?_);refine q_jn (qL0 a1) (λp=>GG a1 p=some r) ?_ ?_
      ·rintro x25 hm;refine q_cq hm (λhm=>?_) (λhm=>?_)
       ·refine s_vn [] 1 ⟨[(2,vi 19)],[]⟩ ?_;obtain rfl:=oi hm;exact q_rt q_rm
       ·refine q_sk (q_sq ?_);refine s_vn [] 1 ⟨[(54,vc (tl qE dd a1.Rows)),(55,vi (a1.Rows.length:Int)),(56,vi 0)],[]⟩ ?_;obtain⟨u37,h36,hm⟩:=qC hm;refine zQ (nd f155 4084) 2 (by kernel_rfl) FUEL (λo=>qCT) (λv st=>RetQ Tryz.prog f155 (PO v) (PW v) .ret st) u37 (q_hl (LS a1 0) (qKL E a1 FUEL 0 u37 h36)) ?_ ?_
        ·rintro v38 rfl st hr;obtain rfl:=oi hm;exact hr
        ·rintro o35 rfl;replace hm:_=some r:=hm;refine s_vn [] 1 ⟨[(2,vi 0)],[]⟩ ?_;obtain rfl:=oi hm;exact q_rt q_rm
      ·obtain⟨g18,hm⟩:=qI hm;obtain⟨v19,h20,hm⟩:=qC hm;rcases bif_c hm with⟨b21,hm⟩|⟨b21,hm⟩
       ·exact q_vv [qi 2 g18,qc 4 [42] 1 (jG (a1.Rows.getD (0:Int).toNat dd) v19 h20),qf 5 b21] 1 [3,35] [(52,vb true)] (q_J (true) hm)
       ·obtain⟨g22,hm⟩:=qI hm;obtain⟨v23,h24,hm⟩:=qC hm;exact q_vv [qi 2 g18,qc 4 [42] 1 (jG (a1.Rows.getD (0:Int).toNat dd) v19 h20),qf 5 b21,qi 10 g22,qk 12 [44,50] 1 ⟨[(44,vb false),(50,va [ci ((a1.Rows.getD (w64 ((a1.Rows.length:Int)-1)).toNat dd).A),ci ((a1.Rows.getD (w64 ((a1.Rows.length:Int)-1)).toNat dd).B)])],[]⟩ (jG (a1.Rows.getD (w64 ((a1.Rows.length:Int)-1)).toNat dd) v23 h24)] 1 [3,35] [(52,vb v23)] (q_J (v23) hm)
  ·rcases bif_c hm with⟨b3,hm⟩|⟨b3,hm⟩
   ·exact q_vv [qf 3 b3] 1 [12] [(22,vb true)] (q_J (true) hm)
   ·exact q_vv [qf 3 b3] 1 [12] [(22,vb (decide (a1.Low>(w64 (60-(a1.Rows.length:Int))))))] (q_J (decide (a1.Low>(w64 (60-(a1.Rows.length:Int))))) hm)
def qP6 (r:qG):V:=va (qV r)
def qRb (r:qG):List (Nat×(Nat×O)):=[]
theorem KP (a1:qG) (r:qG) (hm:ZA a1=some r):CtX Tryz.prog globs 91 0 0 [.agg (qV a1)] [] (qP6 r) (qRb r):=by
 unfold ZA at hm;refine q_E f91 8 λE=>?_;refine s_vn [] 0 ⟨[(1,vp 0 0),(2,vp 1 0)],[(0,bx 78 (qV a1)),(1,bx 78 [ci 0,.emp])]⟩ (q_sq ?_);obtain⟨v2,h3,hm⟩:=qC hm;refine s_vv [qc 1 [3] 2 (qFJ a1 v2 h3)] 2 [] [(5,vb (v2 !=0))] (q_cq hm (λhm=>?_) (λhm=>?_))
 ·refine s_vu [] 2 [1,5] [] [0] [] (q_fu [.ownB 1 1 2 53 2 (rf qE [])] [] [] [1] [(1,bx 78 [ci 0,.own 2 0 2 0]),(2,ro 0 53 2 0 (rf qE []))] o0 ?_);refine q_fu [.len 2 (([]:List Span).length),.frz 2] [] [] [1,2] [(1,bx 78 [ci 0,tl qE dd ([]:List Span)])] (o1 (And.intro (And.intro (show 0=([]:List Span).length from rfl) (show 0=([]:List Span).length from rfl)) (kd (([]:List Span).length)))) ?_;obtain rfl:=oi hm;exact q_rt q_rm
 ·refine q_sk (s_vn [] 2 ⟨[(2,vp 1 0)],[(1,bx 78 (qV a1))]⟩ ?_);obtain rfl:=oi hm;exact q_rt q_rm
open Go.Proofs Go.Proofs.Tryz
def qWE (r:Span):V:=va (qE r)
def qWc (r:Span):List (Nat×(Nat×O)):=[]
def qQo (a1:qG) (a2:Int) (x4:Bool):St:=
 ⟨[(1,vi a2),(2,vp 0 0),(4,vp 1 0),(18,vb x4)],[(0,bx 78 (qV a1)),(1,bx 53 [ci 0,ci 0])]⟩
theorem qKB (a1:qG) (a2:Int) (r:Span) (hm:HN a1 a2=some r):CtX Tryz.prog globs 95 0 0 [.agg (qV a1),.one (ci a2)] [] (qWE r) (qWc r):=by
 unfold HN at hm;refine q_E f95 28 λE=>?_;refine s_vn [] 0 ⟨[(1,vi a2),(2,vp 0 0),(4,vp 1 0)],[(0,bx 78 (qV a1)),(1,bx 53 [ci 0,ci 0])]⟩ (q_sq ?_);refine q_jn (qQo a1 a2) (λp=>IB a1 a2 p=some r) ?_ ?_
 ·rintro x4 hm;refine q_cq hm (λhm=>?_) (λhm=>?_)
  ·refine s_vu [] 2 [1,2,18] [] [0] [] ?_;obtain rfl:=oi hm;exact q_rt q_rm
  ·refine q_sk ?_;obtain⟨g6,hm⟩:=qI hm;refine s_vn [qi 6 g6] 2 ⟨[(4,vp 1 0)],[(1,bx 53 (qE (a1.Rows.getD (w64 (a2-a1.Low)).toNat dd)))]⟩ ?_;obtain rfl:=oi hm;exact q_rt q_rm
 ·rcases bif_c hm with⟨b3,hm⟩|⟨b3,hm⟩
  ·exact q_vv [qf 4 b3] 2 [] [(18,vb true)] (q_J (true) hm)
  ·exact q_vv [qf 4 b3] 2 [] [(18,vb (decide (a2≥(w64 (a1.Low+(a1.Rows.length:Int))))))] (q_J (decide (a2≥(w64 (a1.Low+(a1.Rows.length:Int))))) hm)
def qY8 (r:Span):V:=va (qE r)
def qY3 (r:Span):List (Nat×(Nat×O)):=[]
theorem KT (a1:Span) (a2:Span) (r:Span) (hm:JQ a1 a2=some r):CtX Tryz.prog globs 94 0 0 [.agg (qE a1),.agg (qE a2)] [] (qY8 r) (qY3 r):=by
 unfold JQ at hm;refine q_E f94 24 λE=>?_;refine s_vn [] 0 ⟨[(2,vp 0 0),(3,vp 1 0),(4,vp 2 0)],[(0,bx 53 (qE a1)),(1,bx 53 (qE a2)),(2,bx 53 [ci 0,ci 0])]⟩ (s_vu [] 3 [2,3] [(5,vp 3 0)] [0,1] [(3,bx 53 [ci (imax a1.A a2.A),ci (imin a1.B a2.B)])] ?_);refine q_sq (s_va 4 [(21,vb (decide ((imax a1.A a2.A)≥(imin a1.B a2.B))))] ?_);refine q_cq hm (λhm=>?_) (λhm=>?_)
 ·refine s_vu [] 4 [5,21] [] [3] [] ?_;obtain rfl:=oi hm;exact q_rt q_rm
 ·refine q_sk (s_vn [] 4 ⟨[(4,vp 2 0)],[(2,bx 53 [ci (imax a1.A a2.A),ci (imin a1.B a2.B)])]⟩ ?_);obtain rfl:=oi hm;exact q_rt q_rm
def qFT (a1:Int) (a2:qG) (a3:qG) (r:Span):V:=va (qE r)
def qFL (a1:Int) (a2:qG) (a3:qG) (r:Span):List (Nat×(Nat×O)):=[(0,bx 78 (qV a2)),(1,bx 78 (qV a3))]
theorem qNG (a1:Int) (a2:qG) (a3:qG) (r:Span) (hm:TP a1 a2 a3=some r):CtX Tryz.prog globs 93 2 2 [.one (ci a1),.one (.bptr 0 0 0),.one (.bptr 1 0 0)] [(0,bx 78 (qV a2)),(1,bx 78 (qV a3))] (qFT a1 a2 a3 r) (qFL a1 a2 a3 r):=by
 unfold TP at hm;refine q_E f93 12 λE=>?_;refine s_vn [] 2 ⟨[(0,vi a1),(1,vp 0 0),(2,vp 1 0),(4,vp 2 0)],[(0,bx 78 (qV a2)),(1,bx 78 (qV a3)),(2,bx 53 [ci 0,ci 0])]⟩ ?_;obtain⟨v4,h5,hm⟩:=qC hm;obtain⟨v6,h7,hm⟩:=qC hm;obtain⟨v8,h9,hm⟩:=qC hm;refine s_du [qc 2 [5,6] 3 (qKB a2 a1 v4 h5),qc 5 [8,9] 3 (qKB a3 a1 v6 h7),qc 6 [7,10] 3 (KT v4 v6 v8 h9)] [0,0,3,0,0,31,63,127] 3 [0,1,2] [] [2] [(2,bx 53 (qE v8))] ?_;obtain rfl:=oi hm;exact q_rt q_rm
end Saw
end Go.SL

import Derived.Test.YthbamnkheinbgaaGreatDoorSBase
import Derived.Test.YthbamnkheinbgaaGreatDoorSFa3
import Derived.Test.YthbamnkheinbgaaGreatDoorSFa1
import Derived.Test.YthbamnkheinbgaaGreatDoorSFa2
set_option linter.unusedVariables false
set_option linter.unusedSimpArgs false
namespace Go.SL
namespace Saw
open Go.Proofs Go.Proofs.Tryz
set_option maxHeartbeats 4000000
set_option maxRecDepth 100000
def qDU (r:Rect):V:=va (YP r)
def DR (r:Rect):List (Nat×(Nat×O)):=[]
theorem qKI (r:Rect):QM (DR r):=by
 intro i k o h;unfold DR at h;cases h
def NH (a1:List qA) (x4:Int) (x5:Rect):St:=
 ⟨[(2,vp 0 0),(3,vp 1 0),(29,vc (tl qC dd a1)),(30,vi (a1.length:Int)),(31,vi x4)],[(0,bx 190 [ci 0,ci 0,ci 0,ci 0]),(1,bx 190 (YP x5))]⟩
def qAm (x8:Rect):St:=
 ⟨[(2,vp 0 0),(3,vp 1 0)],[(0,bx 190 [ci 0,ci 0,ci 0,ci 0]),(1,bx 190 (YP x8))]⟩
theorem qGb (E:Env 0) (a1:List qA):∀(n:Nat) (x4:Int) (x5:Rect) (res:Rect),XQ a1 n x4 x5=some res->HL (kx E 65 0) (nd f177 244) (zS 0 qAm res) n (NH a1 x4 x5):=by
 intro n
 induction n with
 |zero=>
  intro x4 x5 res hm;cases hm
 |succ n ih=>
  intro x4 x5 res hm;refine qS (s_va 2 [(32,vb (decide (x4<(a1.length:Int))))] ?_);refine q_sq (q_cq hm (λhm=>?_) (λhm=>?_))
  ·refine q_sk (q_sq ?_);refine q_bk 1 ?_;obtain⟨g7,hm⟩:=qK hm;refine s_vu [qi 0 g7] 2 [32] [(5,vp 2 0)] [] [(2,bx 71 (qC (a1.getD x4.toNat dd)))] (s_vu [] 3 [] [] [1] [(1,bx 190 [ci (imin x5.X.A ((a1.getD x4.toNat dd).X)),ci (imax x5.X.B ((a1.getD x4.toNat dd).X)),ci x5.Y.A,ci x5.Y.B])] ?_);refine q_vu [] 3 [5] [] [1,2] [(1,bx 190 [ci (imin x5.X.A ((a1.getD x4.toNat dd).X)),ci (imax x5.X.B ((a1.getD x4.toNat dd).X)),ci (imin x5.Y.A ((a1.getD x4.toNat dd).Y)),ci (imax x5.Y.B ((a1.getD x4.toNat dd).Y))])] (q_vv [] 3 [31] [(31,vi (w64 (x4+1)))] ?_)
   exact q_hl (NH a1 (w64 (x4+1)) (Rect.mk (Span.mk (imin x5.X.A ((a1.getD x4.toNat dd).X)) (imax x5.X.B ((a1.getD x4.toNat dd).X))) (Span.mk (imin x5.Y.A ((a1.getD x4.toNat dd).Y)) (imax x5.Y.B ((a1.getD x4.toNat dd).Y))))) (ih (w64 (x4+1)) (Rect.mk (Span.mk (imin x5.X.A ((a1.getD x4.toNat dd).X)) (imax x5.X.B ((a1.getD x4.toNat dd).X))) (Span.mk (imin x5.Y.A ((a1.getD x4.toNat dd).Y)) (imax x5.Y.B ((a1.getD x4.toNat dd).Y)))) _ hm)
  ·refine q_ex 0 ?_;obtain rfl:=oi hm;exact q_l0
theorem qJw (a1:List qA) (r:Rect) (hm:DN a1=some r):CtX Tryz.prog globs 177 0 0 [.one (tl qC dd a1)] [] (qDU r) (DR r):=by
 unfold DN at hm;refine q_E f177 65 λE=>?_;refine s_vn [] 0 ⟨[(0,vc (tl qC dd a1)),(2,vp 0 0)],[(0,bx 190 [ci 0,ci 0,ci 0,ci 0])]⟩ (q_sq ?_);refine s_va 1 [(8,vb ((a1.length:Int)==0))] (q_cq hm (λhm=>?_) (λhm=>?_))
 ·refine s_vv [] 1 [0,8] [] ?_;obtain rfl:=oi hm;exact q_rt q_rm
 ·refine q_sk ?_;obtain⟨g3,hm⟩:=qK hm;refine s_du [qi 1 g3,qi 5 g3,qi 10 g3,qi 14 g3] [0,1,3,7,0,16,48,112,255,0,512,1536,3584,0,8192,24576,57344,130560,262143,0,1048575] 1 [8] [(3,vp 1 0)] [] [(1,bx 190 [ci ((a1.getD (0:Int).toNat dd).X),ci ((a1.getD (0:Int).toNat dd).X),ci ((a1.getD (0:Int).toNat dd).Y),ci ((a1.getD (0:Int).toNat dd).Y)])] (q_sq ?_);refine s_vv [] 2 [0] [(29,vc (tl qC dd a1)),(30,vi (a1.length:Int)),(31,vi 0)] ?_;obtain⟨o9,h10,hm⟩:=qE hm
  refine zL (nd f177 244) 0 (by kernel_rfl) FUEL qAm o9 (q_hl (NH a1 0 (Rect.mk (Span.mk ((a1.getD (0:Int).toNat dd).X) ((a1.getD (0:Int).toNat dd).X)) (Span.mk ((a1.getD (0:Int).toNat dd).Y) ((a1.getD (0:Int).toNat dd).Y)))) (qGb E a1 FUEL 0 (Rect.mk (Span.mk ((a1.getD (0:Int).toNat dd).X) ((a1.getD (0:Int).toNat dd).X)) (Span.mk ((a1.getD (0:Int).toNat dd).Y) ((a1.getD (0:Int).toNat dd).Y))) o9 h10)) (s_vu [] 2 [3] [] [0,1] [(0,bx 190 (YP o9))] ?_);obtain rfl:=oi hm;exact q_rt q_rm
def qM2 (r:Int):V:=vi r
def qLj (r:Int):List (Nat×(Nat×O)):=[]
def qIx (x5:Int):St:=
 ⟨[(5,vi x5)],[]⟩
theorem qDQ (a1:Int) (a2:Int) (r:Int) (hm:GA a1 a2=some r):CtX Tryz.prog globs 179 0 0 [.one (ci a1),.one (ci a2)] [] (qM2 r) (qLj r):=by
 unfold GA at hm;refine q_E f179 16 λE=>?_;refine s_vn [] 0 ⟨[(0,vi a1),(1,vi a2)],[]⟩ ?_;obtain⟨g3,hm⟩:=qK hm;refine s_vv [qd 2 dN (OF g3)] 0 [] [(5,vi (w64 (Int.tdiv a1 a2)))] (q_jn (qIx) (λp=>DW p=some r) ?_ ?_)
 ·rintro x5 hm;refine s_vn [] 0 ⟨[(4,vi x5)],[]⟩ ?_;obtain rfl:=oi hm;exact q_rt q_rm
 ·refine s_vv [qd 2 dN (OF g3)] 0 [0,1] [(12,vb (decide ((Int.tmod a1 a2)<0)))] (q_cq hm (λhm=>?_) (λhm=>?_))
  ·exact q_vn [] 0 ⟨[(5,vi (w64 ((w64 (Int.tdiv a1 a2))-1)))],[]⟩ (q_J (w64 ((w64 (Int.tdiv a1 a2))-1)) hm)
  ·exact q_sk (q_J (w64 (Int.tdiv a1 a2)) hm)
def MR (a1:Int) (a2:Rect) (a3:List qA) (r:Int×Int):V:= .tup [.one (ci r.1),.one (ci r.2)]
def MK (a1:Int) (a2:Rect) (a3:List qA) (r:Int×Int):List (Nat×(Nat×O)):=[(0,bx 190 (YP a2)),(1,bx 52 [.own 2 0 2 a3.length]),(2,ro 0 71 2 a3.length (rf qC a3))]
def TG (a1:Int) (a2:Rect) (a3:List qA) (x4:Int) (x5:Int) (x6:Int):St:=
 ⟨[(0,vi a1),(2,vp 1 0),(6,vi x4),(7,vi x5),(9,vp 3 0),(10,vp 4 0),(17,vo 2 0 2 a3.length),(18,vi (a3.length:Int)),(19,vi x6)],[(0,bx 190 (YP a2)),(1,bx 52 [.own 2 0 2 a3.length]),(2,ro 0 71 2 a3.length (rf qC a3)),(3,bx 71 (qC (a3.getD x6.toNat dd))),(4,bx 71 (qC (a3.getD ((Int.tmod (w64 (x6+1)) (a3.length:Int)).toNat) dd)))]⟩
def IU (a1:Int) (a2:Rect) (a3:List qA) (x6:Int) (x23:Int) (x24:Int):St:=
 ⟨[(0,vi a1),(2,vp 1 0),(6,vi x23),(7,vi x24),(17,vo 2 0 2 a3.length),(18,vi (a3.length:Int)),(19,vi x6)],[(0,bx 190 (YP a2)),(1,bx 52 [.own 2 0 2 a3.length]),(2,ro 0 71 2 a3.length (rf qC a3))]⟩
def qFX (a1:Int) (a2:Rect) (a3:List qA) (x4:Int) (x5:Int) (x6:Int) (x19:Bool):St:=
 (TG a1 a2 a3 x4 x5 x6).up [] [(69,vb x19)] [] []
def qF1 (a1:Int) (a2:Rect) (a3:List qA) (x4:Int) (x5:Int) (x6:Int) (x13:Bool):St:=
 (TG a1 a2 a3 x4 x5 x6).up [] [(32,vb x13)] [] []
def GW (a1:Int) (a2:Rect) (a3:List qA) (x4:Int) (x5:Int) (x6:Int):St:=
 (TG a1 a2 a3 x4 x5 x6).up [9,10] [] [3,4] []
def OD (a2:Rect) (a3:List qA) (x25:Int) (x26:Int):St:=
 ⟨[(6,vi x25),(7,vi x26)],[(0,bx 190 (YP a2)),(1,bx 52 [.own 2 0 2 a3.length]),(2,ro 0 71 2 a3.length (rf qC a3))]⟩
theorem qFc (E:Env 3) (a1:Int) (a2:Rect) (a3:List qA):∀(n:Nat) (x4:Int) (x5:Int) (x6:Int) (res:Int×Int),wH a1 a3 n x4 x5 x6=some res->HL (kx E 109 2) (nd f178 116) (zS 0 (λo=>OD a2 a3 o.1 o.2) res) n (GW a1 a2 a3 x4 x5 x6):=by
 intro n
 induction n with
 |zero=>
  intro x4 x5 x6 res hm;cases hm
 |succ n ih=>
  intro x4 x5 x6 res hm;refine qS (s_va 3 [(20,vb (decide (x6<(a3.length:Int))))] ?_);refine q_sq (q_cq hm (λhm=>?_) (λhm=>?_))
  ·refine q_sk (q_jn (ι:=Int×Int) (λp=>IU a1 a2 a3 x6 p.1 p.2) (λp=>YV x6 (wH a1 a3 n) p.1 p.2=some res) ?_ ?_)
   ·rintro⟨x23,x24⟩ hm;show H _ (IU a1 a2 a3 x6 x23 x24) _ _;exact q_vv [] 5 [19] [(19,vi (w64 (x6+1)))] (q_hl (GW a1 a2 a3 x23 x24 (w64 (x6+1))) (ih x23 x24 (w64 (x6+1)) _ hm))
   ·refine q_bk 1 ?_;obtain⟨g8,hm⟩:=qK hm;refine s_vu [qi 1 g8,qd 2 dN (qW (zG g8))] 3 [20] [(8,vi x6),(9,vp 3 0)] [] [(3,bx 71 (qC (a3.getD x6.toNat dd)))] ?_;obtain⟨g9,hm⟩:=qK hm;obtain⟨g10,hm⟩:=qK hm;refine s_du [qd 5 dN (OF g9),qi 6 g10,qd 7 dN (qW (zG g10))] [0,0,2,0,8,30,63,127,0,511] 4 [8] [(10,vp 4 0)] [] [(4,bx 71 (qC (a3.getD ((Int.tmod (w64 (x6+1)) (a3.length:Int)).toNat) dd)))] (q_bk 2 ?_);refine q_jn (qF1 a1 a2 a3 x4 x5 x6) (λp=>YY a1 a3 x4 x5 x6 (wH a1 a3 n) p=some res) ?_ ?_
    ·rintro x13 hm;refine q_cq hm (λhm=>?_) (λhm=>?_)
     ·obtain⟨v15,h16,hm⟩:=qE hm;exact q_du [qc 17 [61,66] 5 (qDQ (w64 ((w64 (((a3.getD ((Int.tmod (w64 (x6+1)) (a3.length:Int)).toNat) dd).X)-((a3.getD x6.toNat dd).X)))*(w64 (a1-((a3.getD x6.toNat dd).Y))))) (w64 (((a3.getD ((Int.tmod (w64 (x6+1)) (a3.length:Int)).toNat) dd).Y)-((a3.getD x6.toNat dd).Y))) v15 h16)] [0,1,0,4,0,16,60,0,0,256,896,2044,0,4096,0,16384,61440,131068,262143,524287] 5 [7,9,10,32] [(7,vi (w64 (((a3.getD x6.toNat dd).X)+v15)))] [3,4] [] (q_J (x4,w64 (((a3.getD x6.toNat dd).X)+v15)) hm)
     ·refine q_jn (qFX a1 a2 a3 x4 x5 x6) (λp=>YT a1 a3 x4 x5 x6 (wH a1 a3 n) p=some res) ?_ ?_
      ·rintro x19 hm;refine q_cq hm (λhm=>?_) (λhm=>?_)
       ·obtain⟨v21,h22,hm⟩:=qE hm
        exact q_du [qc 17 [98,103] 5 (qDQ (w64 ((w64 (((a3.getD ((Int.tmod (w64 (x6+1)) (a3.length:Int)).toNat) dd).X)-((a3.getD x6.toNat dd).X)))*(w64 (a1-((a3.getD ((Int.tmod (w64 (x6+1)) (a3.length:Int)).toNat) dd).Y))))) (w64 (((a3.getD x6.toNat dd).Y)-((a3.getD ((Int.tmod (w64 (x6+1)) (a3.length:Int)).toNat) dd).Y))) v21 h22)] [0,1,0,4,0,16,60,0,0,256,896,2044,0,4096,0,16384,61440,131068,262143,524287] 5 [6,9,10,69] [(6,vi (w64 (((a3.getD ((Int.tmod (w64 (x6+1)) (a3.length:Int)).toNat) dd).X)-v21)))] [3,4] [] (q_J (w64 (((a3.getD ((Int.tmod (w64 (x6+1)) (a3.length:Int)).toNat) dd).X)-v21),x5) hm)
       ·exact q_sk (q_J (x4,x5) hm)
      ·rcases bif_c hm with⟨b17,hm⟩|⟨b17,hm⟩
       ·rcases bif_c hm with⟨b18,hm⟩|⟨b18,hm⟩
        ·exact q_vv [qf 5 b17,qf 11 b18] 5 [32] [(69,vb (decide (a1<=((a3.getD x6.toNat dd).Y))))] (q_J (decide (a1<=((a3.getD x6.toNat dd).Y))) hm)
        ·exact q_vv [qf 5 b17,qf 11 b18] 5 [32] [(69,vb false)] (q_J (false) hm)
       ·exact q_vv [qf 5 b17] 5 [32] [(69,vb false)] (q_J (false) hm)
    ·rcases bif_c hm with⟨b11,hm⟩|⟨b11,hm⟩
     ·rcases bif_c hm with⟨b12,hm⟩|⟨b12,hm⟩
      ·exact q_vv [qf 5 b11,qf 11 b12] 5 [] [(32,vb (decide (a1<=((a3.getD ((Int.tmod (w64 (x6+1)) (a3.length:Int)).toNat) dd).Y))))] (q_J (decide (a1<=((a3.getD ((Int.tmod (w64 (x6+1)) (a3.length:Int)).toNat) dd).Y))) hm)
      ·exact q_vv [qf 5 b11,qf 11 b12] 5 [] [(32,vb false)] (q_J (false) hm)
     ·exact q_vv [qf 5 b11] 5 [] [(32,vb false)] (q_J (false) hm)
  ·refine q_ex 0 ?_;obtain rfl:=oi hm;exact q_l0
theorem qA7 (a1:Int) (a2:Rect) (a3:List qA) (r:Int×Int) (hm:KH a1 a2 a3=some r):CtX Tryz.prog globs 178 3 2 [.one (ci a1),.one (.bptr 0 0 0),.one (.bptr 1 0 0)] [(0,bx 190 (YP a2)),(1,bx 52 [.own 2 0 2 a3.length]),(2,ro 0 71 2 a3.length (rf qC a3))] (MR a1 a2 a3 r) (MK a1 a2 a3 r):=by
 unfold KH at hm;refine q_E f178 109 λE=>?_;refine s_vn [] 3 ⟨[(0,vi a1),(1,vp 0 0),(2,vp 1 0)],[(0,bx 190 (YP a2)),(1,bx 52 [.own 2 0 2 a3.length]),(2,ro 0 71 2 a3.length (rf qC a3))]⟩ (s_du [] [0,1,3,0,8,24,7,127] 3 [1] [(6,vi a2.X.A),(7,vi a2.X.B)] [] [] ?_);refine q_sq (s_va 3 [(17,vo 2 0 2 a3.length),(18,vi (a3.length:Int)),(19,vi 0)] ?_);obtain⟨o27,h28,hm⟩:=qE hm;refine zL (nd f178 116) 0 (by kernel_rfl) FUEL (λo=>OD a2 a3 o.1 o.2) o27 (q_hl (GW a1 a2 a3 a2.X.A a2.X.B 0) (qFc E a1 a2 a3 FUEL a2.X.A a2.X.B 0 o27 h28)) (s_vv [] 3 [6,7] [(4,vi o27.1),(5,vi o27.2)] ?_)
 obtain rfl:=oi hm;exact q_rt q_rm
open Go.Proofs Go.Proofs.Tryz
def qNd (r:Span):V:=va (qG r)
def qMN (r:Span):List (Nat×(Nat×O)):=[]
def qIp (a2:Int) (a3:Int) (v4:(List qA)) (v6:Rect) (x11:Bool):St:=
 ⟨[(1,vi a2),(2,vi a3),(6,vp 0 0),(7,vp 2 0),(8,vp 3 0),(40,vb x11)],[(0,bx 64 [ci 0,ci 0]),(1,ro 0 71 2 v4.length (rf qC v4)),(2,bx 52 [.own 1 0 2 v4.length]),(3,bx 190 (YP v6))]⟩
theorem qKx (a1:List qA) (a2:Int) (a3:Int) (r:Span) (hm:LZ a1 a2 a3=some r):CtX Tryz.prog globs 149 0 0 [.one (tl qC dd a1),.one (ci a2),.one (ci a3)] [] (qNd r) (qMN r):=by
 unfold LZ at hm;refine q_E f149 69 λE=>?_;refine s_vn [] 0 ⟨[(0,vc (tl qC dd a1)),(1,vi a2),(2,vi a3),(6,vp 0 0)],[(0,bx 64 [ci 0,ci 0])]⟩ ?_;obtain⟨v4,h5,hm⟩:=qE hm;refine s_vu [qc 1 [15] 1 (qMv a1 v4 h5)] 1 [0] [(7,vp 2 0)] [] [(1,ro 0 71 2 v4.length (rf qC v4)),(2,bx 52 [.own 1 0 2 v4.length])] ?_;obtain⟨v6,h7,hm⟩:=qE hm
 refine s_vu [qd 1 (dex (cen [] [] 3 0 (qDU v6) (DR v6) [17] [1])) (zK (K:=(kx E 69 0)) (b:=false) ⟨[(17,vo 1 0 2 v4.length)],[(1,ro 0 71 2 v4.length (rf qC v4))]⟩ (opAt (rg f149 14) 1) [] [] 3 (o1 (kr v4.length)) rfl (qJw v4 v6 h7) (.inr ⟨(by kernel_rfl),qKI v6⟩) (by kernel_rfl))] 3 [] [(8,vp 3 0)] [] [(3,bx 190 (YP v6))] (q_sq ?_);refine q_jn (qIp a2 a3 v4 v6) (λp=>YC a2 a3 v4 v6 p=some r) ?_ ?_
 ·rintro x11 hm;refine q_cq hm (λhm=>?_) (λhm=>?_)
  ·refine s_vu [] 4 [1,2,7,8,40] [] [1,2,3] [] ?_;obtain rfl:=oi hm;exact q_rt q_rm
  ·refine q_sk (s_vv [] 4 [7,8,40] [(9,vc (.fn 178 [.bptr 3 0 0,.bptr 2 0 0]))] ?_);obtain⟨v13,h14,hm⟩:=qE hm
   refine s_vu [qd 2 (dex (cen [(3,0),(2,0),(1,0)] [0,0,1] 1 2 (MR a2 v6 v4 v13) (MK a2 v6 v4 v13) [44,45] [3,2,1])) (zK (K:=(kx E 69 0)) ⟨[(44,vc (.fn 178 [.bptr 3 0 0,.bptr 2 0 0])),(45,vi a2)],[(3,bx 190 (YP v6)),(2,bx 52 [.own 1 0 2 v4.length]),(1,ro 0 71 2 v4.length (rf qC v4))]⟩ (opAt (rg f149 126) 2) [(3,0),(2,0),(1,0)] [0,0,1] 1 o0 rfl (qA7 a2 v6 v4 v13 h14) (.inl rfl) (by kernel_rfl))] 4 [1] [(10,vi v13.1),(11,vi v13.2)] [1,2] [(1,ro 1 71 2 v4.length (rf qC v4)),(2,bx 52 [.own 1 1 2 v4.length])] ?_;obtain⟨v15,h16,hm⟩:=qE hm
   refine s_vu [qd 2 (dex (cen [(3,0),(2,0),(1,1)] [0,0,2] 1 2 (MR a3 v6 v4 v15) (MK a3 v6 v4 v15) [50,51] [3,2,1])) (zK (K:=(kx E 69 0)) ⟨[(50,vc (.fn 178 [.bptr 3 0 0,.bptr 2 0 0])),(51,vi a3)],[(3,bx 190 (YP v6)),(2,bx 52 [.own 1 1 2 v4.length]),(1,ro 1 71 2 v4.length (rf qC v4))]⟩ (opAt (rg f149 254) 2) [(3,0),(2,0),(1,1)] [0,0,2] 1 o0 rfl (qA7 a3 v6 v4 v15 h16) (.inl rfl) (by kernel_rfl))] 4 [2,9] [(12,vi v15.1),(13,vi v15.2)] [1,2,3] [] (s_vu [] 4 [10,11,12,13] [(14,vp 4 0)] [] [(4,bx 64 [ci (imax v13.1 v15.1),ci (imin v13.2 v15.2)])] ?_)
   refine q_sq (s_va 5 [(66,vb (decide ((imax v13.1 v15.1)≥(imin v13.2 v15.2))))] ?_);refine q_cq hm (λhm=>?_) (λhm=>?_)
   ·refine s_vu [] 5 [14,66] [] [4] [] ?_;obtain rfl:=oi hm;exact q_rt q_rm
   ·refine q_sk (s_vn [] 5 ⟨[(6,vp 0 0)],[(0,bx 64 [ci (imax v13.1 v15.1),ci (imin v13.2 v15.2)])]⟩ ?_);obtain rfl:=oi hm;exact q_rt q_rm
 ·rcases bif_c hm with⟨b8,hm⟩|⟨b8,hm⟩
  ·exact q_vv [qf 3 b8] 4 [] [(40,vb true)] (q_J (true) hm)
  ·rcases bif_c hm with⟨b9,hm⟩|⟨b9,hm⟩
   ·exact q_vv [qf 3 b8,qf 8 b9] 4 [] [(40,vb true)] (q_J (true) hm)
   ·rcases bif_c hm with⟨b10,hm⟩|⟨b10,hm⟩
    ·exact q_vv [qf 3 b8,qf 8 b9,qf 15 b10] 4 [] [(40,vb true)] (q_J (true) hm)
    ·exact q_vv [qf 3 b8,qf 8 b9,qf 15 b10] 4 [] [(40,vb (decide (a3>v6.Y.B)))] (q_J (decide (a3>v6.Y.B)) hm)
def qCF (a1:Int) (a2:List qA) (r:Span):V:=va (qG r)
def qCi (a1:Int) (a2:List qA) (r:Span):List (Nat×(Nat×O)):=[(0,bx 52 [tl qC dd a2])]
theorem qHT (a1:Int) (a2:List qA) (r:Span) (hm:UF a1 a2=some r):CtX Tryz.prog globs 147 1 1 [.one (ci a1),.one (.bptr 0 0 0)] [(0,bx 52 [tl qC dd a2])] (qCF a1 a2 r) (qCi a1 a2 r):=by
 unfold UF at hm;refine q_E f147 15 λE=>?_;refine s_vn [] 1 ⟨[(0,vi a1),(1,vp 0 0),(3,vp 1 0)],[(0,bx 52 [tl qC dd a2]),(1,bx 64 [ci 0,ci 0])]⟩ ?_;obtain⟨v3,h4,hm⟩:=qE hm;refine s_vu [qc 3 [5,7] 2 (qET a1 (w64 (a1+1)) v3 h4)] 2 [0] [(4,vp 2 0)] [] [(2,bx 64 (qG v3))] ?_;obtain⟨v5,h6,hm⟩:=qE hm;refine s_vu [qc 5 [9,11,13] 3 (qKx a2 v3.A v3.B v5 h6)] 3 [1,4] [] [1,2] [(1,bx 64 (qG v5))] ?_;obtain rfl:=oi hm;exact q_rt q_rm
def qBq (a1:List qA) (r:qB):V:=va [ci r.Low,.own 1 0 2 r.Rows.length]
def qBr (a1:List qA) (r:qB):List (Nat×(Nat×O)):=[(0,bx 52 [tl qC dd a1]),(1,ro 0 64 2 r.Rows.length (rf qG r.Rows))]
def PR (a1:List qA) (x3:Int):St:=
 ⟨[(0,vc (.fn 147 [.bptr 0 0 0])),(2,vp 1 0),(3,vp 2 0),(5,vi x3)],[(0,bx 52 [tl qC dd a1]),(1,bx 48 [ci 0,.emp])]⟩
def AY (a1:List qA) (x3:Int) (x17:Int) (x18:Int) (l19:List Span) (l19n:Nat):St:=
 (PR a1 x3).up [] [(4,vi x17)] [] [(2,bx 48 [ci x18,.own 3 0 2 l19n]),(3,ro 0 64 2 l19n (rf qG l19))]
def qEv (a1:List qA) (x3:Int) (l5:List Span) (v7:Span) (x13:Int):St:=
 (PR a1 x3).up [] [(6,vp 4 0)] [] [(2,bx 48 [ci x13,.own 3 0 2 l5.length]),(3,ro 0 64 2 l5.length (rf qG l5)),(4,bx 64 (qG v7))]
def VI (a1:List qA) (x2:Int) (x3:Int) (x4:Int) (l5:List Span) (l5n:Nat):St:=
 (PR a1 x3).up [] [(4,vi x2)] [] [(2,bx 48 [ci x4,.own 3 0 2 l5n]),(3,ro 0 64 2 l5n (rf qG l5))]
def IC (a1:List qA) (x20:Int) (x21:Int) (l22:List Span):St:=
 ⟨[(2,vp 1 0),(3,vp 2 0),(4,vi x20)],[(0,bx 52 [tl qC dd a1]),(1,bx 48 [ci 0,.emp]),(2,bx 48 [ci x21,.own 3 0 2 l22.length]),(3,ro 0 64 2 l22.length (rf qG l22))]⟩
theorem qEb (E:Env 1) (a1:List qA):∀(n:Nat) (x2:Int) (x3:Int) (x4:Int) (l5:List Span) (l5n:Nat) (res:Int×Int×(List Span)),l5.length=l5n->wA a1 n x2 x3 x4 l5=some res->HL (kx E 46 1) (nd f80 244) (zS 0 (λo=>IC a1 o.1 o.2.1 o.2.2) res) n (VI a1 x2 x3 x4 l5 l5n):=by
 intro n
 induction n with
 |zero=>
  intro x2 x3 x4 l5 l5n res hl0 hm;cases hm
 |succ n ih=>
  intro x2 x3 x4 l5 l5n res hl0 hm;subst hl0;refine qS (q_sq ?_);refine s_va 4 [(8,vb (decide (x3<60)))] (q_cq hm (λhm=>?_) (λhm=>?_))
  ·refine q_sk (q_jn (ι:=Int×Int×(List Span)×Nat) (λp=>AY a1 x3 p.1 p.2.1 p.2.2.1 p.2.2.2) (λp=>p.2.2.1.length=p.2.2.2/\JH x3 (wA a1 n) p.1 p.2.1 p.2.2.1=some res) ?_ ?_)
   ·rintro⟨x17,x18,l19,l19n⟩ ⟨el19,hm⟩;replace el19:l19.length=l19n:=el19;subst el19;show H _ (AY a1 x3 x17 x18 l19 l19.length) _ _;exact q_vv [] 6 [5] [(5,vi (w64 (x3+1)))] (q_hl (VI a1 x17 (w64 (x3+1)) x18 l19 l19.length) (ih x17 (w64 (x3+1)) x18 l19 l19.length _ rfl hm))
   ·refine q_bk 1 ?_;obtain⟨v7,h8,hm⟩:=qE hm;refine s_vu [qd 2 (dex (cen [(0,0)] [0] 3 1 (qCF x3 a1 v7) (qCi x3 a1 v7) [11,12] [0])) (zK (K:=(kx E 46 1)) ⟨[(11,vc (.fn 147 [.bptr 0 0 0])),(12,vi x3)],[(0,bx 52 [tl qC dd a1])]⟩ (opAt (rg f80 3912) 2) [(0,0)] [0] 3 o0 rfl (qHT x3 a1 v7 h8) (.inl rfl) (by kernel_rfl))] 4 [8] [(6,vp 4 0)] [] [(4,bx 64 (qG v7))] (q_bk 2 ?_);obtain⟨v9,h10,hm⟩:=qE hm;refine s_vv [qc 1 [15] 5 (wG v7 v9 h10)] 5 [] [(14,vb (!v9))] (q_cq hm (λhm=>?_) (λhm=>?_))
    ·refine q_jn (qEv a1 x3 l5 v7) (λp=>PI x3 l5 (wA a1 n) v7 p=some res) ?_ ?_
     ·rintro x13 hm;obtain⟨g14,hm⟩:=qK hm;refine s_vu [qd 3 (drw 5 0 (rf qG [v7])) (litP qG dd 2 (λ_=>rfl) ([v7]:List Span) 1 rfl),qd 4 (drw 3 1 (rf qG (l5++[v7]))) (apP qG dd l5 ([v7]:List Span) l5.length 1 2 16 (1<=1) (kr _) rfl rfl (λ_=>rfl) (zW g14))] 5 [6] [] [2,3,4] [(2,bx 48 [ci x13,.own 3 1 2 (l5.length+1)]),(3,ro 1 64 2 (l5.length+1) (rf qG (l5++[v7])))] (q_va 6 [(4,vi (((l5.length+1):Nat):Int))] ?_);exact q_J ((((l5.length+1):Nat):Int),x13,(l5++[v7]),(l5.length+1)) ⟨(wN rfl rfl),hm⟩
     ·refine s_vv [] 5 [4,14] [(19,vb (x2==0))] (q_cq hm (λhm=>?_) (λhm=>?_))
      ·exact q_vu [] 5 [19] [] [2] [(2,bx 48 [ci x3,.own 3 0 2 l5.length])] (q_J (x3) hm)
      ·exact q_sk (q_J (x4) hm)
    ·refine s_vu [] 5 [6,14] [(31,vb (decide (x2>0)))] [4] [] (q_cq hm (λhm=>?_) (λhm=>?_))
     ·obtain⟨g16,hm⟩:=qK hm;exact q_vu [qd 3 (drw 5 0 (rf qG [(Span.mk 0 0)])) (litP qG dd 2 (λ_=>rfl) ([(Span.mk 0 0)]:List Span) 1 rfl),qd 4 (drw 3 1 (rf qG (l5++[(Span.mk 0 0)]))) (apP qG dd l5 ([(Span.mk 0 0)]:List Span) l5.length 1 2 16 (1<=1) (kr _) rfl rfl (λ_=>rfl) (zW g16))] 5 [31] [] [2,3] [(2,bx 48 [ci x4,.own 3 1 2 (l5.length+1)]),(3,ro 1 64 2 (l5.length+1) (rf qG (l5++[(Span.mk 0 0)])))] (q_J (x2,x4,(l5++[(Span.mk 0 0)]),(l5.length+1)) ⟨(wN rfl rfl),hm⟩)
     ·exact q_sk (q_J (x2,x4,l5,l5.length) ⟨rfl,hm⟩)
  ·refine q_ex 0 ?_;obtain rfl:=oi hm;exact q_l0
theorem qGE (a1:List qA) (r:qB) (hm:RH a1=some r):CtX Tryz.prog globs 80 1 1 [.one (.fn 147 [.bptr 0 0 0])] [(0,bx 52 [tl qC dd a1])] (qBq a1 r) (qBr a1 r):=by
 unfold RH at hm;refine q_E f80 46 λE=>?_;refine s_vn [] 1 ⟨[(0,vc (.fn 147 [.bptr 0 0 0])),(2,vp 1 0)],[(0,bx 52 [tl qC dd a1]),(1,bx 48 [ci 0,.emp])]⟩ (s_vu [] 2 [] [(3,vp 2 0)] [] [(2,bx 48 [ci 0,.emp])] ?_);refine s_va 3 [(4,vi 0)] (q_sq ?_);refine s_va 3 [(5,vi (-60))] (q_fu [.ownB 2 1 3 64 2 (rf qG [])] [] [] [2] [(2,bx 48 [ci 0,.own 3 0 2 0]),(3,ro 0 64 2 0 (rf qG []))] o0 ?_);obtain⟨o23,h24,hm⟩:=qE hm;refine zL (nd f80 244) 0 (by kernel_rfl) FUEL (λo=>IC a1 o.1 o.2.1 o.2.2) o23 (q_hl (VI a1 0 (-60) 0 ([]:List Span) 0) (qEb E a1 FUEL 0 (-60) 0 ([]:List Span) 0 o23 rfl h24)) ?_
 obtain⟨g25,hm⟩:=qK hm;refine s_wu [qd 3 dN (And.intro (qZ g25).2.1 (qZ g25).2.2)] [.row 3 o23.1.toNat (rf qG (o23.2.2.take o23.1.toNat))] (o1 (tkP qG dd o23.2.2 o23.2.2.length o23.1.toNat (show o23.1.toNat<=o23.2.2.length by have:=(qZ g25);omega))) 4 [4] [] [2,3] [(2,bx 48 [ci o23.2.1,.own 3 0 2 o23.1.toNat]),(3,ro 0 64 2 o23.1.toNat (rf qG (o23.2.2.take o23.1.toNat)))] (s_vu [] 4 [3] [] [1,2] [(1,bx 48 [ci o23.2.1,.own 3 0 2 o23.1.toNat])] ?_)
 refine q_fu [.len 3 ((o23.2.2.take o23.1.toNat).length)] [] [] [1,3] [(1,bx 48 [ci o23.2.1,.own 3 0 2 ((o23.2.2.take o23.1.toNat).length)]),(3,ro 0 64 2 ((o23.2.2.take o23.1.toNat).length) (rf qG (o23.2.2.take o23.1.toNat)))] (o1 (And.intro (Eq.symm (show(o23.2.2.take o23.1.toNat).length=o23.1.toNat from(ZA rfl (show o23.1.toNat<=o23.2.2.length by have:=(qZ g25);omega)))) (Eq.symm (show(o23.2.2.take o23.1.toNat).length=o23.1.toNat from(ZA rfl (show o23.1.toNat<=o23.2.2.length by have:=(qZ g25);omega)))))) ?_;obtain rfl:=oi hm;exact q_sw 3 1 (q_rt q_rm)
open Go.Proofs Go.Proofs.Tryz
def qEC (r:qB×Int):V:= .tup [.agg [ci r.1.Low,.own 0 0 2 r.1.Rows.length],.one (ci r.2)]
def LB (r:qB×Int):List (Nat×(Nat×O)):=[(0,ro 0 64 2 r.1.Rows.length (rf qG r.1.Rows))]
theorem qNc (r:qB×Int):QM (LB r):=by
 intro i k o h;unfold LB at h;rw[look_cons] at h;split at h
 ·cases h;exact λ_ _=>rfl
 ·cases h
theorem qKw (a1:List qA) (r:qB×Int) (hm:FX a1=some r):CtX Tryz.prog globs 92 0 0 [.one (tl qC dd a1)] [] (qEC r) (LB r):=by
 unfold FX at hm;refine q_E f92 20 λE=>?_;refine s_vn [] 0 ⟨[(1,vp 0 0),(2,vp 1 0)],[(0,bx 52 [tl qC dd a1]),(1,bx 48 [ci 0,.emp])]⟩ (q_sq ?_);obtain⟨v2,h3,hm⟩:=qE hm;refine s_vv [qc 1 [6] 2 (qKY a1 v2 h3)] 2 [] [(4,vi v2)] (s_va 2 [(9,vb (v2 !=0))] ?_);refine q_cq hm (λhm=>?_) (λhm=>?_)
 ·refine s_vu [] 2 [1,4,9] [(3,vi v2)] [0] [] (q_fu [.ownB 1 1 2 64 2 (rf qG [])] [] [] [1] [(1,bx 48 [ci 0,.own 2 0 2 0]),(2,ro 0 64 2 0 (rf qG []))] o0 ?_);refine q_fu [.len 2 (([]:List Span).length)] [] [] [1,2] [(1,bx 48 [ci 0,.own 2 0 2 (([]:List Span).length)]),(2,ro 0 64 2 (([]:List Span).length) (rf qG []))] (o1 (And.intro (show 0=([]:List Span).length from rfl) (show 0=([]:List Span).length from rfl))) ?_;obtain rfl:=oi hm;exact q_sw 2 0 (q_rt q_rm)
 ·refine q_sk ?_;obtain⟨v5,h6,hm⟩:=qE hm;refine s_vu [qd 1 (dex (cen [(0,0)] [0] 1 1 (qBq a1 v5) (qBr a1 v5) [12] [0])) (zK (K:=(kx E 20 0)) ⟨[(12,vc (.fn 147 [.bptr 0 0 0]))],[(0,bx 52 [tl qC dd a1])]⟩ (opAt (rg f92 14) 1) [(0,0)] [0] 1 o0 rfl (qGE a1 v5 h6) (.inl rfl) (by kernel_rfl))] 2 [1,4,9] [(5,vp 3 0)] [0] [(2,ro 0 64 2 v5.Rows.length (rf qG v5.Rows)),(3,bx 48 [ci v5.Low,.own 2 0 2 v5.Rows.length])] (q_sq ?_);refine s_va 4 [(17,vb ((v5.Rows.length:Int)==0))] (q_cq hm (λhm=>?_) (λhm=>?_))
  ·refine s_vu [] 4 [5,17] [(3,vi 18)] [2,3] [] (q_fu [.ownB 1 1 4 64 2 (rf qG [])] [] [] [1] [(1,bx 48 [ci 0,.own 4 0 2 0]),(4,ro 0 64 2 0 (rf qG []))] o0 ?_);refine q_fu [.len 4 (([]:List Span).length)] [] [] [1,4] [(1,bx 48 [ci 0,.own 4 0 2 (([]:List Span).length)]),(4,ro 0 64 2 (([]:List Span).length) (rf qG []))] (o1 (And.intro (show 0=([]:List Span).length from rfl) (show 0=([]:List Span).length from rfl))) ?_;obtain rfl:=oi hm;exact q_sw 4 0 (q_rt q_rm)
  ·refine q_sk (s_vu [] 4 [5,17] [(3,vi 0)] [1,3] [(1,bx 48 [ci v5.Low,.own 2 0 2 v5.Rows.length])] ?_);obtain rfl:=oi hm;exact q_sw 2 0 (q_rt q_rm)
def qHj (r:qB×Int):V:= .tup [.agg [ci r.1.Low,.own 0 0 2 r.1.Rows.length],.one (ci r.2)]
def qGP (r:qB×Int):List (Nat×(Nat×O)):=[(0,ro 0 64 2 r.1.Rows.length (rf qG r.1.Rows))]
theorem qFG (a1:Ring) (a2:Int) (a3:Int) (r:qB×Int) (hm:KW a1 a2 a3=some r):CtX Tryz.prog globs 44 0 0 [.agg (qM a1),.one (ci a2),.one (ci a3)] [] (qHj r) (qGP r):=by
 unfold KW at hm;refine q_E f44 26 λE=>?_;refine s_vn [] 0 ⟨[(1,vi a2),(2,vi a3),(3,vp 0 0),(6,vp 1 0)],[(0,bx 45 (qM a1)),(1,bx 48 [ci 0,.emp])]⟩ ?_;obtain⟨v4,h5,hm⟩:=qE hm;obtain⟨v6,h7,hm⟩:=qE hm
 refine s_vu [qc 2 [11,12] 2 (qKo a1 a2 v4 h5),qd 4 (dex (cen [] [] 3 0 (qD0 v6) (BJ v6) [13,14] [2])) (zK (K:=(kx E 26 0)) (b:=false) ⟨[(13,va [ci v4.Z,.own 2 0 3 v4.Read.length]),(14,vi a3)],[(2,ro 0 73 3 v4.Read.length (rf qH v4.Read))]⟩ (opAt (rg f44 6) 4) [] [] 3 (o1 (kr v4.Read.length)) rfl (qJs (Ring.mk v4.Z v4.Read) a3 v6 h7) (.inr ⟨(by kernel_rfl),qKQ v6⟩) (by kernel_rfl))] 2 [1,2,3] [(8,vo 3 0 2 v6.1.length),(9,vi v6.2)] [0] [(3,ro 0 71 2 v6.1.length (rf qC v6.1))] (q_sq ?_);refine s_va 4 [(19,vb (v6.2 !=0))] (q_cq hm (λhm=>?_) (λhm=>?_))
 ·refine s_vu [] 4 [8,9,19] [(7,vi v6.2)] [3] [] (q_fu [.ownB 1 1 4 64 2 (rf qG [])] [] [] [1] [(1,bx 48 [ci 0,.own 4 0 2 0]),(4,ro 0 64 2 0 (rf qG []))] o0 ?_);refine q_fu [.len 4 (([]:List Span).length)] [] [] [1,4] [(1,bx 48 [ci 0,.own 4 0 2 (([]:List Span).length)]),(4,ro 0 64 2 (([]:List Span).length) (rf qG []))] (o1 (And.intro (show 0=([]:List Span).length from rfl) (show 0=([]:List Span).length from rfl))) ?_;obtain rfl:=oi hm;exact q_sw 4 0 (q_rt q_rm)
 ·refine q_sk ?_;obtain⟨v9,h10,hm⟩:=qE hm;refine s_vn [qd 1 (dex (cen [] [] 4 0 (qEC v9) (LB v9) [22] [3])) (zK (K:=(kx E 26 0)) (b:=false) ⟨[(22,vo 3 0 2 v6.1.length)],[(3,ro 0 71 2 v6.1.length (rf qC v6.1))]⟩ (opAt (rg f44 30) 1) [] [] 4 (o1 (kr v6.1.length)) rfl (qKw v6.1 v9 h10) (.inr ⟨(by kernel_rfl),qNc v9⟩) (by kernel_rfl))] 4 ⟨[(6,vp 1 0),(7,vi v9.2)],[(1,bx 48 [ci v9.1.Low,.own 4 0 2 v9.1.Rows.length]),(4,ro 0 64 2 v9.1.Rows.length (rf qG v9.1.Rows))]⟩ ?_;obtain rfl:=oi hm;exact q_sw 4 0 (q_rt q_rm)
def qNv (r:Span):V:=va (qG r)
def qNA (r:Span):List (Nat×(Nat×O)):=[]
theorem qLe (a1:Span) (a2:Span) (r:Span) (hm:AL a1 a2=some r):CtX Tryz.prog globs 94 0 0 [.agg (qG a1),.agg (qG a2)] [] (qNv r) (qNA r):=by
 unfold AL at hm;refine q_E f94 24 λE=>?_;refine s_vn [] 0 ⟨[(2,vp 0 0),(3,vp 1 0),(4,vp 2 0)],[(0,bx 64 (qG a1)),(1,bx 64 (qG a2)),(2,bx 64 [ci 0,ci 0])]⟩ (s_vu [] 3 [2,3] [(5,vp 3 0)] [0,1] [(3,bx 64 [ci (imax a1.A a2.A),ci (imin a1.B a2.B)])] ?_);refine q_sq (s_va 4 [(21,vb (decide ((imax a1.A a2.A)≥(imin a1.B a2.B))))] ?_);refine q_cq hm (λhm=>?_) (λhm=>?_)
 ·refine s_vu [] 4 [5,21] [] [3] [] ?_;obtain rfl:=oi hm;exact q_rt q_rm
 ·refine q_sk (s_vn [] 4 ⟨[(4,vp 2 0)],[(2,bx 64 [ci (imax a1.A a2.A),ci (imin a1.B a2.B)])]⟩ ?_);obtain rfl:=oi hm;exact q_rt q_rm
open Go.Proofs Go.Proofs.Tryz
def qAb (a1:Int) (a2:qB) (a3:qB) (r:Span):V:=va (qG r)
def qAr (a1:Int) (a2:qB) (a3:qB) (r:Span):List (Nat×(Nat×O)):=[(0,bx 48 (qL a2)),(1,bx 48 (qL a3))]
theorem qFN (a1:Int) (a2:qB) (a3:qB) (r:Span) (hm:XY a1 a2 a3=some r):CtX Tryz.prog globs 93 2 2 [.one (ci a1),.one (.bptr 0 0 0),.one (.bptr 1 0 0)] [(0,bx 48 (qL a2)),(1,bx 48 (qL a3))] (qAb a1 a2 a3 r) (qAr a1 a2 a3 r):=by
 unfold XY at hm;refine q_E f93 12 λE=>?_;refine s_vn [] 2 ⟨[(0,vi a1),(1,vp 0 0),(2,vp 1 0),(4,vp 2 0)],[(0,bx 48 (qL a2)),(1,bx 48 (qL a3)),(2,bx 64 [ci 0,ci 0])]⟩ ?_;obtain⟨v4,h5,hm⟩:=qE hm;obtain⟨v6,h7,hm⟩:=qE hm;obtain⟨v8,h9,hm⟩:=qE hm;refine s_du [qc 2 [5,6] 3 (DS a2 a1 v4 h5),qc 5 [8,9] 3 (DS a3 a1 v6 h7),qc 6 [7,10] 3 (qLe v4 v6 v8 h9)] [0,0,3,0,0,31,63,127] 3 [0,1,2] [] [2] [(2,bx 64 (qG v8))] ?_;obtain rfl:=oi hm;exact q_rt q_rm
def EQ (a1:qB) (a2:qB) (r:qB):V:=va [ci r.Low,.own 2 0 2 r.Rows.length]
def AN (a1:qB) (a2:qB) (r:qB):List (Nat×(Nat×O)):=[(0,bx 48 (qL a1)),(1,bx 48 (qL a2)),(2,ro 0 64 2 r.Rows.length (rf qG r.Rows))]
def JV (a1:qB) (a2:qB) (x4:Int):St:=
 ⟨[(0,vc (.fn 93 [.bptr 0 0 0,.bptr 1 0 0])),(2,vp 2 0),(3,vp 3 0),(5,vi x4)],[(0,bx 48 (qL a1)),(1,bx 48 (qL a2)),(2,bx 48 [ci 0,.emp])]⟩
def FF (a1:qB) (a2:qB) (x4:Int) (x18:Int) (x19:Int) (l20:List Span) (l20n:Nat):St:=
 (JV a1 a2 x4).up [] [(4,vi x18)] [] [(3,bx 48 [ci x19,.own 4 0 2 l20n]),(4,ro 0 64 2 l20n (rf qG l20))]
def qCM (a1:qB) (a2:qB) (x4:Int) (l6:List Span) (v8:Span) (x14:Int):St:=
 (JV a1 a2 x4).up [] [(6,vp 5 0)] [] [(3,bx 48 [ci x14,.own 4 0 2 l6.length]),(4,ro 0 64 2 l6.length (rf qG l6)),(5,bx 64 (qG v8))]
def KS (a1:qB) (a2:qB) (x3:Int) (x4:Int) (x5:Int) (l6:List Span) (l6n:Nat):St:=
 (JV a1 a2 x4).up [] [(4,vi x3)] [] [(3,bx 48 [ci x5,.own 4 0 2 l6n]),(4,ro 0 64 2 l6n (rf qG l6))]
def NM (a1:qB) (a2:qB) (x21:Int) (x22:Int) (l23:List Span):St:=
 ⟨[(2,vp 2 0),(3,vp 3 0),(4,vi x21)],[(0,bx 48 (qL a1)),(1,bx 48 (qL a2)),(2,bx 48 [ci 0,.emp]),(3,bx 48 [ci x22,.own 4 0 2 l23.length]),(4,ro 0 64 2 l23.length (rf qG l23))]⟩
theorem qBP (E:Env 2) (a1:qB) (a2:qB):∀(n:Nat) (x3:Int) (x4:Int) (x5:Int) (l6:List Span) (l6n:Nat) (res:Int×Int×(List Span)),l6.length=l6n->zO a1 a2 n x3 x4 x5 l6=some res->HL (kx E 46 2) (nd f80 244) (zS 0 (λo=>NM a1 a2 o.1 o.2.1 o.2.2) res) n (KS a1 a2 x3 x4 x5 l6 l6n):=by
 intro n
 induction n with
 |zero=>
  intro x3 x4 x5 l6 l6n res hl0 hm;cases hm
 |succ n ih=>
  intro x3 x4 x5 l6 l6n res hl0 hm;subst hl0;refine qS (q_sq ?_);refine s_va 5 [(8,vb (decide (x4<60)))] (q_cq hm (λhm=>?_) (λhm=>?_))
  ·refine q_sk (q_jn (ι:=Int×Int×(List Span)×Nat) (λp=>FF a1 a2 x4 p.1 p.2.1 p.2.2.1 p.2.2.2) (λp=>p.2.2.1.length=p.2.2.2/\QO x4 (zO a1 a2 n) p.1 p.2.1 p.2.2.1=some res) ?_ ?_)
   ·rintro⟨x18,x19,l20,l20n⟩ ⟨el20,hm⟩;replace el20:l20.length=l20n:=el20;subst el20;show H _ (FF a1 a2 x4 x18 x19 l20 l20.length) _ _;exact q_vv [] 7 [5] [(5,vi (w64 (x4+1)))] (q_hl (KS a1 a2 x18 (w64 (x4+1)) x19 l20 l20.length) (ih x18 (w64 (x4+1)) x19 l20 l20.length _ rfl hm))
   ·refine q_bk 1 ?_;obtain⟨v8,h9,hm⟩:=qE hm;refine s_vu [qd 2 (dex (cen [(0,0),(1,0)] [0,0] 3 2 (qAb x4 a1 a2 v8) (qAr x4 a1 a2 v8) [11,12] [0,1])) (zK (K:=(kx E 46 2)) ⟨[(11,vc (.fn 93 [.bptr 0 0 0,.bptr 1 0 0])),(12,vi x4)],[(0,bx 48 (qL a1)),(1,bx 48 (qL a2))]⟩ (opAt (rg f80 3912) 2) [(0,0),(1,0)] [0,0] 3 o0 rfl (qFN x4 a1 a2 v8 h9) (.inl rfl) (by kernel_rfl))] 5 [8] [(6,vp 5 0)] [] [(5,bx 64 (qG v8))] (q_bk 2 ?_);obtain⟨v10,h11,hm⟩:=qE hm;refine s_vv [qc 1 [15] 6 (wG v8 v10 h11)] 6 [] [(14,vb (!v10))] (q_cq hm (λhm=>?_) (λhm=>?_))
    ·refine q_jn (qCM a1 a2 x4 l6 v8) (λp=>JJ x4 l6 (zO a1 a2 n) v8 p=some res) ?_ ?_
     ·rintro x14 hm;obtain⟨g15,hm⟩:=qK hm;refine s_vu [qd 3 (drw 6 0 (rf qG [v8])) (litP qG dd 2 (λ_=>rfl) ([v8]:List Span) 1 rfl),qd 4 (drw 4 1 (rf qG (l6++[v8]))) (apP qG dd l6 ([v8]:List Span) l6.length 1 2 16 (1<=1) (kr _) rfl rfl (λ_=>rfl) (zW g15))] 6 [6] [] [3,4,5] [(3,bx 48 [ci x14,.own 4 1 2 (l6.length+1)]),(4,ro 1 64 2 (l6.length+1) (rf qG (l6++[v8])))] (q_va 7 [(4,vi (((l6.length+1):Nat):Int))] ?_);exact q_J ((((l6.length+1):Nat):Int),x14,(l6++[v8]),(l6.length+1)) ⟨(wN rfl rfl),hm⟩
     ·refine s_vv [] 6 [4,14] [(19,vb (x3==0))] (q_cq hm (λhm=>?_) (λhm=>?_))
      ·exact q_vu [] 6 [19] [] [3] [(3,bx 48 [ci x4,.own 4 0 2 l6.length])] (q_J (x4) hm)
      ·exact q_sk (q_J (x5) hm)
    ·refine s_vu [] 6 [6,14] [(31,vb (decide (x3>0)))] [5] [] (q_cq hm (λhm=>?_) (λhm=>?_))
     ·obtain⟨g17,hm⟩:=qK hm;exact q_vu [qd 3 (drw 6 0 (rf qG [(Span.mk 0 0)])) (litP qG dd 2 (λ_=>rfl) ([(Span.mk 0 0)]:List Span) 1 rfl),qd 4 (drw 4 1 (rf qG (l6++[(Span.mk 0 0)]))) (apP qG dd l6 ([(Span.mk 0 0)]:List Span) l6.length 1 2 16 (1<=1) (kr _) rfl rfl (λ_=>rfl) (zW g17))] 6 [31] [] [3,4] [(3,bx 48 [ci x5,.own 4 1 2 (l6.length+1)]),(4,ro 1 64 2 (l6.length+1) (rf qG (l6++[(Span.mk 0 0)])))] (q_J (x3,x5,(l6++[(Span.mk 0 0)]),(l6.length+1)) ⟨(wN rfl rfl),hm⟩)
     ·exact q_sk (q_J (x3,x5,l6,l6.length) ⟨rfl,hm⟩)
  ·refine q_ex 0 ?_;obtain rfl:=oi hm;exact q_l0
theorem qEd (a1:qB) (a2:qB) (r:qB) (hm:WX a1 a2=some r):CtX Tryz.prog globs 80 2 2 [.one (.fn 93 [.bptr 0 0 0,.bptr 1 0 0])] [(0,bx 48 (qL a1)),(1,bx 48 (qL a2))] (EQ a1 a2 r) (AN a1 a2 r):=by
 unfold WX at hm;refine q_E f80 46 λE=>?_;refine s_vn [] 2 ⟨[(0,vc (.fn 93 [.bptr 0 0 0,.bptr 1 0 0])),(2,vp 2 0)],[(0,bx 48 (qL a1)),(1,bx 48 (qL a2)),(2,bx 48 [ci 0,.emp])]⟩ (s_vu [] 3 [] [(3,vp 3 0)] [] [(3,bx 48 [ci 0,.emp])] ?_);refine s_va 4 [(4,vi 0)] (q_sq ?_);refine s_va 4 [(5,vi (-60))] (q_fu [.ownB 3 1 4 64 2 (rf qG [])] [] [] [3] [(3,bx 48 [ci 0,.own 4 0 2 0]),(4,ro 0 64 2 0 (rf qG []))] o0 ?_);obtain⟨o24,h25,hm⟩:=qE hm
 refine zL (nd f80 244) 0 (by kernel_rfl) FUEL (λo=>NM a1 a2 o.1 o.2.1 o.2.2) o24 (q_hl (KS a1 a2 0 (-60) 0 ([]:List Span) 0) (qBP E a1 a2 FUEL 0 (-60) 0 ([]:List Span) 0 o24 rfl h25)) ?_;obtain⟨g26,hm⟩:=qK hm
 refine s_wu [qd 3 dN (And.intro (qZ g26).2.1 (qZ g26).2.2)] [.row 4 o24.1.toNat (rf qG (o24.2.2.take o24.1.toNat))] (o1 (tkP qG dd o24.2.2 o24.2.2.length o24.1.toNat (show o24.1.toNat<=o24.2.2.length by have:=(qZ g26);omega))) 5 [4] [] [3,4] [(3,bx 48 [ci o24.2.1,.own 4 0 2 o24.1.toNat]),(4,ro 0 64 2 o24.1.toNat (rf qG (o24.2.2.take o24.1.toNat)))] (s_vu [] 5 [3] [] [2,3] [(2,bx 48 [ci o24.2.1,.own 4 0 2 o24.1.toNat])] ?_)
 refine q_fu [.len 4 ((o24.2.2.take o24.1.toNat).length)] [] [] [2,4] [(2,bx 48 [ci o24.2.1,.own 4 0 2 ((o24.2.2.take o24.1.toNat).length)]),(4,ro 0 64 2 ((o24.2.2.take o24.1.toNat).length) (rf qG (o24.2.2.take o24.1.toNat)))] (o1 (And.intro (Eq.symm (show(o24.2.2.take o24.1.toNat).length=o24.1.toNat from(ZA rfl (show o24.1.toNat<=o24.2.2.length by have:=(qZ g26);omega)))) (Eq.symm (show(o24.2.2.take o24.1.toNat).length=o24.1.toNat from(ZA rfl (show o24.1.toNat<=o24.2.2.length by have:=(qZ g26);omega)))))) ?_;obtain rfl:=oi hm;exact q_sw 4 2 (q_rt q_rm)
def qJg (r:qB):V:=va [ci r.Low,.own 0 0 2 r.Rows.length]
def qI7 (r:qB):List (Nat×(Nat×O)):=[(0,ro 0 64 2 r.Rows.length (rf qG r.Rows))]
theorem qIE (a1:qB) (a2:qB) (r:qB) (hm:XU a1 a2=some r):CtX Tryz.prog globs 45 0 0 [.agg (qL a1),.agg (qL a2)] [] (qJg r) (qI7 r):=by
 unfold XU at hm;refine q_E f45 11 λE=>?_;refine s_vn [] 0 ⟨[(2,vp 0 0),(3,vp 1 0),(4,vp 2 0)],[(0,bx 48 (qL a1)),(1,bx 48 (qL a2)),(2,bx 48 [ci 0,.emp])]⟩ ?_;obtain⟨v3,h4,hm⟩:=qE hm;obtain⟨v5,h6,hm⟩:=qE hm;refine s_du [qc 1 [5] 3 (jY a1 v3 h4),qc 3 [7] 3 (jY a2 v5 h6)] [0,1,0,7,15,31] 3 [] [] [0,1] [(0,bx 48 (qL v3)),(1,bx 48 (qL v5))] ?_;obtain⟨v7,h8,hm⟩:=qE hm
 refine s_vn [qd 1 (dex (cen [(0,0),(1,0)] [0,0] 1 2 (EQ v3 v5 v7) (AN v3 v5 v7) [9] [0,1])) (zK (K:=(kx E 11 0)) ⟨[(9,vc (.fn 93 [.bptr 0 0 0,.bptr 1 0 0]))],[(0,bx 48 (qL v3)),(1,bx 48 (qL v5))]⟩ (opAt (rg f45 14) 1) [(0,0),(1,0)] [0,0] 1 o0 rfl (qEd v3 v5 v7 h8) (.inl rfl) (by kernel_rfl))] 3 ⟨[(4,vp 2 0)],[(2,bx 48 [ci v7.Low,.own 3 0 2 v7.Rows.length]),(3,ro 0 64 2 v7.Rows.length (rf qG v7.Rows))]⟩ ?_;obtain rfl:=oi hm;exact q_sw 3 0 (q_rt q_rm)
end Saw
end Go.SL

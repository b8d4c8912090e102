import Derived.Test.YtidlfgiogdjkaaaGreatDoorEBase
set_option linter.unusedVariables false
set_option linter.unusedSimpArgs false
namespace Go.SL
namespace Saw
open Go.Proofs Go.Proofs.Tryz
set_option maxHeartbeats 4000000
set_option maxRecDepth 100000
def qLN (r:Bool):V:=vb r
def qLO (r:Bool):List (Nat×(Nat×O)):=[]
def qI5 (x3:Bool):St:=
 ⟨[(2,vb x3)],[]⟩
theorem qJT (a1:Span) (r:Bool) (hm:VK a1=some r):CtX Tryz.prog globs 203 0 0 [.agg (qG a1)] [] (qLN r) (qLO r):=by
 unfold VK at hm;refine q_E f203 17 λE=>?_;refine s_vn [] 0 ⟨[(1,vp 0 0)],[(0,bx 31 (qG a1))]⟩ (q_jn (qI5) (λp=>UK p=some r) ?_ ?_)
 ·rintro x3 hm;obtain rfl:=oi hm;exact q_rt q_rm
 ·rcases bif_c hm with⟨b2,hm⟩|⟨b2,hm⟩
  ·exact q_vn [qf 6 b2] 1 ⟨[(2,vb (decide ((imax a1.A a1.B)<=600)))],[]⟩ (q_J (decide ((imax a1.A a1.B)<=600)) hm)
  ·exact q_vn [qf 6 b2] 1 ⟨[(2,vb false)],[]⟩ (q_J (false) hm)
def qLK (r:Bool):V:=vb r
def qLR (r:Bool):List (Nat×(Nat×O)):=[]
theorem ZZ (a1:Span) (r:Bool) (hm:JD a1=some r):CtX Tryz.prog globs 143 0 0 [.agg (qG a1)] [] (qLK r) (qLR r):=by
 unfold JD at hm;refine q_E f143 8 λE=>?_;refine s_vn [] 0 ⟨[(1,vp 0 0)],[(0,bx 31 (qG a1))]⟩ (s_vn [] 1 ⟨[(2,vb (decide (a1.A≥a1.B)))],[]⟩ ?_);obtain rfl:=oi hm;exact q_rt q_rm
def UE (r:Int):V:=vi r
def UW (r:Int):List (Nat×(Nat×O)):=[]
def HE (a1:qQ) (x6:Int):St:=
 ⟨[(1,vp 0 0),(3,vi (a1.Rows.length:Int)),(24,vc (tl qG du a1.Rows)),(25,vi (a1.Rows.length:Int)),(26,vi x6)],[(0,bx 70 (zQ a1))]⟩
def qDx (a1:qQ):St:=
 ⟨[(1,vp 0 0),(3,vi (a1.Rows.length:Int))],[(0,bx 70 (zQ a1))]⟩
def qKd (a1:qQ) (x27:Int) (x33:Bool):St:=
 ⟨[(54,vc (tl qG du a1.Rows)),(55,vi (a1.Rows.length:Int)),(56,vi x27),(66,vb x33)],[]⟩
def SM (a1:qQ) (x27:Int):St:=
 ⟨[(54,vc (tl qG du a1.Rows)),(55,vi (a1.Rows.length:Int)),(56,vi x27)],[]⟩
def qDr :St:=
 ⟨[],[]⟩
def qJ0 (a1:qQ) (x25:Bool):St:=
 ⟨[(1,vp 0 0),(52,vb x25)],[(0,bx 70 (zQ a1))]⟩
def qKF (a1:qQ) (x4:Bool):St:=
 ⟨[(1,vp 0 0),(3,vi (a1.Rows.length:Int)),(22,vb x4)],[(0,bx 70 (zQ a1))]⟩
theorem qJy (E:Env 0) (a1:qQ):∀(n:Nat) (x6:Int) (res:Int⊕Unit),ZU a1 n x6=some res->HL (kx E 68 0) (nd f170 500) (wN 0 (λo=>qDx a1) (λv st=>RetQ Tryz.prog f170 (UE v) (UW v) .ret st) res) n (HE a1 x6):=by
 intro n
 induction n with
 |zero=>
  intro x6 res hm;cases hm
 |succ n ih=>
  intro x6 res hm;refine qT (s_va 1 [(27,vb (decide (x6<(a1.Rows.length:Int))))] ?_);refine q_sq (q_cq hm (λhm=>?_) (λhm=>?_))
  ·refine q_sk (q_sq ?_);refine q_bk 1 ?_;obtain⟨g8,hm⟩:=qI hm;refine s_vu [qi 0 g8] 1 [27] [(5,vp 1 0)] [] [(1,bx 31 (qG (a1.Rows.getD x6.toNat du)))] ?_;obtain⟨v9,h10,hm⟩:=qB hm;refine s_vu [qc 1 [30] 2 (qJT (a1.Rows.getD x6.toNat du) v9 h10)] 2 [5] [(32,vb (!v9))] [1] [] (q_cq hm (λhm=>?_) (λhm=>?_))
   ·refine s_vn [] 2 ⟨[(2,vi 9)],[]⟩ ?_;obtain rfl:=oi hm;refine q_rt (zG 9 ?_);exact q_rm
   ·refine q_sk (q_vv [] 2 [26,32] [(26,vi (w64 (x6+1)))] ?_);exact q_hl (HE a1 (w64 (x6+1))) (ih (w64 (x6+1)) _ hm)
  ·refine q_ex 0 ?_;obtain rfl:=oi hm;exact q_l1 ()
theorem qJs (E:Env 0) (a1:qQ):∀(n:Nat) (x27:Int) (res:Int⊕Unit),yF a1 n x27=some res->HL (kx E 68 0) (nd f170 4084) (wN 2 (λo=>qDr) (λv st=>RetQ Tryz.prog f170 (UE v) (UW v) .ret st) res) n (SM a1 x27):=by
 intro n
 induction n with
 |zero=>
  intro x27 res hm;cases hm
 |succ n ih=>
  intro x27 res hm;refine qT (s_va 1 [(57,vb (decide (x27<(a1.Rows.length:Int))))] ?_);refine q_sq (q_cq hm (λhm=>?_) (λhm=>?_))
  ·refine q_sk (q_sq ?_);refine q_bk 3 ?_;obtain⟨g29,hm⟩:=qI hm;refine s_vu [qi 0 g29] 1 [57] [(7,vp 1 0)] [] [(1,bx 31 (qG (a1.Rows.getD x27.toNat du)))] (q_jn (qKd a1 x27) (λp=>BR x27 (yF a1 n) p=some res) ?_ ?_)
   ·rintro x33 hm;refine q_cq hm (λhm=>?_) (λhm=>?_)
    ·refine s_vn [] 2 ⟨[(2,vi 19)],[]⟩ ?_;obtain rfl:=oi hm;refine q_rt (zG 19 ?_);exact q_rm
    ·refine q_sk (q_vv [] 2 [56,66] [(56,vi (w64 (x27+1)))] ?_);exact q_hl (SM a1 (w64 (x27+1))) (ih (w64 (x27+1)) _ hm)
   ·obtain⟨v30,h31,hm⟩:=qB hm;rcases bif_c hm with⟨b32,hm⟩|⟨b32,hm⟩
    ·exact q_vu [qc 1 [60] 2 (ZZ (a1.Rows.getD x27.toNat du) v30 h31),qf 2 b32] 2 [7] [(66,vb (!((((a1.Rows.getD x27.toNat du).A)==0)&&((((a1.Rows.getD x27.toNat du).B)==0)&&true))))] [1] [] (q_J (!((((a1.Rows.getD x27.toNat du).A)==0)&&((((a1.Rows.getD x27.toNat du).B)==0)&&true))) hm)
    ·exact q_vu [qc 1 [60] 2 (ZZ (a1.Rows.getD x27.toNat du) v30 h31),qf 2 b32] 2 [7] [(66,vb false)] [1] [] (q_J (false) hm)
  ·refine q_ex 2 ?_;obtain rfl:=oi hm;exact q_l1 ()
theorem qEO (a1:qQ) (r:Int) (hm:TN a1=some r):CtX Tryz.prog globs 170 0 0 [.agg (zQ a1)] [] (UE r) (UW r):=by
 unfold TN at hm;refine q_E f170 68 λE=>?_;refine s_vn [] 0 ⟨[(1,vp 0 0)],[(0,bx 70 (zQ a1))]⟩ (s_va 1 [(3,vi (a1.Rows.length:Int))] ?_);refine q_sq (s_va 1 [(12,vb (decide ((a1.Rows.length:Int)>120)))] ?_);refine q_cq hm (λhm=>?_) (λhm=>?_)
 ·refine s_vn [] 1 ⟨[(2,vi 4)],[]⟩ ?_;obtain rfl:=oi hm;exact q_rt q_rm
 ·refine q_sk (q_sq ?_);refine q_jn (qKF a1) (λp=>NC a1 p=some r) ?_ ?_
  ·rintro x4 hm;refine q_cq hm (λhm=>?_) (λhm=>?_)
   ·refine s_vn [] 1 ⟨[(2,vi 9)],[]⟩ ?_;obtain rfl:=oi hm;exact q_rt q_rm
   ·refine q_sk (q_sq ?_);refine s_vv [] 1 [22] [(24,vc (tl qG du a1.Rows)),(25,vi (a1.Rows.length:Int)),(26,vi 0)] ?_;obtain⟨u14,h13,hm⟩:=qB hm;refine zT (nd f170 500) 0 (by kernel_rfl) FUEL (λo=>qDx a1) (λv st=>RetQ Tryz.prog f170 (UE v) (UW v) .ret st) u14 (q_hl (HE a1 0) (qJy E a1 FUEL 0 u14 h13)) ?_ ?_
    ·rintro v15 rfl st hr;obtain rfl:=oi hm;exact hr
    ·rintro o12 rfl;replace hm:_=some r:=hm;refine q_sq (s_va 1 [(35,vb ((a1.Rows.length:Int)==0))] ?_);refine q_cq hm (λhm=>?_) (λhm=>?_)
     ·refine q_sq (s_vn [] 1 ⟨[(38,vb (a1.Low !=0))],[]⟩ ?_);refine q_cq hm (λhm=>?_) (λhm=>?_)
      ·refine s_vn [] 1 ⟨[(2,vi 19)],[]⟩ ?_;obtain rfl:=oi hm;exact q_rt q_rm
      ·refine q_sk (s_vn [] 1 ⟨[(2,vi 0)],[]⟩ ?_);obtain rfl:=oi hm;exact q_rt q_rm
     ·refine q_sk (q_sq ?_);refine q_jn (qJ0 a1) (λp=>NK a1 p=some r) ?_ ?_
      ·rintro x25 hm;refine q_cq hm (λhm=>?_) (λhm=>?_)
       ·refine s_vn [] 1 ⟨[(2,vi 19)],[]⟩ ?_;obtain rfl:=oi hm;exact q_rt q_rm
       ·refine q_sk (q_sq ?_);refine s_vn [] 1 ⟨[(54,vc (tl qG du a1.Rows)),(55,vi (a1.Rows.length:Int)),(56,vi 0)],[]⟩ ?_;obtain⟨u37,h36,hm⟩:=qB hm;refine zT (nd f170 4084) 2 (by kernel_rfl) FUEL (λo=>qDr) (λv st=>RetQ Tryz.prog f170 (UE v) (UW v) .ret st) u37 (q_hl (SM a1 0) (qJs E a1 FUEL 0 u37 h36)) ?_ ?_
        ·rintro v38 rfl st hr;obtain rfl:=oi hm;exact hr
        ·rintro o35 rfl;replace hm:_=some r:=hm;refine s_vn [] 1 ⟨[(2,vi 0)],[]⟩ ?_;obtain rfl:=oi hm;exact q_rt q_rm
      ·obtain⟨g18,hm⟩:=qI hm;obtain⟨v19,h20,hm⟩:=qB hm;rcases bif_c hm with⟨b21,hm⟩|⟨b21,hm⟩
       ·exact q_vv [qi 2 g18,qc 4 [42] 1 (ZZ (a1.Rows.getD (0:Int).toNat du) v19 h20),qf 5 b21] 1 [3,35] [(52,vb true)] (q_J (true) hm)
       ·obtain⟨g22,hm⟩:=qI hm;obtain⟨v23,h24,hm⟩:=qB hm;exact q_vv [qi 2 g18,qc 4 [42] 1 (ZZ (a1.Rows.getD (0:Int).toNat du) v19 h20),qf 5 b21,qi 10 g22,qk 12 [44,50] 1 ⟨[(44,vb false),(50,va [ci ((a1.Rows.getD (w64 ((a1.Rows.length:Int)-1)).toNat du).A),ci ((a1.Rows.getD (w64 ((a1.Rows.length:Int)-1)).toNat du).B)])],[]⟩ (ZZ (a1.Rows.getD (w64 ((a1.Rows.length:Int)-1)).toNat du) v23 h24)] 1 [3,35] [(52,vb v23)] (q_J (v23) hm)
  ·rcases bif_c hm with⟨b3,hm⟩|⟨b3,hm⟩
   ·exact q_vv [qf 3 b3] 1 [12] [(22,vb true)] (q_J (true) hm)
   ·exact q_vv [qf 3 b3] 1 [12] [(22,vb (decide (a1.Low>(w64 (60-(a1.Rows.length:Int))))))] (q_J (decide (a1.Low>(w64 (60-(a1.Rows.length:Int))))) hm)
open Go.Proofs Go.Proofs.Tryz
def qDT (r:Int):V:=vi r
def qDN (r:Int):List (Nat×(Nat×O)):=[]
def qNO (a1:List qC) (x4:Int) (x5:Int) (x13:Bool):St:=
 ⟨[(3,vi x4),(5,vp 0 0),(13,vc (tl qL du a1)),(14,vi (a1.length:Int)),(15,vi x5),(39,vb x13)],[(0,bx 72 (qL (a1.getD x5.toNat du)))]⟩
def qAj (a1:List qC) (x4:Int) (x5:Int):St:=
 ⟨[(3,vi x4),(13,vc (tl qL du a1)),(14,vi (a1.length:Int)),(15,vi x5)],[]⟩
def qEU :St:=
 ⟨[],[]⟩
theorem qLt (E:Env 0) (a1:List qC):∀(n:Nat) (x4:Int) (x5:Int) (res:Int⊕Unit),QS a1 n x4 x5=some res->HL (kx E 45 0) (nd f122 500) (wN 0 (λo=>qEU) (λv st=>RetQ Tryz.prog f122 (qDT v) (qDN v) .ret st) res) n (qAj a1 x4 x5):=by
 intro n
 induction n with
 |zero=>
  intro x4 x5 res hm;cases hm
 |succ n ih=>
  intro x4 x5 res hm;refine qT (s_va 0 [(16,vb (decide (x5<(a1.length:Int))))] ?_);refine q_sq (q_cq hm (λhm=>?_) (λhm=>?_))
  ·refine q_sk (q_sq ?_);refine q_bk 1 ?_;obtain⟨g7,hm⟩:=qI hm;refine s_vu [qi 0 g7] 0 [16] [(5,vp 0 0)] [] [(0,bx 72 (qL (a1.getD x5.toNat du)))] (q_sq ?_);obtain⟨v8,h9,hm⟩:=qB hm;refine s_vv [qc 2 [20] 1 (qEO ((a1.getD x5.toNat du).Sec) v8 h9)] 1 [] [(6,vi v8)] (s_va 1 [(23,vb (v8 !=0))] ?_);refine q_cq hm (λhm=>?_) (λhm=>?_)
   ·refine s_vn [] 1 ⟨[(2,vi v8)],[]⟩ ?_;obtain rfl:=oi hm;refine q_rt (zG v8 ?_);exact q_rm
   ·refine q_sk (q_sq ?_);refine s_vv [] 1 [6,23] [(29,vb ((((((a1.getD x5.toNat du).Sec).Rows).length:Nat):Int)==0))] (q_cq hm (λhm=>?_) (λhm=>?_))
    ·refine s_vn [] 1 ⟨[(2,vi 18)],[]⟩ ?_;obtain rfl:=oi hm;refine q_rt (zG 18 ?_);exact q_rm
    ·refine q_sk (q_sq ?_);refine q_jn (qNO a1 x4 x5) (λp=>EJ a1 x4 x5 (QS a1 n) p=some res) ?_ ?_
     ·rintro x13 hm;refine q_cq hm (λhm=>?_) (λhm=>?_)
      ·refine s_vn [] 1 ⟨[(2,vi 9)],[]⟩ ?_;obtain rfl:=oi hm;refine q_rt (zG 9 ?_);exact q_rm
      ·refine q_sk (q_vu [] 1 [3,5,39] [(3,vi (w64 (x4+((a1.getD x5.toNat du).Len))))] [0] [] ?_);exact q_vv [] 1 [15] [(15,vi (w64 (x5+1)))] (q_hl (qAj a1 (w64 (x4+((a1.getD x5.toNat du).Len))) (w64 (x5+1))) (ih (w64 (x4+((a1.getD x5.toNat du).Len))) (w64 (x5+1)) _ hm))
     ·rcases bif_c hm with⟨b12,hm⟩|⟨b12,hm⟩
      ·exact q_vv [qf 3 b12] 1 [29] [(39,vb true)] (q_J (true) hm)
      ·exact q_vv [qf 3 b12] 1 [29] [(39,vb (decide (((a1.getD x5.toNat du).Len)>(w64 (20000-x4)))))] (q_J (decide (((a1.getD x5.toNat du).Len)>(w64 (20000-x4)))) hm)
  ·refine q_ex 0 ?_;obtain rfl:=oi hm;exact q_l1 ()
theorem YM (a1:List qC) (r:Int) (hm:XE a1=some r):CtX Tryz.prog globs 122 0 0 [.one (tl qL du a1)] [] (qDT r) (qDN r):=by
 unfold XE at hm;refine q_E f122 45 λE=>?_;refine s_vn [] 0 ⟨[(0,vc (tl qL du a1))],[]⟩ (q_sq ?_);refine s_va 0 [(9,vb ((a1.length:Int)==0))] (q_cq hm (λhm=>?_) (λhm=>?_))
 ·refine s_vn [] 0 ⟨[(2,vi 3)],[]⟩ ?_;obtain rfl:=oi hm;exact q_rt q_rm
 ·refine q_sk (q_sq ?_);refine s_vv [] 0 [9] [(12,vb (decide ((a1.length:Int)>24)))] (q_cq hm (λhm=>?_) (λhm=>?_))
  ·refine s_vn [] 0 ⟨[(2,vi 4)],[]⟩ ?_;obtain rfl:=oi hm;exact q_rt q_rm
  ·refine q_sk (s_vv [] 0 [12] [(3,vi 0)] ?_);refine q_sq (s_vv [] 0 [0] [(13,vc (tl qL du a1)),(14,vi (a1.length:Int)),(15,vi 0)] ?_);obtain⟨u17,h16,hm⟩:=qB hm;refine zT (nd f122 500) 0 (by kernel_rfl) FUEL (λo=>qEU) (λv st=>RetQ Tryz.prog f122 (qDT v) (qDN v) .ret st) u17 (q_hl (qAj a1 0 0) (qLt E a1 FUEL 0 0 u17 h16)) ?_ ?_
   ·rintro v18 rfl st hr;obtain rfl:=oi hm;exact hr
   ·rintro o15 rfl;replace hm:_=some r:=hm;refine s_vn [] 0 ⟨[(2,vi 0)],[]⟩ ?_;obtain rfl:=oi hm;exact q_rt q_rm
def qTI (r:(List qC)):V:=vc (tl qL du r)
def qT6 (r:(List qC)):List (Nat×(Nat×O)):=[]
theorem EF (a1:List qC) (r:(List qC)) (hm:PS a1=some r):CtX Tryz.prog globs 70 0 0 [.one (tl qL du a1)] [] (qTI r) (qT6 r):=by
 unfold PS at hm;refine q_E f70 7 λE=>?_;refine s_vn [] 0 ⟨[(0,vc (tl qL du a1))],[]⟩ (q_sq ?_);obtain⟨v2,h3,hm⟩:=qB hm;refine s_vv [qc 1 [3] 0 (YM a1 v2 h3)] 0 [] [(5,vb (v2 !=0))] (q_cq hm (λhm=>?_) (λhm=>?_))
 ·refine s_vn [] 0 ⟨[(2,vc (.emp))],[]⟩ (q_fn [.own 2 0 72 3 (rf qL [])] ⟨[(2,vo 0 0 3 0)],[(0,ro 0 72 3 0 (rf qL []))]⟩ o0 ?_);refine q_fn [.len 0 (([]:List qC).length),.frz 0] ⟨[(2,vc (tl qL du ([]:List qC)))],[]⟩ (o1 (And.intro (And.intro (show 0=([]:List qC).length from rfl) (show 0=([]:List qC).length from rfl)) (ki (([]:List qC).length)))) ?_;obtain rfl:=oi hm;exact q_rt q_rm
 ·refine q_sk (s_vn [] 0 ⟨[(2,vc (tl qL du a1))],[]⟩ ?_);obtain rfl:=oi hm;exact q_rt q_rm
def qSi (r:Int):V:=vi r
def qQ6 (r:Int):List (Nat×(Nat×O)):=[]
def IN (v2:(List qC)) (x4:Int) (x5:Int):St:=
 ⟨[(3,vi x4),(7,vc (tl qL du v2)),(8,vi (v2.length:Int)),(9,vi x5)],[]⟩
def qEr (x8:Int):St:=
 ⟨[(3,vi x8)],[]⟩
theorem qKW (E:Env 0) (v2:(List qC)):∀(n:Nat) (x4:Int) (x5:Int) (res:Int),WN v2 n x4 x5=some res->HL (kx E 19 0) (nd f39 116) (zL 0 qEr res) n (IN v2 x4 x5):=by
 intro n
 induction n with
 |zero=>
  intro x4 x5 res hm;cases hm
 |succ n ih=>
  intro x4 x5 res hm;refine qT (s_va 0 [(10,vb (decide (x5<(v2.length:Int))))] ?_);refine q_sq (q_cq hm (λhm=>?_) (λhm=>?_))
  ·refine q_sk (q_sq ?_);refine q_bk 1 ?_;obtain⟨g7,hm⟩:=qI hm;refine s_vu [qi 0 g7] 0 [10] [(5,vp 0 0)] [] [(0,bx 72 (qL (v2.getD x5.toNat du)))] (q_vu [] 1 [3,5] [(3,vi (w64 (x4+((v2.getD x5.toNat du).Len))))] [0] [] ?_);exact q_vv [] 1 [9] [(9,vi (w64 (x5+1)))] (q_hl (IN v2 (w64 (x4+((v2.getD x5.toNat du).Len))) (w64 (x5+1))) (ih (w64 (x4+((v2.getD x5.toNat du).Len))) (w64 (x5+1)) _ hm))
  ·refine q_ex 0 ?_;obtain rfl:=oi hm;exact q_l0
theorem VI (a1:List qC) (r:Int) (hm:ZE a1=some r):CtX Tryz.prog globs 39 0 0 [.one (tl qL du a1)] [] (qSi r) (qQ6 r):=by
 unfold ZE at hm;refine q_E f39 19 λE=>?_;refine s_vn [] 0 ⟨[(0,vc (tl qL du a1))],[]⟩ (s_va 0 [(3,vi 0)] ?_);refine q_sq ?_;obtain⟨v2,h3,hm⟩:=qB hm;refine s_vv [qc 1 [6] 0 (EF a1 v2 h3)] 0 [0] [(7,vc (tl qL du v2)),(8,vi (v2.length:Int)),(9,vi 0)] ?_;obtain⟨o9,h10,hm⟩:=qB hm;refine zF (nd f39 116) 0 (by kernel_rfl) FUEL qEr o9 (q_hl (IN v2 0 0) (qKW E v2 FUEL 0 0 o9 h10)) (s_vn [] 0 ⟨[(2,vi o9)],[]⟩ ?_);obtain rfl:=oi hm;exact q_rt q_rm
open Go.Proofs Go.Proofs.Tryz
def qWT (r:Rect):V:=va (qO r)
def qWR (r:Rect):List (Nat×(Nat×O)):=[]
theorem qDS (a1:Rect) (a2:Int) (a3:Int) (r:Rect) (hm:NN a1 a2 a3=some r):CtX Tryz.prog globs 88 0 0 [.agg (qO a1),.one (ci a2),.one (ci a3)] [] (qWT r) (qWR r):=by
 unfold NN at hm;refine q_E f88 21 λE=>?_;refine s_vn [] 0 ⟨[(1,vi a2),(2,vi a3),(3,vp 0 0),(6,vp 1 0)],[(0,bx 33 (qO a1)),(1,bx 33 [ci 0,ci 0,ci 0,ci 0])]⟩ (s_vn [] 2 ⟨[(6,vp 1 0)],[(1,bx 33 [ci a1.X.A,ci a1.X.B,ci (w64 (a1.Y.A+a2)),ci (w64 (a1.Y.A+a3))])]⟩ ?_);obtain rfl:=oi hm;exact q_rt q_rm
def qD7 (a1:List Node) (a2:List (List Node)) (r:(List (List Node))×(List (List Node))):V:=vo 0 0 1 r.2.length
def qEg (a1:List Node) (a2:List (List Node)) (r:(List (List Node))×(List (List Node))):List (Nat×(Nat×O)):=[(0,ro 0 44 1 r.2.length (rf (qM qE) r.2))]
theorem qJ5 (a1:List Node) (a2:List (List Node)) (r:(List (List Node))×(List (List Node))) (hm:MP a1 a2=some r):CtX Tryz.prog globs 89 1 0 [.one (.own 0 0 1 a2.length),.one (tl qE du a1)] [(0,ro 0 44 1 a2.length (rf (qM qE) a2))] (qD7 a1 a2 r) (qEg a1 a2 r):=by
 unfold MP at hm;refine q_E f89 9 λE=>?_;refine s_vn [] 1 ⟨[(0,vo 0 0 1 a2.length),(1,vc (tl qE du a1))],[(0,ro 0 44 1 a2.length (rf (qM qE) a2))]⟩ ?_;obtain⟨g3,hm⟩:=qI hm
 refine s_vn [qd 2 (drw 1 0 (rf (qM qE) [a1])) (litP (qM qE) du 1 (λ_=>rfl) ([a1]:List (List Node)) 1 rfl),qd 3 (drw 0 1 (rf (qM qE) (a2++[a1]))) (apP (qM qE) du a2 ([a1]:List (List Node)) a2.length 1 1 24 (1<=1) (ki _) rfl rfl (λ_=>rfl) (zI g3))] 1 ⟨[(4,vo 0 1 1 (a2.length+1))],[(0,ro 1 44 1 (a2.length+1) (rf (qM qE) (a2++[a1])))]⟩ (q_fn [.len 0 ((a2++[a1]).length)] ⟨[(4,vo 0 1 1 ((a2++[a1]).length))],[(0,ro 1 44 1 ((a2++[a1]).length) (rf (qM qE) (a2++[a1])))]⟩ (o1 (And.intro (Eq.symm (show(a2++[a1]).length=(a2.length+1) from(zE rfl rfl))) (Eq.symm (show(a2++[a1]).length=(a2.length+1) from(zE rfl rfl))))) ?_)
 obtain rfl:=oi hm;exact q_rt q_rm
def qQv (r:Bool):V:=vb r
def qOH (r:Bool):List (Nat×(Nat×O)):=[]
def qJY (x5:Bool):St:=
 ⟨[(6,vb x5)],[]⟩
theorem YT (a1:Span) (a2:Int) (a3:Int) (r:Bool) (hm:KW a1 a2 a3=some r):CtX Tryz.prog globs 205 0 0 [.agg (qG a1),.one (ci a2),.one (ci a3)] [] (qQv r) (qOH r):=by
 unfold KW at hm;refine q_E f205 23 λE=>?_;refine s_vn [] 0 ⟨[(1,vi a2),(2,vi a3),(3,vp 0 0)],[(0,bx 31 (qG a1))]⟩ (q_jn (qJY) (λp=>NF p=some r) ?_ ?_)
 ·rintro x5 hm;obtain rfl:=oi hm;exact q_rt q_rm
 ·rcases bif_c hm with⟨b4,hm⟩|⟨b4,hm⟩
  ·exact q_vn [qf 7 b4] 1 ⟨[(6,vb (decide ((imax a1.A a1.B)<=a3)))],[]⟩ (q_J (decide ((imax a1.A a1.B)<=a3)) hm)
  ·exact q_vn [qf 7 b4] 1 ⟨[(6,vb false)],[]⟩ (q_J (false) hm)
open Go.Proofs Go.Proofs.Tryz
def qNj (r:Bool):V:=vb r
def qNJ (r:Bool):List (Nat×(Nat×O)):=[]
theorem wS (a1:Span) (r:Bool) (hm:QO a1=some r):CtX Tryz.prog globs 204 0 0 [.agg (qG a1)] [] (qNj r) (qNJ r):=by
 unfold QO at hm;refine q_E f204 8 λE=>?_;refine s_vn [] 0 ⟨[(1,vp 0 0)],[(0,bx 31 (qG a1))]⟩ (s_vn [] 1 ⟨[(2,vb (decide (a1.A≥a1.B)))],[]⟩ ?_);obtain rfl:=oi hm;exact q_rt q_rm
def qRF (r:Int):V:=vi r
def qRP (r:Int):List (Nat×(Nat×O)):=[]
def qMn (x23:Bool):St:=
 ⟨[(29,vb x23)],[]⟩
def qL1 (a1:qF) (x13:Bool):St:=
 ⟨[(3,vp 1 0),(15,vb x13)],[(1,bx 128 (wG a1.Box))]⟩
def qLJ (a1:qF) (x3:Bool):St:=
 ⟨[(3,vp 1 0),(6,vb x3)],[(1,bx 128 (wG a1.Box))]⟩
theorem qQM (a1:qF) (r:Int) (hm:HH a1=some r):CtX Tryz.prog globs 171 0 0 [.agg (qP a1)] [] (qRF r) (qRP r):=by
 unfold HH at hm;refine q_E f171 46 λE=>?_;refine s_vn [] 0 ⟨[(1,vp 0 0)],[(0,bx 212 (qP a1))]⟩ (s_vu [] 1 [] [(3,vp 1 0)] [] [(1,bx 128 (wG a1.Box))] ?_);refine q_sq (q_bk 0 ?_);refine q_jn (qLJ a1) (λp=>MI a1 p=some r) ?_ ?_
 ·rintro x3 hm;refine q_cq hm (λhm=>?_) (λhm=>?_)
  ·refine s_vn [] 2 ⟨[(2,vi 10)],[]⟩ ?_;obtain rfl:=oi hm;exact q_rt q_rm
  ·refine q_jn (qL1 a1) (λp=>US a1 p=some r) ?_ ?_
   ·rintro x13 hm;refine q_cq hm (λhm=>?_) (λhm=>?_)
    ·refine s_vn [] 2 ⟨[(2,vi 19)],[]⟩ ?_;obtain rfl:=oi hm;exact q_rt q_rm
    ·refine q_jn (qMn) (λp=>VF p=some r) ?_ ?_
     ·rintro x23 hm;refine q_cq hm (λhm=>?_) (λhm=>?_)
      ·refine s_vn [] 2 ⟨[(2,vi 9)],[]⟩ ?_;obtain rfl:=oi hm;exact q_rt q_rm
      ·refine q_sk (s_vn [] 2 ⟨[(2,vi 0)],[]⟩ ?_);obtain rfl:=oi hm;exact q_rt q_rm
     ·obtain⟨v15,h16,hm⟩:=qB hm;rcases bif_c hm with⟨b17,hm⟩|⟨b17,hm⟩
      ·exact q_vn [qk 2 [31] 2 ⟨[(31,va (qG a1.Box.X))],[]⟩ (YT a1.Box.X (-600) 600 v15 h16),qf 4 b17] 2 ⟨[(29,vb true)],[]⟩ (q_J (true) hm)
      ·obtain⟨v18,h19,hm⟩:=qB hm;rcases bif_c hm with⟨b20,hm⟩|⟨b20,hm⟩
       ·exact q_vn [qk 2 [31] 2 ⟨[(31,va (qG a1.Box.X))],[]⟩ (YT a1.Box.X (-600) 600 v15 h16),qf 4 b17,qk 7 [34,36] 2 ⟨[(34,vb false),(36,va (qG a1.Box.Y))],[]⟩ (YT a1.Box.Y (-600) 600 v18 h19),qf 10 b20] 2 ⟨[(29,vb true)],[]⟩ (q_J (true) hm)
       ·obtain⟨v21,h22,hm⟩:=qB hm;exact q_vn [qk 2 [31] 2 ⟨[(31,va (qG a1.Box.X))],[]⟩ (YT a1.Box.X (-600) 600 v15 h16),qf 4 b17,qk 7 [34,36] 2 ⟨[(34,vb false),(36,va (qG a1.Box.Y))],[]⟩ (YT a1.Box.Y (-600) 600 v18 h19),qf 10 b20,qk 13 [40,42] 2 ⟨[(40,vb false),(42,va (qG a1.Box.Z))],[]⟩ (YT a1.Box.Z 0 20000 v21 h22)] 2 ⟨[(29,vb (!v21))],[]⟩ (q_J (!v21) hm)
   ·obtain⟨v5,h6,hm⟩:=qB hm;rcases bif_c hm with⟨b7,hm⟩|⟨b7,hm⟩
    ·exact q_vv [qc 2 [17] 2 (wS a1.Box.X v5 h6),qf 3 b7] 2 [6] [(15,vb true)] (q_J (true) hm)
    ·obtain⟨v8,h9,hm⟩:=qB hm;rcases bif_c hm with⟨b10,hm⟩|⟨b10,hm⟩
     ·exact q_vv [qc 2 [17] 2 (wS a1.Box.X v5 h6),qf 3 b7,qk 6 [19,21] 2 ⟨[(19,vb false),(21,va (qG a1.Box.Y))],[]⟩ (wS a1.Box.Y v8 h9),qf 8 b10] 2 [6] [(15,vb true)] (q_J (true) hm)
     ·obtain⟨v11,h12,hm⟩:=qB hm;exact q_vv [qc 2 [17] 2 (wS a1.Box.X v5 h6),qf 3 b7,qk 6 [19,21] 2 ⟨[(19,vb false),(21,va (qG a1.Box.Y))],[]⟩ (wS a1.Box.Y v8 h9),qf 8 b10,qk 11 [24,26] 2 ⟨[(24,vb false),(26,va (qG a1.Box.Z))],[]⟩ (wS a1.Box.Z v11 h12)] 2 [6] [(15,vb v11)] (q_J (v11) hm)
 ·rcases bif_c hm with⟨b2,hm⟩|⟨b2,hm⟩
  ·exact q_vu [qf 3 b2] 2 [1] [(6,vb true)] [0] [] (q_J (true) hm)
  ·exact q_vu [qf 3 b2] 2 [1] [(6,vb (decide (a1.Kind>6)))] [0] [] (q_J (decide (a1.Kind>6)) hm)
def qCp (r:Int):V:=vi r
def qCv (r:Int):List (Nat×(Nat×O)):=[]
def IL (a1:List qF) (x3:Int):St:=
 ⟨[(9,vc (tl qP du a1)),(10,vi (a1.length:Int)),(11,vi x3)],[]⟩
def qDW :St:=
 ⟨[],[]⟩
theorem qKI (E:Env 0) (a1:List qF):∀(n:Nat) (x3:Int) (res:Int⊕Unit),JE a1 n x3=some res->HL (kx E 21 0) (nd f123 116) (wN 0 (λo=>qDW) (λv st=>RetQ Tryz.prog f123 (qCp v) (qCv v) .ret st) res) n (IL a1 x3):=by
 intro n
 induction n with
 |zero=>
  intro x3 res hm;cases hm
 |succ n ih=>
  intro x3 res hm;refine qT (s_va 0 [(12,vb (decide (x3<(a1.length:Int))))] ?_);refine q_sq (q_cq hm (λhm=>?_) (λhm=>?_))
  ·refine q_sk (q_sq ?_);refine q_bk 1 ?_;obtain⟨g5,hm⟩:=qI hm;refine s_vu [qi 0 g5] 0 [12] [(4,vp 0 0)] [] [(0,bx 212 (qP (a1.getD x3.toNat du)))] ?_;obtain⟨v6,h7,hm⟩:=qB hm;refine s_vu [qc 1 [15] 1 (qQM (a1.getD x3.toNat du) v6 h7)] 1 [4] [(5,vi v6)] [0] [] (s_va 1 [(18,vb (v6 !=0))] ?_);refine q_cq hm (λhm=>?_) (λhm=>?_)
   ·refine s_vn [] 1 ⟨[(2,vi v6)],[]⟩ ?_;obtain rfl:=oi hm;refine q_rt (zG v6 ?_);exact q_rm
   ·refine q_sk (q_vv [] 1 [5,11,18] [(11,vi (w64 (x3+1)))] ?_);exact q_hl (IL a1 (w64 (x3+1))) (ih (w64 (x3+1)) _ hm)
  ·refine q_ex 0 ?_;obtain rfl:=oi hm;exact q_l1 ()
theorem UI (a1:List qF) (r:Int) (hm:XK a1=some r):CtX Tryz.prog globs 123 0 0 [.one (tl qP du a1)] [] (qCp r) (qCv r):=by
 unfold XK at hm;refine q_E f123 21 λE=>?_;refine s_vn [] 0 ⟨[(0,vc (tl qP du a1))],[]⟩ (q_sq ?_);refine s_va 0 [(8,vb (decide ((a1.length:Int)>64)))] (q_cq hm (λhm=>?_) (λhm=>?_))
 ·refine s_vn [] 0 ⟨[(2,vi 4)],[]⟩ ?_;obtain rfl:=oi hm;exact q_rt q_rm
 ·refine q_sk (q_sq ?_);refine s_vn [] 0 ⟨[(9,vc (tl qP du a1)),(10,vi (a1.length:Int)),(11,vi 0)],[]⟩ ?_;obtain⟨u11,h10,hm⟩:=qB hm;refine zT (nd f123 116) 0 (by kernel_rfl) FUEL (λo=>qDW) (λv st=>RetQ Tryz.prog f123 (qCp v) (qCv v) .ret st) u11 (q_hl (IL a1 0) (qKI E a1 FUEL 0 u11 h10)) ?_ ?_
  ·rintro v12 rfl st hr;obtain rfl:=oi hm;exact hr
  ·rintro o9 rfl;replace hm:_=some r:=hm;refine s_vn [] 0 ⟨[(2,vi 0)],[]⟩ ?_;obtain rfl:=oi hm;exact q_rt q_rm
open Go.Proofs Go.Proofs.Tryz
def qOF (r:Bool):V:=vb r
def qPd (r:Bool):List (Nat×(Nat×O)):=[]
def qJG (x3:Bool):St:=
 ⟨[(2,vb x3)],[]⟩
theorem BT (a1:Int) (r:Bool) (hm:TP a1=some r):CtX Tryz.prog globs 129 0 0 [.one (.val (.int .u8 a1))] [] (qOF r) (qPd r):=by
 unfold TP at hm;refine q_E f129 9 λE=>?_;refine s_vn [] 0 ⟨[(0,vc (.val (.int .u8 a1)))],[]⟩ (q_jn (qJG) (λp=>NI p=some r) ?_ ?_)
 ·rintro x3 hm;obtain rfl:=oi hm;exact q_rt q_rm
 ·rcases bif_c hm with⟨b2,hm⟩|⟨b2,hm⟩
  ·exact q_vn [qf 2 b2] 0 ⟨[(2,vb (decide (a1<=122)))],[]⟩ (q_J (decide (a1<=122)) hm)
  ·exact q_vn [qf 2 b2] 0 ⟨[(2,vb false)],[]⟩ (q_J (false) hm)
def qO0 (r:Bool):V:=vb r
def qQD (r:Bool):List (Nat×(Nat×O)):=[]
def qKT (x3:Bool):St:=
 ⟨[(2,vb x3)],[]⟩
theorem qE6 (a1:Int) (r:Bool) (hm:FA a1=some r):CtX Tryz.prog globs 130 0 0 [.one (.val (.int .u8 a1))] [] (qO0 r) (qQD r):=by
 unfold FA at hm;refine q_E f130 9 λE=>?_;refine s_vn [] 0 ⟨[(0,vc (.val (.int .u8 a1)))],[]⟩ (q_jn (qKT) (λp=>BQ p=some r) ?_ ?_)
 ·rintro x3 hm;obtain rfl:=oi hm;exact q_rt q_rm
 ·rcases bif_c hm with⟨b2,hm⟩|⟨b2,hm⟩
  ·exact q_vn [qf 2 b2] 0 ⟨[(2,vb (decide (a1<=57)))],[]⟩ (q_J (decide (a1<=57)) hm)
  ·exact q_vn [qf 2 b2] 0 ⟨[(2,vb false)],[]⟩ (q_J (false) hm)
def qCD (r:Bool):V:=vb r
def qB3 (r:Bool):List (Nat×(Nat×O)):=[]
def qL8 (a1:ByteArray) (x9:Int) (x18:Bool):St:=
 ⟨[(0,vc (cs a1)),(3,vi x9),(39,vb x18)],[]⟩
def IA (a1:ByteArray) (x9:Int):St:=
 ⟨[(0,vc (cs a1)),(3,vi x9)],[]⟩
def qD2 :St:=
 ⟨[],[]⟩
def qLL (a1:ByteArray) (x7:Bool):St:=
 ⟨[(0,vc (cs a1)),(18,vb x7)],[]⟩
theorem qKw (E:Env 0) (a1:ByteArray):∀(n:Nat) (x9:Int) (res:Bool⊕Unit),jW a1 n x9=some res->HL (kx E 40 0) (nd f72 116) (wN 0 (λo=>qD2) (λv st=>RetQ Tryz.prog f72 (qCD v) (qB3 v) .ret st) res) n (IA a1 x9):=by
 intro n
 induction n with
 |zero=>
  intro x9 res hm;cases hm
 |succ n ih=>
  intro x9 res hm;refine qT (q_sq ?_);refine s_va 0 [(22,vb (decide (x9<(a1.size:Int))))] (q_cq hm (λhm=>?_) (λhm=>?_))
  ·refine q_sk (q_sq ?_);refine q_bk 1 ?_;obtain⟨g11,hm⟩:=qI hm;refine s_vv [qi 2 g11] 0 [22] [(4,vc (.val (.int .u8 (strAt a1 x9.toNat))))] (q_jn (qL8 a1 x9) (λp=>UP x9 (jW a1 n) p=some res) ?_ ?_)
   ·rintro x18 hm;refine q_cq hm (λhm=>?_) (λhm=>?_)
    ·refine s_vn [] 0 ⟨[(2,vb false)],[]⟩ ?_;obtain rfl:=oi hm;refine q_rt (zG false ?_);exact q_rm
    ·refine q_sk (q_vv [] 0 [3,39] [(3,vi (w64 (x9+1)))] ?_);exact q_hl (IA a1 (w64 (x9+1))) (ih (w64 (x9+1)) _ hm)
   ·obtain⟨v12,h13,hm⟩:=qB hm;rcases bif_c hm with⟨b14,hm⟩|⟨b14,hm⟩
    ·obtain⟨v15,h16,hm⟩:=qB hm;rcases bif_c hm with⟨b17,hm⟩|⟨b17,hm⟩
     ·exact q_vv [qc 1 [28] 0 (BT (strAt a1 x9.toNat) v12 h13),qf 3 b14,qk 5 [31,32] 0 ⟨[(31,vb true),(32,vc (.val (.int .u8 (strAt a1 x9.toNat))))],[]⟩ (qE6 (strAt a1 x9.toNat) v15 h16),qf 8 b17] 0 [4] [(39,vb ((strAt a1 x9.toNat) !=95))] (q_J ((strAt a1 x9.toNat) !=95) hm)
     ·exact q_vv [qc 1 [28] 0 (BT (strAt a1 x9.toNat) v12 h13),qf 3 b14,qk 5 [31,32] 0 ⟨[(31,vb true),(32,vc (.val (.int .u8 (strAt a1 x9.toNat))))],[]⟩ (qE6 (strAt a1 x9.toNat) v15 h16),qf 8 b17] 0 [4] [(39,vb false)] (q_J (false) hm)
    ·exact q_vv [qc 1 [28] 0 (BT (strAt a1 x9.toNat) v12 h13),qf 3 b14] 0 [4] [(39,vb false)] (q_J (false) hm)
  ·refine q_ex 0 ?_;obtain rfl:=oi hm;exact q_l1 ()
theorem qP1 (a1:ByteArray) (r:Bool) (hm:SA a1=some r):CtX Tryz.prog globs 72 0 0 [.one (cs a1)] [] (qCD r) (qB3 r):=by
 unfold SA at hm;refine q_E f72 40 λE=>?_;refine s_vn [] 0 ⟨[(0,vc (cs a1))],[]⟩ (q_sq ?_);refine q_jn (qLL a1) (λp=>UY a1 p=some r) ?_ ?_
 ·rintro x7 hm;refine q_cq hm (λhm=>?_) (λhm=>?_)
  ·refine s_vn [] 0 ⟨[(2,vb false)],[]⟩ ?_;obtain rfl:=oi hm;exact q_rt q_rm
  ·refine q_sk (q_sq ?_);refine s_vv [] 0 [18] [(3,vi 1)] ?_;obtain⟨u22,h21,hm⟩:=qB hm;refine zT (nd f72 116) 0 (by kernel_rfl) FUEL (λo=>qD2) (λv st=>RetQ Tryz.prog f72 (qCD v) (qB3 v) .ret st) u22 (q_hl (IA a1 1) (qKw E a1 FUEL 1 u22 h21)) ?_ ?_
   ·rintro v23 rfl st hr;obtain rfl:=oi hm;exact hr
   ·rintro o20 rfl;replace hm:_=some r:=hm;refine s_vn [] 0 ⟨[(2,vb true)],[]⟩ ?_;obtain rfl:=oi hm;exact q_rt q_rm
 ·rcases bif_c hm with⟨b2,hm⟩|⟨b2,hm⟩
  ·exact q_vv [qf 3 b2] 0 [] [(18,vb true)] (q_J (true) hm)
  ·rcases bif_c hm with⟨b3,hm⟩|⟨b3,hm⟩
   ·exact q_vv [qf 3 b2,qf 8 b3] 0 [] [(18,vb true)] (q_J (true) hm)
   ·obtain⟨g4,hm⟩:=qI hm;obtain⟨v5,h6,hm⟩:=qB hm;exact q_vv [qf 3 b2,qf 8 b3,qi 10 g4,qk 11 [13,15] 0 ⟨[(13,vb false),(15,vc (.val (.int .u8 (strAt a1 ((0:Int).toNat)))))],[]⟩ (BT (strAt a1 ((0:Int).toNat)) v5 h6)] 0 [] [(18,vb (!v5))] (q_J (!v5) hm)
open Go.Proofs Go.Proofs.Tryz
def qCa (r:Int×Bool):V:= .tup [.one (ci r.1),.one (cb r.2)]
def qCo (r:Int×Bool):List (Nat×(Nat×O)):=[]
def IK (a1:List Product) (a2:ByteArray) (x3:Int):St:=
 ⟨[(1,vc (cs a2)),(8,vc (tl qH du a1)),(9,vi (a1.length:Int)),(10,vi x3)],[]⟩
def qEb :St:=
 ⟨[],[]⟩
theorem qKy (E:Env 0) (a1:List Product) (a2:ByteArray):∀(n:Nat) (x3:Int) (res:(Int×Bool)⊕Unit),WQ a1 a2 n x3=some res->HL (kx E 21 0) (nd f73 52) (wN 0 (λo=>qEb) (λv st=>RetQ Tryz.prog f73 (qCa v) (qCo v) .ret st) res) n (IK a1 a2 x3):=by
 intro n
 induction n with
 |zero=>
  intro x3 res hm;cases hm
 |succ n ih=>
  intro x3 res hm;refine qT (s_va 0 [(11,vb (decide (x3<(a1.length:Int))))] ?_);refine q_sq (q_cq hm (λhm=>?_) (λhm=>?_))
  ·refine q_sk (q_sq ?_);refine q_bk 1 ?_;obtain⟨g5,hm⟩:=qI hm;refine s_vu [qi 1 g5] 0 [11] [(6,vi x3),(7,vp 0 0)] [] [(0,bx 54 (qH (a1.getD x3.toNat du)))] (s_vu [] 1 [7] [(18,vb (strEq ((a1.getD x3.toNat du).Name) a2))] [0] [] ?_);refine q_cq hm (λhm=>?_) (λhm=>?_)
   ·refine s_vn [] 1 ⟨[(4,vi x3),(5,vb true)],[]⟩ ?_;obtain rfl:=oi hm;refine q_rt (zG (x3,true) ?_);exact q_rm
   ·refine q_sk (q_vv [] 1 [6,10,18] [(10,vi (w64 (x3+1)))] ?_);exact q_hl (IK a1 a2 (w64 (x3+1))) (ih (w64 (x3+1)) _ hm)
  ·refine q_ex 0 ?_;obtain rfl:=oi hm;exact q_l1 ()
theorem qPw (a1:List Product) (a2:ByteArray) (r:Int×Bool) (hm:SO a1 a2=some r):CtX Tryz.prog globs 73 0 0 [.one (tl qH du a1),.one (cs a2)] [] (qCa r) (qCo r):=by
 unfold SO at hm;refine q_E f73 21 λE=>?_;refine s_vn [] 0 ⟨[(0,vc (tl qH du a1)),(1,vc (cs a2))],[]⟩ (q_sq ?_);refine s_vv [] 0 [0] [(8,vc (tl qH du a1)),(9,vi (a1.length:Int)),(10,vi 0)] ?_;obtain⟨u9,h8,hm⟩:=qB hm;refine zT (nd f73 52) 0 (by kernel_rfl) FUEL (λo=>qEb) (λv st=>RetQ Tryz.prog f73 (qCa v) (qCo v) .ret st) u9 (q_hl (IK a1 a2 0) (qKy E a1 a2 FUEL 0 u9 h8)) ?_ ?_
 ·rintro v10 rfl st hr;obtain rfl:=oi hm;exact hr
 ·rintro o7 rfl;replace hm:_=some r:=hm;refine s_vn [] 0 ⟨[(4,vi 0),(5,vb false)],[]⟩ ?_;obtain rfl:=oi hm;exact q_rt q_rm
def qR0 (r:Int):V:=vi r
def qRb (r:Int):List (Nat×(Nat×O)):=[]
theorem qGW (a1:Int) (a2:Int) (r:Int) (hm:HV a1 a2=some r):CtX Tryz.prog globs 76 0 0 [.one (ci a1),.one (ci a2)] [] (qR0 r) (qRb r):=by
 unfold HV at hm;refine q_E f76 11 λE=>?_;refine s_vn [] 0 ⟨[(0,vi a1),(1,vi a2)],[]⟩ (s_vn [qd 5 dN (show(1000:Int)≠0 by decide)] 0 ⟨[(4,vi (w64 (Int.tdiv (w64 ((w64 (a1*(w64 (1000+a2))))+999)) 1000)))],[]⟩ ?_);obtain rfl:=oi hm;exact q_rt q_rm
def qNa (r:Bool):V:=vb r
def qNo (r:Bool):List (Nat×(Nat×O)):=[]
def qJz (x3:Bool):St:=
 ⟨[(2,vb x3)],[]⟩
theorem QV (a1:Int) (r:Bool) (hm:RL a1=some r):CtX Tryz.prog globs 75 0 0 [.one (ci a1)] [] (qNa r) (qNo r):=by
 unfold RL at hm;refine q_E f75 9 λE=>?_;refine s_vn [] 0 ⟨[(0,vi a1)],[]⟩ (q_jn (qJz) (λp=>GI p=some r) ?_ ?_)
 ·rintro x3 hm;obtain rfl:=oi hm;exact q_rt q_rm
 ·rcases bif_c hm with⟨b2,hm⟩|⟨b2,hm⟩
  ·exact q_vn [qf 2 b2] 0 ⟨[(2,vb (decide (a1<=600)))],[]⟩ (q_J (decide (a1<=600)) hm)
  ·exact q_vn [qf 2 b2] 0 ⟨[(2,vb false)],[]⟩ (q_J (false) hm)
open Go.Proofs Go.Proofs.Tryz
def qPB (r:Int×Int):V:= .tup [.one (ci r.1),.one (ci r.2)]
def qPL (r:Int×Int):List (Nat×(Nat×O)):=[]
def qKu (a1:Product) (x9:Bool):St:=
 ⟨[(1,vp 0 0),(23,vb x9)],[(0,bx 54 (qH a1))]⟩
theorem NS (a1:Product) (r:Int×Int) (hm:ZO a1=some r):CtX Tryz.prog globs 31 0 0 [.agg (qH a1)] [] (qPB r) (qPL r):=by
 unfold ZO at hm;refine q_E f31 34 λE=>?_;refine s_vn [] 0 ⟨[(1,vp 0 0)],[(0,bx 54 (qH a1))]⟩ (q_sq ?_);refine q_jn (qKu a1) (λp=>YS a1 p=some r) ?_ ?_
 ·rintro x9 hm;refine q_cq hm (λhm=>?_) (λhm=>?_)
  ·refine s_vn [] 1 ⟨[(2,vi 0),(3,vi 0)],[]⟩ ?_;obtain rfl:=oi hm;exact q_rt q_rm
  ·refine q_sk ?_;obtain⟨v11,h12,hm⟩:=qB hm;obtain⟨v13,h14,hm⟩:=qB hm;refine s_dn [qc 4 [25,27] 1 (qGW a1.Thick a1.Allow v11 h12),qc 9 [30,32] 1 (qGW a1.Width a1.Allow v13 h14)] [0,1,0,4,15,0,32,0,128,511,1023,2047] 1 ⟨[(2,vi v11),(3,vi v13)],[]⟩ ?_;obtain rfl:=oi hm;exact q_rt q_rm
 ·obtain⟨v2,h3,hm⟩:=qB hm;rcases bif_c hm with⟨b4,hm⟩|⟨b4,hm⟩
  ·exact q_vv [qc 2 [5] 1 (QV a1.Thick v2 h3),qf 4 b4] 1 [] [(23,vb true)] (q_J (true) hm)
  ·obtain⟨v5,h6,hm⟩:=qB hm;rcases bif_c hm with⟨b7,hm⟩|⟨b7,hm⟩
   ·exact q_vv [qc 2 [5] 1 (QV a1.Thick v2 h3),qf 4 b4,qk 7 [8,10] 1 ⟨[(8,vb false),(10,vi a1.Width)],[]⟩ (QV a1.Width v5 h6),qf 10 b7] 1 [] [(23,vb true)] (q_J (true) hm)
   ·rcases bif_c hm with⟨b8,hm⟩|⟨b8,hm⟩
    ·exact q_vv [qc 2 [5] 1 (QV a1.Thick v2 h3),qf 4 b4,qk 7 [8,10] 1 ⟨[(8,vb false),(10,vi a1.Width)],[]⟩ (QV a1.Width v5 h6),qf 10 b7,qf 15 b8] 1 [] [(23,vb true)] (q_J (true) hm)
    ·exact q_vv [qc 2 [5] 1 (QV a1.Thick v2 h3),qf 4 b4,qk 7 [8,10] 1 ⟨[(8,vb false),(10,vi a1.Width)],[]⟩ (QV a1.Width v5 h6),qf 10 b7,qf 15 b8] 1 [] [(23,vb (decide (a1.Allow>200)))] (q_J (decide (a1.Allow>200)) hm)
end Saw
end Go.SL

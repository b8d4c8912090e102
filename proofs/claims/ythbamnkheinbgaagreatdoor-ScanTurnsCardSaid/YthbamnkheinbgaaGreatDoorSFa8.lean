import Derived.Test.YthbamnkheinbgaaGreatDoorSBase
import Derived.Test.YthbamnkheinbgaaGreatDoorSFa7
set_option linter.unusedVariables false
set_option linter.unusedSimpArgs false
namespace Go.SL
namespace Saw
open Go.Proofs Go.Proofs.Tryz
set_option maxHeartbeats 4000000
set_option maxRecDepth 100000
def FJ (r:Int):V:=vi r
def FC (r:Int):List (Nat×(Nat×O)):=[]
def qCE (a1:List qD) (x3:Int) (x7:Bool):St:=
 ⟨[(0,vc (tl qG dd a1)),(3,vi x3),(13,vb x7)],[]⟩
def TW (a1:List qD) (x3:Int):St:=
 ⟨[(0,vc (tl qG dd a1)),(3,vi x3)],[]⟩
def LW :St:=
 ⟨[],[]⟩
theorem qBX (E:Env 0) (a1:List qD):∀(n:Nat) (x3:Int) (res:Int⊕Unit),wO a1 n x3=some res->HL (kx E 43 0) (nd f41 116) (wF 0 (λo=>LW) (λv st=>RetQ Tryz.prog f41 (FJ v) (FC v) .ret st) res) n (TW a1 x3):=by
 intro n
 induction n with
 |zero=>
  intro x3 res hm;cases hm
 |succ n ih=>
  intro x3 res hm;refine qR (q_sq ?_);refine s_va 0 [(10,vb (decide (x3<(a1.length:Int))))] (q_cq hm (λhm=>?_) (λhm=>?_))
  ·refine q_sk (q_sq ?_);refine q_bk 1 (q_bk 2 ?_);refine q_jn (qCE a1 x3) (λp=>KT a1 x3 (wO a1 n) p=some res) ?_ ?_
   ·rintro x7 hm;refine q_cq hm (λhm=>?_) (λhm=>?_)
    ·refine s_vn [] 0 ⟨[(2,vi 10)],[]⟩ ?_;obtain rfl:=oi hm;refine q_rt (zC 10 ?_);exact q_rm
    ·obtain⟨g9,hm⟩:=qJ hm;obtain⟨v10,h11,hm⟩:=qE hm;refine s_vv [qi 2 g9,qc 5 [33] 0 (qEQ ((a1.getD x3.toNat dd).Box) v10 h11)] 0 [13] [(28,vb v10)] (q_cq hm (λhm=>?_) (λhm=>?_))
     ·refine s_vn [] 0 ⟨[(2,vi 19)],[]⟩ ?_;obtain rfl:=oi hm;refine q_rt (zC 19 ?_);exact q_rm
     ·obtain⟨v13,h14,hm⟩:=qE hm;refine s_vv [qi 2 g9,qc 5 [40] 0 (qDH ((a1.getD x3.toNat dd).Box) v13 h14)] 0 [28] [(35,vb (!v13))] (q_cq hm (λhm=>?_) (λhm=>?_))
      ·refine s_vn [] 0 ⟨[(2,vi 9)],[]⟩ ?_;obtain rfl:=oi hm;refine q_rt (zC 9 ?_);exact q_rm
      ·refine q_sk (q_vv [] 0 [3,35] [(3,vi (w64 (x3+1)))] ?_);exact q_hl (TW a1 (w64 (x3+1))) (ih (w64 (x3+1)) _ hm)
   ·obtain⟨g5,hm⟩:=qJ hm;rcases bif_c hm with⟨b6,hm⟩|⟨b6,hm⟩
    ·exact q_vv [qi 2 g5,qf 6 b6] 0 [10] [(13,vb true)] (q_J (true) hm)
    ·exact q_vv [qi 2 g5,qf 6 b6,qi 9 g5] 0 [10] [(13,vb (decide (((a1.getD x3.toNat dd).Kind)>6)))] (q_J (decide (((a1.getD x3.toNat dd).Kind)>6)) hm)
  ·refine q_ex 0 ?_;obtain rfl:=oi hm;exact q_l1 ()
theorem IW (a1:List qD) (r:Int) (hm:YU a1=some r):CtX Tryz.prog globs 41 0 0 [.one (tl qG dd a1)] [] (FJ r) (FC r):=by
 unfold YU at hm;refine q_E f41 43 λE=>?_;refine s_vn [] 0 ⟨[(0,vc (tl qG dd a1))],[]⟩ (q_sq ?_);refine s_va 0 [(6,vb (decide ((a1.length:Int)>64)))] (q_cq hm (λhm=>?_) (λhm=>?_))
 ·refine s_vn [] 0 ⟨[(2,vi 4)],[]⟩ ?_;obtain rfl:=oi hm;exact q_rt q_rm
 ·refine q_sk (q_sq ?_);refine s_vv [] 0 [6] [(3,vi 0)] ?_;obtain⟨u18,h17,hm⟩:=qE hm;refine zN (nd f41 116) 0 (by kernel_rfl) FUEL (λo=>LW) (λv st=>RetQ Tryz.prog f41 (FJ v) (FC v) .ret st) u18 (q_hl (TW a1 0) (qBX E a1 FUEL 0 u18 h17)) ?_ ?_
  ·rintro v19 rfl st hr;obtain rfl:=oi hm;exact hr
  ·rintro o16 rfl;replace hm:_=some r:=hm;refine s_vn [] 0 ⟨[(2,vi 0)],[]⟩ ?_;obtain rfl:=oi hm;exact q_rt q_rm
def JV (r:Int):V:=vi r
def YA (r:Int):List (Nat×(Nat×O)):=[]
def qCQ (a1:Scan) (x5:Int) (x15:Bool):St:=
 ⟨[(1,vp 0 0),(4,vi x5),(5,vp 1 0),(50,vb x15)],[(0,bx 25 (qP a1)),(1,bx 45 (qI (a1.Rings.getD x5.toNat dd)))]⟩
def TC (a1:Scan) (x4:Int) (x5:Int):St:=
 ⟨[(1,vp 0 0),(3,vi x4),(4,vi x5)],[(0,bx 25 (qP a1))]⟩
def HI (a1:Scan) (x19:Int):St:=
 ⟨[(1,vp 0 0),(3,vi x19)],[(0,bx 25 (qP a1))]⟩
def TV (a1:Scan) (o20:Int) (x27:Int):St:=
 ⟨[(1,vp 0 0),(3,vi o20),(8,vi x27)],[(0,bx 25 (qP a1))]⟩
def SC :St:=
 ⟨[],[]⟩
theorem qCd (E:Env 0) (a1:Scan):∀(n:Nat) (x4:Int) (x5:Int) (res:Int⊕Int),zI a1 n x4 x5=some res->HL (kx E 86 0) (nd f14 500) (wF 0 (λo=>HI a1 o) (λv st=>RetQ Tryz.prog f14 (JV v) (YA v) .ret st) res) n (TC a1 x4 x5):=by
 intro n
 induction n with
 |zero=>
  intro x4 x5 res hm;cases hm
 |succ n ih=>
  intro x4 x5 res hm;refine qR (q_sq ?_);refine s_va 1 [(21,vb (decide (x5<(a1.Rings.length:Int))))] (q_cq hm (λhm=>?_) (λhm=>?_))
  ·refine q_sk (q_sq ?_);refine q_bk 1 ?_;obtain⟨g7,hm⟩:=qJ hm;refine s_vu [qi 3 g7] 1 [21] [(5,vp 1 0)] [] [(1,bx 45 (qI (a1.Rings.getD x5.toNat dd)))] (q_sq ?_);obtain⟨v8,h9,hm⟩:=qE hm;refine s_vv [qc 1 [29] 2 (IE (a1.Rings.getD x5.toNat dd) v8 h9)] 2 [] [(6,vi v8)] (s_va 2 [(32,vb (v8 !=0))] ?_);refine q_cq hm (λhm=>?_) (λhm=>?_)
   ·refine s_vn [] 2 ⟨[(2,vi v8)],[]⟩ ?_;obtain rfl:=oi hm;refine q_rt (zC v8 ?_);exact q_rm
   ·refine q_sk (q_sq ?_);refine q_jn (qCQ a1 x5) (λp=>yC a1 x5 (zI a1 n) p=some res) ?_ ?_
    ·rintro x15 hm;refine q_cq hm (λhm=>?_) (λhm=>?_)
     ·refine s_vn [] 2 ⟨[(2,vi 11)],[]⟩ ?_;obtain rfl:=oi hm;refine q_rt (zC 11 ?_);exact q_rm
     ·refine q_sk (q_sq ?_);obtain⟨g17,hm⟩:=qJ hm;refine s_du [qi 5 g17] [0,1,3,0,8,24,56,120,248,511] 2 [50] [(60,vb (((((a1.Rings.getD x5.toNat dd).Read).length:Nat):Int) !=((((a1.Rings.getD (0:Int).toNat dd).Read).length:Nat):Int)))] [] [] (q_cq hm (λhm=>?_) (λhm=>?_))
      ·refine s_vn [] 2 ⟨[(2,vi 19)],[]⟩ ?_;obtain rfl:=oi hm;refine q_rt (zC 19 ?_);exact q_rm
      ·refine q_sk (q_vu [] 2 [5,60] [(3,vi ((a1.Rings.getD x5.toNat dd).Z))] [1] [] ?_);exact q_vv [] 2 [4] [(4,vi (w64 (x5+1)))] (q_hl (TC a1 ((a1.Rings.getD x5.toNat dd).Z) (w64 (x5+1))) (ih ((a1.Rings.getD x5.toNat dd).Z) (w64 (x5+1)) _ hm))
    ·rcases bif_c hm with⟨b11,hm⟩|⟨b11,hm⟩
     ·rcases bif_c hm with⟨b12,hm⟩|⟨b12,hm⟩
      ·exact q_vv [qf 2 b11,qf 7 b12] 2 [3,6,32] [(50,vb true)] (q_J (true) hm)
      ·rcases bif_c hm with⟨b13,hm⟩|⟨b13,hm⟩
       ·exact q_vv [qf 2 b11,qf 7 b12,qf 10 b13] 2 [3,6,32] [(50,vb (decide (((a1.Rings.getD x5.toNat dd).Z)<=x4)))] (q_J (decide (((a1.Rings.getD x5.toNat dd).Z)<=x4)) hm)
       ·exact q_vv [qf 2 b11,qf 7 b12,qf 10 b13] 2 [3,6,32] [(50,vb false)] (q_J (false) hm)
     ·rcases bif_c hm with⟨b14,hm⟩|⟨b14,hm⟩
      ·exact q_vv [qf 2 b11,qf 10 b14] 2 [3,6,32] [(50,vb (decide (((a1.Rings.getD x5.toNat dd).Z)<=x4)))] (q_J (decide (((a1.Rings.getD x5.toNat dd).Z)<=x4)) hm)
      ·exact q_vv [qf 2 b11,qf 10 b14] 2 [3,6,32] [(50,vb false)] (q_J (false) hm)
  ·refine q_ex 0 ?_;obtain rfl:=oi hm;exact q_l1 x4
theorem qB6 (E:Env 0) (a1:Scan) (o20:Int):∀(n:Nat) (x27:Int) (res:Int⊕Unit),QH a1 o20 n x27=some res->HL (kx E 86 0) (nd f14 2036) (wF 2 (λo=>SC) (λv st=>RetQ Tryz.prog f14 (JV v) (YA v) .ret st) res) n (TV a1 o20 x27):=by
 intro n
 induction n with
 |zero=>
  intro x27 res hm;cases hm
 |succ n ih=>
  intro x27 res hm;refine qR (q_sq ?_);refine s_va 1 [(73,vb (decide (x27<(a1.Defects.length:Int))))] (q_cq hm (λhm=>?_) (λhm=>?_))
  ·refine q_sk (q_sq ?_);refine q_bk 3 ?_;obtain⟨g29,hm⟩:=qJ hm;refine s_vv [qi 3 g29] 1 [73] [(85,vb (decide (((((a1.Defects.getD x27.toNat dd).Box).Z).B)>o20)))] (q_cq hm (λhm=>?_) (λhm=>?_))
   ·refine s_vn [] 1 ⟨[(2,vi 9)],[]⟩ ?_;obtain rfl:=oi hm;refine q_rt (zC 9 ?_);exact q_rm
   ·refine q_sk (q_vv [] 1 [8,85] [(8,vi (w64 (x27+1)))] ?_);exact q_hl (TV a1 o20 (w64 (x27+1))) (ih (w64 (x27+1)) _ hm)
  ·refine q_ex 2 ?_;obtain rfl:=oi hm;exact q_l1 ()
theorem qFb (a1:Scan) (r:Int) (hm:PV a1=some r):CtX Tryz.prog globs 14 0 0 [.agg (qP a1)] [] (JV r) (YA r):=by
 unfold PV at hm;refine q_E f14 86 λE=>?_;refine s_vn [] 0 ⟨[(1,vp 0 0)],[(0,bx 25 (qP a1))]⟩ (q_sq ?_);refine s_va 1 [(12,vb (decide ((a1.Rings.length:Int)<2)))] (q_cq hm (λhm=>?_) (λhm=>?_))
 ·refine s_vn [] 1 ⟨[(2,vi 3)],[]⟩ ?_;obtain rfl:=oi hm;exact q_rt q_rm
 ·refine q_sk (q_sq ?_);refine s_vv [] 1 [12] [(16,vb (decide ((a1.Rings.length:Int)>24)))] (q_cq hm (λhm=>?_) (λhm=>?_))
  ·refine s_vn [] 1 ⟨[(2,vi 4)],[]⟩ ?_;obtain rfl:=oi hm;exact q_rt q_rm
  ·refine q_sk (s_vv [] 1 [16] [(3,vi 0)] ?_);refine q_sq (s_va 1 [(4,vi 0)] ?_);obtain⟨u22,h21,hm⟩:=qE hm;refine zN (nd f14 500) 0 (by kernel_rfl) FUEL (λo=>HI a1 o) (λv st=>RetQ Tryz.prog f14 (JV v) (YA v) .ret st) u22 (q_hl (TC a1 0 0) (qCd E a1 FUEL 0 0 u22 h21)) ?_ ?_
   ·rintro v23 rfl st hr;obtain rfl:=oi hm;exact hr
   ·rintro o20 rfl;replace hm:_=some r:=hm;refine q_sq ?_;obtain⟨v24,h25,hm⟩:=qE hm;refine s_vv [qc 2 [64] 1 (IW a1.Defects v24 h25)] 1 [] [(7,vi v24)] (s_va 1 [(67,vb (v24 !=0))] ?_);refine q_cq hm (λhm=>?_) (λhm=>?_)
    ·refine s_vn [] 1 ⟨[(2,vi v24)],[]⟩ ?_;obtain rfl:=oi hm;exact q_rt q_rm
    ·refine q_sk (q_sq ?_);refine s_vv [] 1 [7,67] [(8,vi 0)] ?_;obtain⟨u33,h32,hm⟩:=qE hm;refine zN (nd f14 2036) 2 (by kernel_rfl) FUEL (λo=>SC) (λv st=>RetQ Tryz.prog f14 (JV v) (YA v) .ret st) u33 (q_hl (TV a1 o20 0) (qB6 E a1 o20 FUEL 0 u33 h32)) ?_ ?_
     ·rintro v34 rfl st hr;obtain rfl:=oi hm;exact hr
     ·rintro o31 rfl;replace hm:_=some r:=hm;refine s_vn [] 1 ⟨[(2,vi 0)],[]⟩ ?_;obtain rfl:=oi hm;exact q_rt q_rm
def qEj (r:Box):V:=va (RJ r)
def qDY (r:Box):List (Nat×(Nat×O)):=[]
theorem qDh (a1:Box) (r:Box) (hm:NR a1=some r):CtX Tryz.prog globs 140 0 0 [.agg (RJ a1)] [] (qEj r) (qDY r):=by
 unfold NR at hm;refine q_E f140 17 λE=>?_;refine s_vn [] 0 ⟨[(1,vp 0 0),(2,vp 1 0)],[(0,bx 66 (RJ a1)),(1,bx 66 [ci 0,ci 0,ci 0,ci 0,ci 0,ci 0])]⟩ (s_vu [] 2 [1] [] [0,1] [(1,bx 66 [ci (w64 (0-a1.Y.B)),ci (w64 (0-a1.Y.A)),ci a1.X.A,ci a1.X.B,ci a1.Z.A,ci a1.Z.B])] ?_);obtain rfl:=oi hm;exact q_rt q_rm
open Go.Proofs Go.Proofs.Tryz
def qIm (r:(List qD)):V:=vo 0 0 7 r.length
def qHL (r:(List qD)):List (Nat×(Nat×O)):=[(0,ro 0 68 7 r.length (rf qG r))]
def VK (a1:List qD) (a2:Int) (l6:List qD) (x7:Int) (x10:Int) (x11:Int) (x12:Int) (x13:Int) (x14:Int) (x15:Int) (x16:Int):St:=
 ⟨[(0,vc (tl qG dd a1)),(1,vi a2),(5,vo 0 0 7 l6.length),(6,vi x7),(7,vp 1 0),(8,vi x10)],[(0,ro 0 68 7 l6.length (rf qG l6)),(1,bx 68 [ci ((a1.getD x7.toNat dd).Kind),ci x11,ci x12,ci x13,ci x14,ci x15,ci x16])]⟩
def EY (a1:List qD) (a2:Int) (l6:List qD) (x7:Int) (x22:qD):St:=
 ⟨[(0,vc (tl qG dd a1)),(1,vi a2),(5,vo 0 0 7 l6.length),(6,vi x7),(7,vp 1 0)],[(0,ro 0 68 7 l6.length (rf qG l6)),(1,bx 68 (qG x22))]⟩
def VO (a1:List qD) (a2:Int) (l6:List qD) (l6n:Nat) (x7:Int):St:=
 ⟨[(0,vc (tl qG dd a1)),(1,vi a2),(5,vo 0 0 7 l6n),(6,vi x7)],[(0,ro 0 68 7 l6n (rf qG l6))]⟩
def EW (l26:List qD):St:=
 ⟨[(5,vo 0 0 7 l26.length)],[(0,ro 0 68 7 l26.length (rf qG l26))]⟩
theorem qC5 (E:Env 0) (a1:List qD) (a2:Int) (l6:List qD) (x7:Int):∀(n:Nat) (x10:Int) (x11:Int) (x12:Int) (x13:Int) (x14:Int) (x15:Int) (x16:Int) (res:qD),wV a1 a2 x7 n x10 x11 x12 x13 x14 x15 x16=some res->HL (kx E 37 0) (nd f77 62612) (zF 2 (λo=>EY a1 a2 l6 x7 o) res) n (VK a1 a2 l6 x7 x10 x11 x12 x13 x14 x15 x16):=by
 intro n
 induction n with
 |zero=>
  intro x10 x11 x12 x13 x14 x15 x16 res hm;cases hm
 |succ n ih=>
  intro x10 x11 x12 x13 x14 x15 x16 res hm;refine qR (q_sq ?_);obtain⟨v17,h18,hm⟩:=qE hm;refine s_vv [qc 2 [23] 2 (FT a2 v17 h18)] 2 [] [(25,vb (decide (x10<v17)))] (q_cq hm (λhm=>?_) (λhm=>?_))
  ·refine q_sk (q_sq ?_);refine q_bk 3 ?_;obtain⟨v20,h21,hm⟩:=qE hm;refine q_vu [qc 2 [29] 2 (qDh (Box.mk (Span.mk x11 x12) (Span.mk x13 x14) (Span.mk x15 x16)) v20 h21)] 2 [25] [] [1] [(1,bx 68 [ci ((a1.getD x7.toNat dd).Kind),ci v20.X.A,ci v20.X.B,ci v20.Y.A,ci v20.Y.B,ci v20.Z.A,ci v20.Z.B])] (q_vv [] 2 [8] [(8,vi (w64 (x10+1)))] ?_);exact q_hl (VK a1 a2 l6 x7 (w64 (x10+1)) v20.X.A v20.X.B v20.Y.A v20.Y.B v20.Z.A v20.Z.B) (ih (w64 (x10+1)) v20.X.A v20.X.B v20.Y.A v20.Y.B v20.Z.A v20.Z.B _ hm)
  ·refine q_ex 2 ?_;obtain rfl:=oi hm;exact q_l0
theorem qC9 (E:Env 0) (a1:List qD) (a2:Int):∀(n:Nat) (l6:List qD) (l6n:Nat) (x7:Int) (res:(List qD)),l6.length=l6n->jU a1 a2 n l6 x7=some res->HL (kx E 37 0) (nd f77 244) (zF 0 EW res) n (VO a1 a2 l6 l6n x7):=by
 intro n
 induction n with
 |zero=>
  intro l6 l6n x7 res hl0 hm;cases hm
 |succ n ih=>
  intro l6 l6n x7 res hl0 hm;subst hl0;refine qR (q_sq ?_);refine s_va 1 [(15,vb (decide (x7<(a1.length:Int))))] (q_cq hm (λhm=>?_) (λhm=>?_))
  ·refine q_sk (q_sq ?_);refine q_bk 1 ?_;obtain⟨g9,hm⟩:=qJ hm;refine s_vu [qi 2 g9] 1 [15] [(7,vp 1 0)] [] [(1,bx 68 (qG (a1.getD x7.toNat dd)))] (q_sq ?_);refine s_va 2 [(8,vi 0)] ?_;obtain⟨o23,h24,hm⟩:=qE hm
   refine qZ (nd f77 62612) 2 (by kernel_rfl) FUEL (λo=>EY a1 a2 l6 x7 o) o23 (q_hl (VK a1 a2 l6 x7 0 ((((a1.getD x7.toNat dd).Box).X).A) ((((a1.getD x7.toNat dd).Box).X).B) ((((a1.getD x7.toNat dd).Box).Y).A) ((((a1.getD x7.toNat dd).Box).Y).B) ((((a1.getD x7.toNat dd).Box).Z).A) ((((a1.getD x7.toNat dd).Box).Z).B)) (qC5 E a1 a2 l6 x7 FUEL 0 ((((a1.getD x7.toNat dd).Box).X).A) ((((a1.getD x7.toNat dd).Box).X).B) ((((a1.getD x7.toNat dd).Box).Y).A) ((((a1.getD x7.toNat dd).Box).Y).B) ((((a1.getD x7.toNat dd).Box).Z).A) ((((a1.getD x7.toNat dd).Box).Z).B) o23 h24)) ?_;obtain⟨g25,hm⟩:=qJ hm
   refine q_vu [qd 2 (drw 2 0 (rf qG [o23])) (litP qG dd 7 (λ_=>rfl) ([o23]:List qD) 1 rfl),qd 3 (drw 0 1 (rf qG (l6++[o23]))) (apP qG dd l6 ([o23]:List qD) l6.length 1 7 56 (1<=1) (kg _) rfl rfl (λ_=>rfl) (zP g25))] 2 [5,7] [(5,vo 0 1 7 (l6.length+1))] [0,1] [(0,ro 1 68 7 (l6.length+1) (rf qG (l6++[o23])))] (q_vv [] 3 [6] [(6,vi (w64 (x7+1)))] ?_);exact q_hl (VO a1 a2 (l6++[o23]) (l6.length+1) (w64 (x7+1))) (ih (l6++[o23]) (l6.length+1) (w64 (x7+1)) _ (zX rfl rfl) hm)
  ·refine q_ex 0 ?_;obtain rfl:=oi hm;exact q_l0
theorem qGd (a1:List qD) (a2:Int) (r:(List qD)) (hm:VA a1 a2=some r):CtX Tryz.prog globs 77 0 0 [.one (tl qG dd a1),.one (ci a2)] [] (qIm r) (qHL r):=by
 unfold VA at hm;refine q_E f77 37 λE=>?_;refine s_vn [] 0 ⟨[(0,vc (tl qG dd a1)),(1,vi a2)],[]⟩ (q_sq ?_);obtain⟨v3,h4,hm⟩:=qE hm;refine s_vv [qc 1 [9] 0 (IW a1 v3 h4)] 0 [] [(11,vb (v3 !=0))] (q_cq hm (λhm=>?_) (λhm=>?_))
 ·refine s_vn [] 0 ⟨[(4,vc (.emp))],[]⟩ (q_fn [.own 4 0 68 7 (rf qG [])] ⟨[(4,vo 0 0 7 0)],[(0,ro 0 68 7 0 (rf qG []))]⟩ o0 ?_);refine q_fn [.len 0 (([]:List qD).length)] ⟨[(4,vo 0 0 7 (([]:List qD).length))],[(0,ro 0 68 7 (([]:List qD).length) (rf qG []))]⟩ (o1 (And.intro (show 0=([]:List qD).length from rfl) (show 0=([]:List qD).length from rfl))) ?_;obtain rfl:=oi hm;exact q_rt q_rm
 ·refine q_sk (s_vv [] 0 [11] [(5,vc (.emp))] ?_);refine q_sq (s_va 0 [(6,vi 0)] ?_);refine q_fo 5 0 68 7 qG ?_;obtain⟨o27,h28,hm⟩:=qE hm;refine qZ (nd f77 244) 0 (by kernel_rfl) FUEL EW o27 (q_hl (VO a1 a2 ([]:List qD) 0 0) (qC9 E a1 a2 FUEL ([]:List qD) 0 0 o27 rfl h28)) (s_vv [] 1 [5] [(4,vo 0 0 7 o27.length)] ?_);obtain rfl:=oi hm;exact q_rt q_rm
def qHg (r:Scan):V:=va (qP r)
def qHB (r:Scan):List (Nat×(Nat×O)):=[]
def VZ (a1:Scan) (a2:Int) (x6:Int) (l7:List Ring) (l7n:Nat):St:=
 ⟨[(1,vi a2),(2,vp 0 0),(4,vp 1 0),(5,vp 2 0),(6,vi x6)],[(0,bx 25 (qP a1)),(1,bx 25 [.emp,.emp]),(2,bx 25 [.own 3 0 2 l7n,.emp]),(3,ro 0 45 2 l7n (rf qI l7))]⟩
def EE (a1:Scan) (a2:Int) (l16:List Ring):St:=
 ⟨[(1,vi a2),(2,vp 0 0),(4,vp 1 0),(5,vp 2 0)],[(0,bx 25 (qP a1)),(1,bx 25 [.emp,.emp]),(2,bx 25 [.own 3 0 2 l16.length,.emp]),(3,ro 0 45 2 l16.length (rf qI l16))]⟩
theorem qC0 (E:Env 0) (a1:Scan) (a2:Int):∀(n:Nat) (x6:Int) (l7:List Ring) (l7n:Nat) (res:(List Ring)),l7.length=l7n->jX a1 a2 n x6 l7=some res->HL (kx E 36 0) (nd f34 244) (zF 0 (λo=>EE a1 a2 o) res) n (VZ a1 a2 x6 l7 l7n):=by
 intro n
 induction n with
 |zero=>
  intro x6 l7 l7n res hl0 hm;cases hm
 |succ n ih=>
  intro x6 l7 l7n res hl0 hm;subst hl0;refine qR (q_sq ?_);refine s_va 4 [(15,vb (decide (x6<(a1.Rings.length:Int))))] (q_cq hm (λhm=>?_) (λhm=>?_))
  ·refine q_sk (q_sq ?_);refine q_bk 1 ?_;obtain⟨g12,hm⟩:=qJ hm;obtain⟨v13,h14,hm⟩:=qE hm;obtain⟨g15,hm⟩:=qJ hm
   refine q_du [qi 5 g12,qc 8 [24,25] 4 (CtX.frz (x':=va (qI v13)) (ob':=[]) (qFY (a1.Rings.getD x6.toNat dd) a2 v13 h14) 0 (o1 (kg v13.Read.length)) (by kernel_rfl)),qd 9 (drw 4 0 (rf qI [v13])) (litP qI dd 2 (λ_=>rfl) ([v13]:List Ring) 1 rfl),qd 10 (drw 3 1 (rf qI (l7++[v13]))) (apP qI dd l7 ([v13]:List Ring) l7.length 1 2 32 (1<=1) (kg _) rfl rfl (λ_=>rfl) (zP g15))] [0,1,0,4,0,28,60,0,252,508,1023,2047,4095] 4 [15] [] [2,3] [(2,bx 25 [.own 3 1 2 (l7.length+1),.emp]),(3,ro 1 45 2 (l7.length+1) (rf qI (l7++[v13])))] (q_vv [] 5 [6] [(6,vi (w64 (x6+1)))] ?_)
   exact q_hl (VZ a1 a2 (w64 (x6+1)) (l7++[v13]) (l7.length+1)) (ih (w64 (x6+1)) (l7++[v13]) (l7.length+1) _ (zX rfl rfl) hm)
  ·refine q_ex 0 ?_;obtain rfl:=oi hm;exact q_l0
theorem NX (a1:Scan) (a2:Int) (r:Scan) (hm:UT a1 a2=some r):CtX Tryz.prog globs 34 0 0 [.agg (qP a1),.one (ci a2)] [] (qHg r) (qHB r):=by
 unfold UT at hm;refine q_E f34 36 λE=>?_;refine s_vn [] 0 ⟨[(1,vi a2),(2,vp 0 0),(4,vp 1 0)],[(0,bx 25 (qP a1)),(1,bx 25 [.emp,.emp])]⟩ (q_sq ?_);obtain⟨v3,h4,hm⟩:=qE hm;refine s_vv [qc 1 [7] 2 (qFb a1 v3 h4)] 2 [] [(9,vb (v3 !=0))] (q_cq hm (λhm=>?_) (λhm=>?_))
 ·refine s_vn [] 2 ⟨[(4,vp 1 0)],[(1,bx 25 (qP a1))]⟩ ?_;obtain rfl:=oi hm;exact q_rt q_rm
 ·refine q_sk (s_vu [] 2 [9] [(5,vp 2 0)] [] [(2,bx 25 [.emp,.emp])] ?_);refine q_sq (s_va 3 [(6,vi 0)] ?_);refine q_fu [.ownB 2 0 3 45 2 (rf qI [])] [] [] [2] [(2,bx 25 [.own 3 0 2 0,.emp]),(3,ro 0 45 2 0 (rf qI []))] o0 ?_;obtain⟨o17,h18,hm⟩:=qE hm;refine qZ (nd f34 244) 0 (by kernel_rfl) FUEL (λo=>EE a1 a2 o) o17 (q_hl (VZ a1 a2 0 ([]:List Ring) 0) (qC0 E a1 a2 FUEL 0 ([]:List Ring) 0 o17 rfl h18)) ?_;obtain⟨v19,h20,hm⟩:=qE hm
  refine s_vu [qc 3 [31,32] 4 (qGd a1.Defects a2 v19 h20)] 4 [1,2] [] [0,2] [(2,bx 25 [.own 3 0 2 o17.length,.own 4 0 7 v19.length]),(4,ro 0 68 7 v19.length (rf qG v19))] (s_vu [] 5 [5] [] [1,2] [(1,bx 25 [.own 3 0 2 o17.length,.own 4 0 7 v19.length])] ?_);refine q_fu [.frz 3] [] [] [1,3] [(1,bx 25 [tl qI dd o17,.own 4 0 7 v19.length])] (o1 (kg o17.length)) (q_fu [.frz 4] [] [] [1,4] [(1,bx 25 [tl qI dd o17,tl qG dd v19])] (o1 (kg v19.length)) ?_);obtain rfl:=oi hm;exact q_rt q_rm
def HE (r:Bool):V:=vb r
def HY (r:Bool):List (Nat×(Nat×O)):=[]
def VI (a1:Ring) (a2:Ring) (x6:Int):St:=
 ⟨[(2,vp 0 0),(3,vp 1 0),(5,vi x6)],[(0,bx 45 (qI a1)),(1,bx 45 (qI a2))]⟩
def EJ :St:=
 ⟨[],[]⟩
def qDF (a1:Ring) (a2:Ring) (x4:Bool):St:=
 ⟨[(2,vp 0 0),(3,vp 1 0),(19,vb x4)],[(0,bx 45 (qI a1)),(1,bx 45 (qI a2))]⟩
theorem qCG (E:Env 0) (a1:Ring) (a2:Ring):∀(n:Nat) (x6:Int) (res:Bool⊕Unit),zV a1 a2 n x6=some res->HL (kx E 38 0) (nd f56 116) (wF 0 (λo=>EJ) (λv st=>RetQ Tryz.prog f56 (HE v) (HY v) .ret st) res) n (VI a1 a2 x6):=by
 intro n
 induction n with
 |zero=>
  intro x6 res hm;cases hm
 |succ n ih=>
  intro x6 res hm;refine qR (q_sq ?_);refine s_va 2 [(24,vb (decide (x6<(a1.Read.length:Int))))] (q_cq hm (λhm=>?_) (λhm=>?_))
  ·refine q_sk (q_sq ?_);refine q_bk 1 ?_;obtain⟨g8,hm⟩:=qJ hm;obtain⟨g9,hm⟩:=qJ hm;refine s_du [qi 3 g8,qi 8 g9] [0,1,0,7,15,0,32,0,224,480,1023] 2 [24] [(37,vb (!((((((a1.Read.getD x6.toNat dd).P).X)==(((a2.Read.getD x6.toNat dd).P).X))&&(((((a1.Read.getD x6.toNat dd).P).Y)==(((a2.Read.getD x6.toNat dd).P).Y))&&true))&&((((a1.Read.getD x6.toNat dd).Ok)==((a2.Read.getD x6.toNat dd).Ok))&&true))))] [] [] (q_cq hm (λhm=>?_) (λhm=>?_))
   ·refine s_vn [] 2 ⟨[(4,vb false)],[]⟩ ?_;obtain rfl:=oi hm;refine q_rt (zC false ?_);exact q_rm
   ·refine q_sk (q_vv [] 2 [5,37] [(5,vi (w64 (x6+1)))] ?_);exact q_hl (VI a1 a2 (w64 (x6+1))) (ih (w64 (x6+1)) _ hm)
  ·refine q_ex 0 ?_;obtain rfl:=oi hm;exact q_l1 ()
theorem qGe (a1:Ring) (a2:Ring) (r:Bool) (hm:JG a1 a2=some r):CtX Tryz.prog globs 56 0 0 [.agg (qI a1),.agg (qI a2)] [] (HE r) (HY r):=by
 unfold JG at hm;refine q_E f56 38 λE=>?_;refine s_vn [] 0 ⟨[(2,vp 0 0),(3,vp 1 0)],[(0,bx 45 (qI a1)),(1,bx 45 (qI a2))]⟩ (q_sq ?_);refine q_jn (qDF a1 a2) (λp=>JU a1 a2 p=some r) ?_ ?_
 ·rintro x4 hm;refine q_cq hm (λhm=>?_) (λhm=>?_)
  ·refine s_vn [] 2 ⟨[(4,vb false)],[]⟩ ?_;obtain rfl:=oi hm;exact q_rt q_rm
  ·refine q_sk (q_sq ?_);refine s_vv [] 2 [19] [(5,vi 0)] ?_;obtain⟨u13,h12,hm⟩:=qE hm;refine zN (nd f56 116) 0 (by kernel_rfl) FUEL (λo=>EJ) (λv st=>RetQ Tryz.prog f56 (HE v) (HY v) .ret st) u13 (q_hl (VI a1 a2 0) (qCG E a1 a2 FUEL 0 u13 h12)) ?_ ?_
   ·rintro v14 rfl st hr;obtain rfl:=oi hm;exact hr
   ·rintro o11 rfl;replace hm:_=some r:=hm;refine s_vn [] 2 ⟨[(4,vb true)],[]⟩ ?_;obtain rfl:=oi hm;exact q_rt q_rm
 ·rcases bif_c hm with⟨b3,hm⟩|⟨b3,hm⟩
  ·exact q_vv [qf 5 b3] 2 [] [(19,vb true)] (q_J (true) hm)
  ·exact q_vv [qf 5 b3] 2 [] [(19,vb ((a1.Read.length:Int) !=(a2.Read.length:Int)))] (q_J ((a1.Read.length:Int) !=(a2.Read.length:Int)) hm)
open Go.Proofs Go.Proofs.Tryz
def MX (r:Bool):V:=vb r
def SA (r:Bool):List (Nat×(Nat×O)):=[]
def GC (a1:List qD) (a2:List qD) (x4:Int):St:=
 ⟨[(0,vc (tl qG dd a1)),(1,vc (tl qG dd a2)),(5,vi x4)],[]⟩
def EK :St:=
 ⟨[],[]⟩
theorem qCM (E:Env 0) (a1:List qD) (a2:List qD):∀(n:Nat) (x4:Int) (res:Bool⊕Unit),zT a1 a2 n x4=some res->HL (kx E 26 0) (nd f57 116) (wF 0 (λo=>EK) (λv st=>RetQ Tryz.prog f57 (MX v) (SA v) .ret st) res) n (GC a1 a2 x4):=by
 intro n
 induction n with
 |zero=>
  intro x4 res hm;cases hm
 |succ n ih=>
  intro x4 res hm;refine qR (q_sq ?_);refine s_va 0 [(14,vb (decide (x4<(a1.length:Int))))] (q_cq hm (λhm=>?_) (λhm=>?_))
  ·refine q_sk (q_sq ?_);refine q_bk 1 ?_;obtain⟨g6,hm⟩:=qJ hm;obtain⟨g7,hm⟩:=qJ hm
   refine s_du [qi 2 g6,qi 6 g7] [0,0,3,7,0,0,48,112,255] 0 [14] [(25,vb (!((((a1.getD x4.toNat dd).Kind)==((a2.getD x4.toNat dd).Kind))&&((((((((a1.getD x4.toNat dd).Box).X).A)==((((a2.getD x4.toNat dd).Box).X).A))&&((((((a1.getD x4.toNat dd).Box).X).B)==((((a2.getD x4.toNat dd).Box).X).B))&&true))&&(((((((a1.getD x4.toNat dd).Box).Y).A)==((((a2.getD x4.toNat dd).Box).Y).A))&&((((((a1.getD x4.toNat dd).Box).Y).B)==((((a2.getD x4.toNat dd).Box).Y).B))&&true))&&(((((((a1.getD x4.toNat dd).Box).Z).A)==((((a2.getD x4.toNat dd).Box).Z).A))&&((((((a1.getD x4.toNat dd).Box).Z).B)==((((a2.getD x4.toNat dd).Box).Z).B))&&true))&&true)))&&true))))] [] [] (q_cq hm (λhm=>?_) (λhm=>?_))
   ·refine s_vn [] 0 ⟨[(4,vb false)],[]⟩ ?_;obtain rfl:=oi hm;refine q_rt (zC false ?_);exact q_rm
   ·refine q_sk (q_vv [] 0 [5,25] [(5,vi (w64 (x4+1)))] ?_);exact q_hl (GC a1 a2 (w64 (x4+1))) (ih (w64 (x4+1)) _ hm)
  ·refine q_ex 0 ?_;obtain rfl:=oi hm;exact q_l1 ()
theorem qGu (a1:List qD) (a2:List qD) (r:Bool) (hm:ZP a1 a2=some r):CtX Tryz.prog globs 57 0 0 [.one (tl qG dd a1),.one (tl qG dd a2)] [] (MX r) (SA r):=by
 unfold ZP at hm;refine q_E f57 26 λE=>?_;refine s_vn [] 0 ⟨[(0,vc (tl qG dd a1)),(1,vc (tl qG dd a2))],[]⟩ (q_sq ?_);refine s_va 0 [(10,vb ((a1.length:Int) !=(a2.length:Int)))] (q_cq hm (λhm=>?_) (λhm=>?_))
 ·refine s_vn [] 0 ⟨[(4,vb false)],[]⟩ ?_;obtain rfl:=oi hm;exact q_rt q_rm
 ·refine q_sk (q_sq ?_);refine s_vv [] 0 [10] [(5,vi 0)] ?_;obtain⟨u11,h10,hm⟩:=qE hm;refine zN (nd f57 116) 0 (by kernel_rfl) FUEL (λo=>EK) (λv st=>RetQ Tryz.prog f57 (MX v) (SA v) .ret st) u11 (q_hl (GC a1 a2 0) (qCM E a1 a2 FUEL 0 u11 h10)) ?_ ?_
  ·rintro v12 rfl st hr;obtain rfl:=oi hm;exact hr
  ·rintro o9 rfl;replace hm:_=some r:=hm;refine s_vn [] 0 ⟨[(4,vb true)],[]⟩ ?_;obtain rfl:=oi hm;exact q_rt q_rm
def WV (r:Bool):V:=vb r
def yI (r:Bool):List (Nat×(Nat×O)):=[]
theorem LV (r:Bool):yM (yI r):=by
 intro i k o h;unfold yI at h;cases h
def UV (a1:Scan) (a2:Scan) (x4:Int):St:=
 ⟨[(2,vp 0 0),(3,vp 1 0),(5,vi x4)],[(0,bx 25 (qP a1)),(1,bx 25 (qP a2))]⟩
def ER (a1:Scan) (a2:Scan):St:=
 ⟨[(2,vp 0 0),(3,vp 1 0)],[(0,bx 25 (qP a1)),(1,bx 25 (qP a2))]⟩
theorem qDb (E:Env 0) (a1:Scan) (a2:Scan):∀(n:Nat) (x4:Int) (res:Bool⊕Unit),wD a1 a2 n x4=some res->HL (kx E 37 0) (nd f23 116) (wF 0 (λo=>ER a1 a2) (λv st=>RetQ Tryz.prog f23 (WV v) (yI v) .ret st) res) n (UV a1 a2 x4):=by
 intro n
 induction n with
 |zero=>
  intro x4 res hm;cases hm
 |succ n ih=>
  intro x4 res hm;refine qR (q_sq ?_);refine s_va 2 [(17,vb (decide (x4<(a1.Rings.length:Int))))] (q_cq hm (λhm=>?_) (λhm=>?_))
  ·refine q_sk (q_sq ?_);refine q_bk 1 ?_;obtain⟨g6,hm⟩:=qJ hm;obtain⟨g7,hm⟩:=qJ hm;obtain⟨v8,h9,hm⟩:=qE hm;refine s_du [qi 3 g6,qi 8 g7,qc 10 [24,29] 2 (qGe (a1.Rings.getD x4.toNat dd) (a2.Rings.getD x4.toNat dd) v8 h9)] [0,1,0,7,15,0,32,0,224,480,1023,2047] 2 [17] [(31,vb (!v8))] [] [] (q_cq hm (λhm=>?_) (λhm=>?_))
   ·refine s_vn [] 2 ⟨[(4,vb false)],[]⟩ ?_;obtain rfl:=oi hm;refine q_rt (zC false ?_);exact q_rm
   ·refine q_sk (q_vv [] 2 [5,31] [(5,vi (w64 (x4+1)))] ?_);exact q_hl (UV a1 a2 (w64 (x4+1))) (ih (w64 (x4+1)) _ hm)
  ·refine q_ex 0 ?_;obtain rfl:=oi hm;exact q_l1 ()
theorem YH (a1:Scan) (a2:Scan) (r:Bool) (hm:ZJ a1 a2=some r):CtX Tryz.prog globs 23 0 0 [.agg (qP a1),.agg (qP a2)] [] (WV r) (yI r):=by
 unfold ZJ at hm;refine q_E f23 37 λE=>?_;refine s_vn [] 0 ⟨[(2,vp 0 0),(3,vp 1 0)],[(0,bx 25 (qP a1)),(1,bx 25 (qP a2))]⟩ (q_sq ?_);refine s_va 2 [(12,vb ((a1.Rings.length:Int) !=(a2.Rings.length:Int)))] (q_cq hm (λhm=>?_) (λhm=>?_))
 ·refine s_vn [] 2 ⟨[(4,vb false)],[]⟩ ?_;obtain rfl:=oi hm;exact q_rt q_rm
 ·refine q_sk (q_sq ?_);refine s_vv [] 2 [12] [(5,vi 0)] ?_;obtain⟨u13,h12,hm⟩:=qE hm;refine zN (nd f23 116) 0 (by kernel_rfl) FUEL (λo=>ER a1 a2) (λv st=>RetQ Tryz.prog f23 (WV v) (yI v) .ret st) u13 (q_hl (UV a1 a2 0) (qDb E a1 a2 FUEL 0 u13 h12)) ?_ ?_
  ·rintro v14 rfl st hr;obtain rfl:=oi hm;exact hr
  ·rintro o11 rfl;replace hm:_=some r:=hm;obtain⟨v15,h16,hm⟩:=qE hm;refine s_vn [qc 4 [33,35] 2 (qGu a1.Defects a2.Defects v15 h16)] 2 ⟨[(4,vb v15)],[]⟩ ?_;obtain rfl:=oi hm;exact q_rt q_rm
end Saw
end Go.SL

import Derived.Test.YthbamnkheinbgaaGreatDoorSBase
import Derived.Test.YthbamnkheinbgaaGreatDoorSFa6
set_option linter.unusedVariables false
set_option linter.unusedSimpArgs false
namespace Go.SL
namespace Saw
open Go.Proofs Go.Proofs.Tryz
set_option maxHeartbeats 4000000
set_option maxRecDepth 100000
def qCW (r:Bool):V:=vb r
def qDu (r:Bool):List (Nat×(Nat×O)):=[]
def qAs (x4:Bool):St:=
 ⟨[(2,vb x4)],[]⟩
theorem qCd (a1:Box) (r:Bool) (hm:XI a1=some r):CtX Tryz.prog globs 87 0 0 [.agg (DN a1)] [] (qCW r) (qDu r):=by
 unfold XI at hm;refine q_E f87 28 λE=>?_;refine s_vn [] 0 ⟨[(1,vp 0 0)],[(0,bx 66 (DN a1))]⟩ (q_jn (qAs) (λp=>QU p=some r) ?_ ?_)
 ·rintro x4 hm;obtain rfl:=oi hm;exact q_rt q_rm
 ·rcases bif_c hm with⟨b2,hm⟩|⟨b2,hm⟩
  ·exact q_vn [qf 7 b2] 1 ⟨[(2,vb true)],[]⟩ (q_J (true) hm)
  ·rcases bif_c hm with⟨b3,hm⟩|⟨b3,hm⟩
   ·exact q_vn [qf 7 b2,qf 16 b3] 1 ⟨[(2,vb true)],[]⟩ (q_J (true) hm)
   ·exact q_vn [qf 7 b2,qf 16 b3] 1 ⟨[(2,vb (decide (a1.Z.A≥a1.Z.B)))],[]⟩ (q_J (decide (a1.Z.A≥a1.Z.B)) hm)
def qFZ (r:Bool):V:=vb r
def qGa (r:Bool):List (Nat×(Nat×O)):=[]
def qDe (x5:Bool):St:=
 ⟨[(6,vb x5)],[]⟩
theorem WR (a1:Span) (a2:Int) (a3:Int) (r:Bool) (hm:PB a1 a2 a3=some r):CtX Tryz.prog globs 143 0 0 [.agg (qH a1),.one (ci a2),.one (ci a3)] [] (qFZ r) (qGa r):=by
 unfold PB at hm;refine q_E f143 17 λE=>?_;refine s_vn [] 0 ⟨[(1,vi a2),(2,vi a3),(3,vp 0 0)],[(0,bx 64 (qH a1))]⟩ (q_jn (qDe) (λp=>UR p=some r) ?_ ?_)
 ·rintro x5 hm;obtain rfl:=oi hm;exact q_rt q_rm
 ·rcases bif_c hm with⟨b4,hm⟩|⟨b4,hm⟩
  ·exact q_vn [qf 4 b4] 1 ⟨[(6,vb (decide (a1.B<=a3)))],[]⟩ (q_J (decide (a1.B<=a3)) hm)
  ·exact q_vn [qf 4 b4] 1 ⟨[(6,vb false)],[]⟩ (q_J (false) hm)
def qCm (r:Bool):V:=vb r
def qCl (r:Bool):List (Nat×(Nat×O)):=[]
def OF (x10:Bool):St:=
 ⟨[(2,vb x10)],[]⟩
theorem qA9 (a1:Box) (r:Bool) (hm:JQ a1=some r):CtX Tryz.prog globs 88 0 0 [.agg (DN a1)] [] (qCm r) (qCl r):=by
 unfold JQ at hm;refine q_E f88 16 λE=>?_;refine s_vn [] 0 ⟨[(1,vp 0 0)],[(0,bx 66 (DN a1))]⟩ (q_jn (OF) (λp=>QF p=some r) ?_ ?_)
 ·rintro x10 hm;obtain rfl:=oi hm;exact q_rt q_rm
 ·obtain⟨v2,h3,hm⟩:=qC hm;rcases bif_c hm with⟨b4,hm⟩|⟨b4,hm⟩
  ·obtain⟨v5,h6,hm⟩:=qC hm;rcases bif_c hm with⟨b7,hm⟩|⟨b7,hm⟩
   ·obtain⟨v8,h9,hm⟩:=qC hm;exact q_vn [qk 2 [4] 1 ⟨[(4,va (qH a1.X))],[]⟩ (WR a1.X (-600) 600 v2 h3),qf 3 b4,qk 6 [6,8] 1 ⟨[(6,vb true),(8,va (qH a1.Y))],[]⟩ (WR a1.Y (-600) 600 v5 h6),qf 8 b7,qk 11 [11,13] 1 ⟨[(11,vb true),(13,va (qH a1.Z))],[]⟩ (WR a1.Z 0 20000 v8 h9)] 1 ⟨[(2,vb v8)],[]⟩ (q_J (v8) hm)
   ·exact q_vn [qk 2 [4] 1 ⟨[(4,va (qH a1.X))],[]⟩ (WR a1.X (-600) 600 v2 h3),qf 3 b4,qk 6 [6,8] 1 ⟨[(6,vb true),(8,va (qH a1.Y))],[]⟩ (WR a1.Y (-600) 600 v5 h6),qf 8 b7] 1 ⟨[(2,vb false)],[]⟩ (q_J (false) hm)
  ·exact q_vn [qk 2 [4] 1 ⟨[(4,va (qH a1.X))],[]⟩ (WR a1.X (-600) 600 v2 h3),qf 3 b4] 1 ⟨[(2,vb false)],[]⟩ (q_J (false) hm)
open Go.Proofs Go.Proofs.Tryz
def VZ (r:Int):V:=vi r
def GH (r:Int):List (Nat×(Nat×O)):=[]
def CT (a1:List qK) (x3:Int) (x7:Bool):St:=
 ⟨[(0,vc (tl qN dd a1)),(3,vi x3),(13,vb x7)],[]⟩
def PD (a1:List qK) (x3:Int):St:=
 ⟨[(0,vc (tl qN dd a1)),(3,vi x3)],[]⟩
def NB :St:=
 ⟨[],[]⟩
theorem OL (E:Env 0) (a1:List qK):∀(n:Nat) (x3:Int) (res:Int⊕Unit),zZ a1 n x3=some res->HL (kx E 43 0) (nd f41 116) (wE 0 (λo=>NB) (λv st=>RetQ Tryz.prog f41 (VZ v) (GH v) .ret st) res) n (PD a1 x3):=by
 intro n
 induction n with
 |zero=>
  intro x3 res hm;cases hm
 |succ n ih=>
  intro x3 res hm;refine qR (q_sq ?_);refine s_va 0 [(10,vb (decide (x3<(a1.length:Int))))] (q_cq hm (λhm=>?_) (λhm=>?_))
  ·refine q_sk (q_sq ?_);refine q_bk 1 (q_bk 2 ?_);refine q_jn (CT a1 x3) (λp=>YN a1 x3 (zZ a1 n) p=some res) ?_ ?_
   ·rintro x7 hm;refine q_cq hm (λhm=>?_) (λhm=>?_)
    ·refine s_vn [] 0 ⟨[(2,vi 10)],[]⟩ ?_;obtain rfl:=oi hm;refine q_rt (zA 10 ?_);exact q_rm
    ·obtain⟨g9,hm⟩:=qI hm;obtain⟨v10,h11,hm⟩:=qC hm;refine s_vv [qi 2 g9,qc 5 [33] 0 (qCd ((a1.getD x3.toNat dd).Box) v10 h11)] 0 [13] [(28,vb v10)] (q_cq hm (λhm=>?_) (λhm=>?_))
     ·refine s_vn [] 0 ⟨[(2,vi 19)],[]⟩ ?_;obtain rfl:=oi hm;refine q_rt (zA 19 ?_);exact q_rm
     ·obtain⟨v13,h14,hm⟩:=qC hm;refine s_vv [qi 2 g9,qc 5 [40] 0 (qA9 ((a1.getD x3.toNat dd).Box) v13 h14)] 0 [28] [(35,vb (!v13))] (q_cq hm (λhm=>?_) (λhm=>?_))
      ·refine s_vn [] 0 ⟨[(2,vi 9)],[]⟩ ?_;obtain rfl:=oi hm;refine q_rt (zA 9 ?_);exact q_rm
      ·refine q_sk (q_vv [] 0 [3,35] [(3,vi (w64 (x3+1)))] ?_);exact q_hl (PD a1 (w64 (x3+1))) (ih (w64 (x3+1)) _ hm)
   ·obtain⟨g5,hm⟩:=qI hm;rcases bif_c hm with⟨b6,hm⟩|⟨b6,hm⟩
    ·exact q_vv [qi 2 g5,qf 6 b6] 0 [10] [(13,vb true)] (q_J (true) hm)
    ·exact q_vv [qi 2 g5,qf 6 b6,qi 9 g5] 0 [10] [(13,vb (decide (((a1.getD x3.toNat dd).Kind)>6)))] (q_J (decide (((a1.getD x3.toNat dd).Kind)>6)) hm)
  ·refine q_ex 0 ?_;obtain rfl:=oi hm;exact q_l1 ()
theorem qCi (a1:List qK) (r:Int) (hm:XQ a1=some r):CtX Tryz.prog globs 41 0 0 [.one (tl qN dd a1)] [] (VZ r) (GH r):=by
 unfold XQ at hm;refine q_E f41 43 λE=>?_;refine s_vn [] 0 ⟨[(0,vc (tl qN dd a1))],[]⟩ (q_sq ?_);refine s_va 0 [(6,vb (decide ((a1.length:Int)>64)))] (q_cq hm (λhm=>?_) (λhm=>?_))
 ·refine s_vn [] 0 ⟨[(2,vi 4)],[]⟩ ?_;obtain rfl:=oi hm;exact q_rt q_rm
 ·refine q_sk (q_sq ?_);refine s_vv [] 0 [6] [(3,vi 0)] ?_;obtain⟨u18,h17,hm⟩:=qC hm;refine zI (nd f41 116) 0 (by kernel_rfl) FUEL (λo=>NB) (λv st=>RetQ Tryz.prog f41 (VZ v) (GH v) .ret st) u18 (q_hl (PD a1 0) (OL E a1 FUEL 0 u18 h17)) ?_ ?_
  ·rintro v19 rfl st hr;obtain rfl:=oi hm;exact hr
  ·rintro o16 rfl;replace hm:_=some r:=hm;refine s_vn [] 0 ⟨[(2,vi 0)],[]⟩ ?_;obtain rfl:=oi hm;exact q_rt q_rm
def WD (r:Int):V:=vi r
def WI (r:Int):List (Nat×(Nat×O)):=[]
def qAj (a1:Scan) (x5:Int) (x15:Bool):St:=
 ⟨[(1,vp 0 0),(4,vi x5),(5,vp 1 0),(50,vb x15)],[(0,bx 25 (qT a1)),(1,bx 45 (qM (a1.Rings.getD x5.toNat dd)))]⟩
def KL (a1:Scan) (x4:Int) (x5:Int):St:=
 ⟨[(1,vp 0 0),(3,vi x4),(4,vi x5)],[(0,bx 25 (qT a1))]⟩
def BZ (a1:Scan) (x19:Int):St:=
 ⟨[(1,vp 0 0),(3,vi x19)],[(0,bx 25 (qT a1))]⟩
def KM (a1:Scan) (o20:Int) (x27:Int):St:=
 ⟨[(1,vp 0 0),(3,vi o20),(8,vi x27)],[(0,bx 25 (qT a1))]⟩
def BV :St:=
 ⟨[],[]⟩
theorem OT (E:Env 0) (a1:Scan):∀(n:Nat) (x4:Int) (x5:Int) (res:Int⊕Int),zC a1 n x4 x5=some res->HL (kx E 86 0) (nd f14 500) (wE 0 (λo=>BZ a1 o) (λv st=>RetQ Tryz.prog f14 (WD v) (WI v) .ret st) res) n (KL a1 x4 x5):=by
 intro n
 induction n with
 |zero=>
  intro x4 x5 res hm;cases hm
 |succ n ih=>
  intro x4 x5 res hm;refine qR (q_sq ?_);refine s_va 1 [(21,vb (decide (x5<(a1.Rings.length:Int))))] (q_cq hm (λhm=>?_) (λhm=>?_))
  ·refine q_sk (q_sq ?_);refine q_bk 1 ?_;obtain⟨g7,hm⟩:=qI hm;refine s_vu [qi 3 g7] 1 [21] [(5,vp 1 0)] [] [(1,bx 45 (qM (a1.Rings.getD x5.toNat dd)))] (q_sq ?_);obtain⟨v8,h9,hm⟩:=qC hm;refine s_vv [qc 1 [29] 2 (qBR (a1.Rings.getD x5.toNat dd) v8 h9)] 2 [] [(6,vi v8)] (s_va 2 [(32,vb (v8 !=0))] ?_);refine q_cq hm (λhm=>?_) (λhm=>?_)
   ·refine s_vn [] 2 ⟨[(2,vi v8)],[]⟩ ?_;obtain rfl:=oi hm;refine q_rt (zA v8 ?_);exact q_rm
   ·refine q_sk (q_sq ?_);refine q_jn (qAj a1 x5) (λp=>jD a1 x5 (zC a1 n) p=some res) ?_ ?_
    ·rintro x15 hm;refine q_cq hm (λhm=>?_) (λhm=>?_)
     ·refine s_vn [] 2 ⟨[(2,vi 11)],[]⟩ ?_;obtain rfl:=oi hm;refine q_rt (zA 11 ?_);exact q_rm
     ·refine q_sk (q_sq ?_);obtain⟨g17,hm⟩:=qI hm;refine s_du [qi 5 g17] [0,1,3,0,8,24,56,120,248,511] 2 [50] [(60,vb (((((a1.Rings.getD x5.toNat dd).Read).length:Nat):Int) !=((((a1.Rings.getD (0:Int).toNat dd).Read).length:Nat):Int)))] [] [] (q_cq hm (λhm=>?_) (λhm=>?_))
      ·refine s_vn [] 2 ⟨[(2,vi 19)],[]⟩ ?_;obtain rfl:=oi hm;refine q_rt (zA 19 ?_);exact q_rm
      ·refine q_sk (q_vu [] 2 [5,60] [(3,vi ((a1.Rings.getD x5.toNat dd).Z))] [1] [] ?_);exact q_vv [] 2 [4] [(4,vi (w64 (x5+1)))] (q_hl (KL a1 ((a1.Rings.getD x5.toNat dd).Z) (w64 (x5+1))) (ih ((a1.Rings.getD x5.toNat dd).Z) (w64 (x5+1)) _ hm))
    ·rcases bif_c hm with⟨b11,hm⟩|⟨b11,hm⟩
     ·rcases bif_c hm with⟨b12,hm⟩|⟨b12,hm⟩
      ·exact q_vv [qf 2 b11,qf 7 b12] 2 [3,6,32] [(50,vb true)] (q_J (true) hm)
      ·rcases bif_c hm with⟨b13,hm⟩|⟨b13,hm⟩
       ·exact q_vv [qf 2 b11,qf 7 b12,qf 10 b13] 2 [3,6,32] [(50,vb (decide (((a1.Rings.getD x5.toNat dd).Z)<=x4)))] (q_J (decide (((a1.Rings.getD x5.toNat dd).Z)<=x4)) hm)
       ·exact q_vv [qf 2 b11,qf 7 b12,qf 10 b13] 2 [3,6,32] [(50,vb false)] (q_J (false) hm)
     ·rcases bif_c hm with⟨b14,hm⟩|⟨b14,hm⟩
      ·exact q_vv [qf 2 b11,qf 10 b14] 2 [3,6,32] [(50,vb (decide (((a1.Rings.getD x5.toNat dd).Z)<=x4)))] (q_J (decide (((a1.Rings.getD x5.toNat dd).Z)<=x4)) hm)
      ·exact q_vv [qf 2 b11,qf 10 b14] 2 [3,6,32] [(50,vb false)] (q_J (false) hm)
  ·refine q_ex 0 ?_;obtain rfl:=oi hm;exact q_l1 x4
theorem CH (E:Env 0) (a1:Scan) (o20:Int):∀(n:Nat) (x27:Int) (res:Int⊕Unit),jX a1 o20 n x27=some res->HL (kx E 86 0) (nd f14 2036) (wE 2 (λo=>BV) (λv st=>RetQ Tryz.prog f14 (WD v) (WI v) .ret st) res) n (KM a1 o20 x27):=by
 intro n
 induction n with
 |zero=>
  intro x27 res hm;cases hm
 |succ n ih=>
  intro x27 res hm;refine qR (q_sq ?_);refine s_va 1 [(73,vb (decide (x27<(a1.Defects.length:Int))))] (q_cq hm (λhm=>?_) (λhm=>?_))
  ·refine q_sk (q_sq ?_);refine q_bk 3 ?_;obtain⟨g29,hm⟩:=qI hm;refine s_vv [qi 3 g29] 1 [73] [(85,vb (decide (((((a1.Defects.getD x27.toNat dd).Box).Z).B)>o20)))] (q_cq hm (λhm=>?_) (λhm=>?_))
   ·refine s_vn [] 1 ⟨[(2,vi 9)],[]⟩ ?_;obtain rfl:=oi hm;refine q_rt (zA 9 ?_);exact q_rm
   ·refine q_sk (q_vv [] 1 [8,85] [(8,vi (w64 (x27+1)))] ?_);exact q_hl (KM a1 o20 (w64 (x27+1))) (ih (w64 (x27+1)) _ hm)
  ·refine q_ex 2 ?_;obtain rfl:=oi hm;exact q_l1 ()
theorem MN (a1:Scan) (r:Int) (hm:XR a1=some r):CtX Tryz.prog globs 14 0 0 [.agg (qT a1)] [] (WD r) (WI r):=by
 unfold XR at hm;refine q_E f14 86 λE=>?_;refine s_vn [] 0 ⟨[(1,vp 0 0)],[(0,bx 25 (qT a1))]⟩ (q_sq ?_);refine s_va 1 [(12,vb (decide ((a1.Rings.length:Int)<2)))] (q_cq hm (λhm=>?_) (λhm=>?_))
 ·refine s_vn [] 1 ⟨[(2,vi 3)],[]⟩ ?_;obtain rfl:=oi hm;exact q_rt q_rm
 ·refine q_sk (q_sq ?_);refine s_vv [] 1 [12] [(16,vb (decide ((a1.Rings.length:Int)>24)))] (q_cq hm (λhm=>?_) (λhm=>?_))
  ·refine s_vn [] 1 ⟨[(2,vi 4)],[]⟩ ?_;obtain rfl:=oi hm;exact q_rt q_rm
  ·refine q_sk (s_vv [] 1 [16] [(3,vi 0)] ?_);refine q_sq (s_va 1 [(4,vi 0)] ?_);obtain⟨u22,h21,hm⟩:=qC hm;refine zI (nd f14 500) 0 (by kernel_rfl) FUEL (λo=>BZ a1 o) (λv st=>RetQ Tryz.prog f14 (WD v) (WI v) .ret st) u22 (q_hl (KL a1 0 0) (OT E a1 FUEL 0 0 u22 h21)) ?_ ?_
   ·rintro v23 rfl st hr;obtain rfl:=oi hm;exact hr
   ·rintro o20 rfl;replace hm:_=some r:=hm;refine q_sq ?_;obtain⟨v24,h25,hm⟩:=qC hm;refine s_vv [qc 2 [64] 1 (qCi a1.Defects v24 h25)] 1 [] [(7,vi v24)] (s_va 1 [(67,vb (v24 !=0))] ?_);refine q_cq hm (λhm=>?_) (λhm=>?_)
    ·refine s_vn [] 1 ⟨[(2,vi v24)],[]⟩ ?_;obtain rfl:=oi hm;exact q_rt q_rm
    ·refine q_sk (q_sq ?_);refine s_vv [] 1 [7,67] [(8,vi 0)] ?_;obtain⟨u33,h32,hm⟩:=qC hm;refine zI (nd f14 2036) 2 (by kernel_rfl) FUEL (λo=>BV) (λv st=>RetQ Tryz.prog f14 (WD v) (WI v) .ret st) u33 (q_hl (KM a1 o20 0) (CH E a1 o20 FUEL 0 u33 h32)) ?_ ?_
     ·rintro v34 rfl st hr;obtain rfl:=oi hm;exact hr
     ·rintro o31 rfl;replace hm:_=some r:=hm;refine s_vn [] 1 ⟨[(2,vi 0)],[]⟩ ?_;obtain rfl:=oi hm;exact q_rt q_rm
end Saw
end Go.SL

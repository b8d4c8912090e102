import Derived.Test.YthbamnkheinbgaaGreatDoorSBase
import Derived.Test.YthbamnkheinbgaaGreatDoorSFa1
import Derived.Test.YthbamnkheinbgaaGreatDoorAwW
set_option linter.unusedVariables false
set_option linter.unusedSimpArgs false
namespace Go.SL
namespace Saw
open Go.Proofs Go.Proofs.Tryz
set_option maxHeartbeats 4000000
set_option maxRecDepth 100000
def qJM (r:(List qA)):V:=vo 0 0 2 r.length
def qKX (r:(List qA)):List (Nat×(Nat×O)):=[(0,ro 0 71 2 r.length (rf qB r))]
def BX (a1:Ring) (l2:List qA) (l2n:Nat) (x3:Int):St:=
 ⟨[(1,vp 0 0),(3,vo 1 0 2 l2n),(4,vi x3)],[(0,bx 45 (qN a1)),(1,ro 0 71 2 l2n (rf qB l2))]⟩
def OX (l7:List qA):St:=
 ⟨[(3,vo 1 0 2 l7.length)],[(1,ro 0 71 2 l7.length (rf qB l7))]⟩
theorem qFw (E:Env 0) (a1:Ring):∀(n:Nat) (l2:List qA) (l2n:Nat) (x3:Int) (res:(List qA)),l2.length=l2n->jI a1 n l2 x3=some res->HL (kx E 23 0) (nd f29 116) (zW 0 OX res) n (BX a1 l2 l2n x3):=by
 intro n
 induction n with
 |zero=>
  intro l2 l2n x3 res hl0 hm;cases hm
 |succ n ih=>
  intro l2 l2n x3 res hl0 hm;subst hl0;refine qU (q_sq ?_);refine s_va 2 [(9,vb (decide (x3<(a1.Read.length:Int))))] (q_cq hm (λhm=>?_) (λhm=>?_))
  ·refine q_sk (q_sq ?_);refine q_bk 1 ?_;obtain⟨g5,hm⟩:=qH hm;obtain⟨g6,hm⟩:=qH hm;refine q_vu [qi 4 g5,qd 7 (drw 2 0 (rf qB [(a1.Read.getD x3.toNat dd).P])) (litP qB dd 2 (λ_=>rfl) ([(a1.Read.getD x3.toNat dd).P]:List qA) 1 rfl),qd 8 (drw 1 1 (rf qB (l2++[(a1.Read.getD x3.toNat dd).P]))) (apP qB dd l2 ([(a1.Read.getD x3.toNat dd).P]:List qA) l2.length 1 2 16 (1<=1) (kr _) rfl rfl (λ_=>rfl) (wE g6))] 2 [3,9] [(3,vo 1 1 2 (l2.length+1))] [1] [(1,ro 1 71 2 (l2.length+1) (rf qB (l2++[(a1.Read.getD x3.toNat dd).P])))] (q_vv [] 3 [4] [(4,vi (w64 (x3+1)))] ?_)
   exact q_hl (BX a1 (l2++[(a1.Read.getD x3.toNat dd).P]) (l2.length+1) (w64 (x3+1))) (ih (l2++[(a1.Read.getD x3.toNat dd).P]) (l2.length+1) (w64 (x3+1)) _ (wS rfl rfl) hm)
  ·refine q_ex 0 ?_;obtain rfl:=oi hm;exact q_l0
theorem EJ (a1:Ring) (r:(List qA)) (hm:UC a1=some r):CtX Tryz.prog globs 29 0 0 [.agg (qN a1)] [] (qJM r) (qKX r):=by
 unfold UC at hm;refine q_E f29 23 λE=>?_;refine s_vn [] 0 ⟨[(1,vp 0 0)],[(0,bx 45 (qN a1))]⟩ (s_va 1 [(3,vc (.emp))] ?_);refine q_sq (s_va 1 [(4,vi 0)] ?_);refine q_fo 3 1 71 2 qB ?_;obtain⟨o8,h9,hm⟩:=qE hm;refine zU (nd f29 116) 0 (by kernel_rfl) FUEL OX o8 (q_hl (BX a1 ([]:List qA) 0 0) (qFw E a1 FUEL ([]:List qA) 0 0 o8 rfl h9)) ?_;obtain⟨v10,h11,hm⟩:=qE hm
 refine s_vn [qd 1 (dex (cen [] [] 2 0 (qEL v10) (MU v10) [21] [1])) (zI (K:=(kx E 23 0)) (b:=false) ⟨[(21,vo 1 0 2 o8.length)],[(1,ro 0 71 2 o8.length (rf qB o8))]⟩ (opAt (rg f29 30) 1) [] [] 2 (o1 (kr o8.length)) rfl (qDc o8 v10 h11) (.inr ⟨(by kernel_rfl),qLN v10⟩) (by kernel_rfl))] 2 ⟨[(2,vo 2 0 2 v10.length)],[(2,ro 0 71 2 v10.length (rf qB v10))]⟩ ?_;obtain rfl:=oi hm;exact q_sw 2 0 (q_rt q_rm)
def qAw (r:Bool):V:=vb r
def qAy (r:Bool):List (Nat×(Nat×O)):=[]
def LI (a1:Scan) (x5:Int):St:=
 ⟨[(1,vp 0 0),(3,vi x5)],[(0,bx 25 (qZ a1))]⟩
def qBa :St:=
 ⟨[],[]⟩
def qHy (a1:Scan) (x3:Bool):St:=
 ⟨[(1,vp 0 0),(13,vb x3)],[(0,bx 25 (qZ a1))]⟩
theorem qFX (E:Env 0) (a1:Scan):∀(n:Nat) (x5:Int) (res:Bool⊕Unit),WK a1 n x5=some res->HL (kx E 29 0) (nd f12 116) (jJ 0 (λo=>qBa) (λv st=>RetQ Tryz.prog f12 (qAw v) (qAy v) .ret st) res) n (LI a1 x5):=by
 intro n
 induction n with
 |zero=>
  intro x5 res hm;cases hm
 |succ n ih=>
  intro x5 res hm;refine qU (q_sq ?_);refine s_va 1 [(18,vb (decide (x5<(a1.Rings.length:Int))))] (q_cq hm (λhm=>?_) (λhm=>?_))
  ·refine q_sk (q_sq ?_);refine q_bk 1 ?_;obtain⟨g7,hm⟩:=qH hm;refine s_vv [qi 3 g7] 1 [18] [(28,vb (decide (((((a1.Rings.getD x5.toNat dd).Read).length:Nat):Int)>60)))] (q_cq hm (λhm=>?_) (λhm=>?_))
   ·refine s_vn [] 1 ⟨[(2,vb false)],[]⟩ ?_;obtain rfl:=oi hm;refine q_rt (zR false ?_);exact q_rm
   ·refine q_sk (q_vv [] 1 [3,28] [(3,vi (w64 (x5+1)))] ?_);exact q_hl (LI a1 (w64 (x5+1))) (ih (w64 (x5+1)) _ hm)
  ·refine q_ex 0 ?_;obtain rfl:=oi hm;exact q_l1 ()
theorem qC2 (a1:Scan) (r:Bool) (hm:SM a1=some r):CtX Tryz.prog globs 12 0 0 [.agg (qZ a1)] [] (qAw r) (qAy r):=by
 unfold SM at hm;refine q_E f12 29 λE=>?_;refine s_vn [] 0 ⟨[(1,vp 0 0)],[(0,bx 25 (qZ a1))]⟩ (q_sq ?_);refine q_jn (qHy a1) (λp=>NY a1 p=some r) ?_ ?_
 ·rintro x3 hm;refine q_cq hm (λhm=>?_) (λhm=>?_)
  ·refine s_vn [] 1 ⟨[(2,vb false)],[]⟩ ?_;obtain rfl:=oi hm;exact q_rt q_rm
  ·refine q_sk (q_sq ?_);refine s_vv [] 1 [13] [(3,vi 0)] ?_;obtain⟨u11,h10,hm⟩:=qE hm;refine zZ (nd f12 116) 0 (by kernel_rfl) FUEL (λo=>qBa) (λv st=>RetQ Tryz.prog f12 (qAw v) (qAy v) .ret st) u11 (q_hl (LI a1 0) (qFX E a1 FUEL 0 u11 h10)) ?_ ?_
   ·rintro v12 rfl st hr;obtain rfl:=oi hm;exact hr
   ·rintro o9 rfl;replace hm:_=some r:=hm;refine s_vn [] 1 ⟨[(2,vb true)],[]⟩ ?_;obtain rfl:=oi hm;exact q_rt q_rm
 ·rcases bif_c hm with⟨b2,hm⟩|⟨b2,hm⟩
  ·exact q_vv [qf 4 b2] 1 [] [(13,vb true)] (q_J (true) hm)
  ·exact q_vv [qf 4 b2] 1 [] [(13,vb (decide ((a1.Defects.length:Int)>100)))] (q_J (decide ((a1.Defects.length:Int)>100)) hm)
open Go.Proofs
def qI9 (r:Bool):V:=vb r
def qIW (r:Bool):List (Nat×(Nat×O)):=[]
theorem LQ (r:Bool) (hm:law15_awake=some r):CtX Tryz.prog globs 15 0 0 [] [] (qI9 r) (qIW r):=by
 unfold law15_awake at hm;obtain rfl:=oi hm;exact qIP rfl rfl λw A hg=>aw_run w A hg
end Saw
end Go.SL

import Derived.Test.YtpommeghjpbepaaEBase
set_option linter.unusedVariables false
set_option linter.unusedSimpArgs false
namespace Go.SL
namespace Saw
open Go.Proofs Go.Proofs.Try
set_option maxHeartbeats 4000000
set_option maxRecDepth 100000
def qJN (r:Int):V:=vi r
def qKe (r:Int):List (Nat×(Nat×O)):=[]
def qGg (a1:qQ) (x2:Int) (x3:Int) (x5:Bool):St:=
 ⟨[(1,vp 0 0),(3,vi x2),(4,vi 1),(5,vi x3),(16,vb x5)],[(0,bx 37 (qZ a1))]⟩
def MK (a1:qQ) (x2:Int) (x3:Int):St:=
 ⟨[(1,vp 0 0),(3,vi x2),(4,vi 1),(5,vi x3)],[(0,bx 37 (qZ a1))]⟩
def qAm (a1:qQ) (x8:Int):St:=
 ⟨[(1,vp 0 0),(3,vi x8),(4,vi 1)],[(0,bx 37 (qZ a1))]⟩
def MN (a1:qQ) (o9:Int) (x11:Int) (x12:Int):St:=
 ⟨[(1,vp 0 0),(3,vi o9),(4,vi x11),(6,vi x12)],[(0,bx 37 (qZ a1))]⟩
def qAb (a1:qQ) (o9:Int) (x15:Int):St:=
 ⟨[(1,vp 0 0),(3,vi o9),(4,vi x15)],[(0,bx 37 (qZ a1))]⟩
def qGv (a1:qQ) (o16:Int) (x20:Int):St:=
 ⟨[(1,vp 0 0),(4,vi o16),(7,vi x20)],[(0,bx 37 (qZ a1))]⟩
theorem qFt (E:Env 0) (a1:qQ):∀(n:Nat) (x2:Int) (x3:Int) (res:Int),WX a1 n x2 x3=some res->HL (kx E 73 0) (nd f22 116) (jL 0 (λo=>qAm a1 o) res) n (MK a1 x2 x3):=by
 intro n
 induction n with
 |zero=>
  intro x2 x3 res hm;cases hm
 |succ n ih=>
  intro x2 x3 res hm;refine zF (q_sq ?_);refine q_jn (qGg a1 x2 x3) (λp=>GJ a1 x2 x3 (WX a1 n) p=some res) ?_ ?_
  ·rintro x5 hm;refine q_cq hm (λhm=>?_) (λhm=>?_)
   ·refine q_sk (q_sq ?_);refine q_bk 1 ?_;obtain⟨g7,hm⟩:=qT hm;refine q_vv [qi 4 g7] 1 [3,16] [(3,vi (imin 20000 (w64 (x2+(imax 0 (imin 20000 ((a1.Solid.getD x3.toNat du).Len)))))))] (q_vv [] 1 [5] [(5,vi (w64 (x3+1)))] ?_);exact q_hl (MK a1 (imin 20000 (w64 (x2+(imax 0 (imin 20000 ((a1.Solid.getD x3.toNat du).Len)))))) (w64 (x3+1))) (ih (imin 20000 (w64 (x2+(imax 0 (imin 20000 ((a1.Solid.getD x3.toNat du).Len)))))) (w64 (x3+1)) _ hm)
   ·refine q_ex 0 ?_;obtain rfl:=oi hm;exact q_l0
  ·rcases bif_c hm with⟨b4,hm⟩|⟨b4,hm⟩
   ·exact q_vv [qf 5 b4] 1 [] [(16,vb (decide (x3<30)))] (q_J (decide (x3<30)) hm)
   ·exact q_vv [qf 5 b4] 1 [] [(16,vb false)] (q_J (false) hm)
theorem qFj (E:Env 0) (a1:qQ) (o9:Int):∀(n:Nat) (x11:Int) (x12:Int) (res:Int),RB a1 n x11 x12=some res->HL (kx E 73 0) (nd f22 244) (jL 2 (λo=>qAb a1 o9 o) res) n (MN a1 o9 x11 x12):=by
 intro n
 induction n with
 |zero=>
  intro x11 x12 res hm;cases hm
 |succ n ih=>
  intro x11 x12 res hm;refine zF (q_sq ?_);refine s_va 1 [(34,vb (decide (x12<(a1.Products.length:Int))))] (q_cq hm (λhm=>?_) (λhm=>?_))
  ·refine q_sk (q_sq ?_);refine q_bk 3 ?_;obtain⟨g14,hm⟩:=qT hm;refine q_vv [qi 4 g14] 1 [4,34] [(4,vi (imax x11 (imin 10 ((((a1.Products.getD x12.toNat du).Lengths).length:Nat):Int))))] (q_vv [] 1 [6] [(6,vi (w64 (x12+1)))] ?_);exact q_hl (MN a1 o9 (imax x11 (imin 10 ((((a1.Products.getD x12.toNat du).Lengths).length:Nat):Int))) (w64 (x12+1))) (ih (imax x11 (imin 10 ((((a1.Products.getD x12.toNat du).Lengths).length:Nat):Int))) (w64 (x12+1)) _ hm)
  ·refine q_ex 2 ?_;obtain rfl:=oi hm;exact q_l0
theorem qCL (a1:qQ) (r:Int) (hm:NH a1=some r):CtX Try.prog globs 22 0 0 [.agg (qZ a1)] [] (qJN r) (qKe r):=by
 unfold NH at hm;refine q_E f22 73 λE=>?_;refine s_vn [] 0 ⟨[(1,vp 0 0)],[(0,bx 37 (qZ a1))]⟩ (s_va 1 [(3,vi 0),(4,vi 1)] ?_);refine q_sq (s_va 1 [(5,vi 0)] ?_);obtain⟨o9,h10,hm⟩:=qH hm;refine jC (nd f22 116) 0 (by kernel_rfl) FUEL (λo=>qAm a1 o) o9 (q_hl (MK a1 0 0) (qFt E a1 FUEL 0 0 o9 h10)) (q_sq ?_);refine s_va 1 [(6,vi 0)] ?_;obtain⟨o16,h17,hm⟩:=qH hm;refine jC (nd f22 244) 2 (by kernel_rfl) FUEL (λo=>qAb a1 o9 o) o16 (q_hl (MN a1 o9 1 0) (qFj E a1 o9 FUEL 1 0 o16 h17)) (s_va 1 [(7,vi 1)] ?_);refine q_jn (qGv a1 o16) (λp=>LN a1 o16 p=some r) ?_ ?_
 ·rintro x20 hm;refine s_vn [] 1 ⟨[(2,vi (w64 ((w64 ((w64 (x20*o16))*(w64 (1+(imin 30 (a1.Solid.length:Int))))))*(w64 (1+(imin 140 (a1.Pattern.Nodes.length:Int)))))))],[]⟩ ?_;obtain rfl:=oi hm;exact q_rt q_rm
 ·refine s_va 1 [(50,vb (decide (a1.Saw.Step>0)))] (q_cq hm (λhm=>?_) (λhm=>?_))
  ·obtain⟨g19,hm⟩:=qT hm;exact q_vv [qd 4 dN (nz_of g19)] 1 [3,7,50] [(7,vi (w64 (1+(w64 (Int.tdiv o9 a1.Saw.Step)))))] (q_J (w64 (1+(w64 (Int.tdiv o9 a1.Saw.Step)))) hm)
  ·exact q_sk (q_J (1) hm)
end Saw
end Go.SL

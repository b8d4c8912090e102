import Derived.Test.YtpommeghjpbepaaEBase
import Derived.Test.YtpommeghjpbepaaELlaw22Work
set_option linter.unusedVariables false
set_option linter.unusedSimpArgs false
namespace Go.SL
namespace Saw
open Go.Proofs Go.Proofs.Try
set_option maxHeartbeats 4000000
set_option maxRecDepth 100000
def GF (r:Bool):V:=vb r
def GK (r:Bool):List (Nat×(Nat×O)):=[]
def MA (a1:qQ) (x10:Int):St:=
 ⟨[(1,vp 0 0),(3,vi x10)],[(0,bx 37 (qZ a1))]⟩
def OR (a1:qQ):St:=
 ⟨[(1,vp 0 0)],[(0,bx 37 (qZ a1))]⟩
def qFO (a1:qQ) (x18:Int) (x23:Bool):St:=
 ⟨[(1,vp 0 0),(4,vi x18),(83,vb x23)],[(0,bx 37 (qZ a1))]⟩
def LY (a1:qQ) (x18:Int):St:=
 ⟨[(1,vp 0 0),(4,vi x18)],[(0,bx 37 (qZ a1))]⟩
def CH :St:=
 ⟨[],[]⟩
def qFL (a1:qQ) (x8:Bool):St:=
 ⟨[(1,vp 0 0),(32,vb x8)],[(0,bx 37 (qZ a1))]⟩
theorem qEu (E:Env 0) (a1:qQ):∀(n:Nat) (x10:Int) (res:Bool⊕Unit),KG a1 n x10=some res->HL (kx E 84 0) (nd f21 116) (WB 0 (λo=>OR a1) (λv st=>RetQ Try.prog f21 (GF v) (GK v) .ret st) res) n (MA a1 x10):=by
 intro n
 induction n with
 |zero=>
  intro x10 res hm;cases hm
 |succ n ih=>
  intro x10 res hm;refine zF (q_sq ?_);refine s_va 1 [(37,vb (decide (x10<(a1.Solid.length:Int))))] (q_cq hm (λhm=>?_) (λhm=>?_))
  ·refine q_sk (q_sq ?_);refine q_bk 1 ?_;obtain⟨g12,hm⟩:=qT hm;refine s_vv [qi 3 g12] 1 [37] [(48,vb (decide ((((((a1.Solid.getD x10.toNat du).Sec).Rows).length:Nat):Int)>130)))] (q_cq hm (λhm=>?_) (λhm=>?_))
   ·refine s_vn [] 1 ⟨[(2,vb false)],[]⟩ ?_;obtain rfl:=oi hm;refine q_rt (wS false ?_);exact q_rm
   ·refine q_sk (q_vv [] 1 [3,48] [(3,vi (w64 (x10+1)))] ?_);exact q_hl (MA a1 (w64 (x10+1))) (ih (w64 (x10+1)) _ hm)
  ·refine q_ex 0 ?_;obtain rfl:=oi hm;exact q_l1 ()
theorem qEx (E:Env 0) (a1:qQ):∀(n:Nat) (x18:Int) (res:Bool⊕Unit),QT a1 n x18=some res->HL (kx E 84 0) (nd f21 244) (WB 2 (λo=>CH) (λv st=>RetQ Try.prog f21 (GF v) (GK v) .ret st) res) n (LY a1 x18):=by
 intro n
 induction n with
 |zero=>
  intro x18 res hm;cases hm
 |succ n ih=>
  intro x18 res hm;refine zF (q_sq ?_);refine s_va 1 [(53,vb (decide (x18<(a1.Products.length:Int))))] (q_cq hm (λhm=>?_) (λhm=>?_))
  ·refine q_sk (q_sq ?_);refine q_bk 3 (q_jn (qFO a1 x18) (λp=>UN x18 (QT a1 n) p=some res) ?_ ?_)
   ·rintro x23 hm;refine q_cq hm (λhm=>?_) (λhm=>?_)
    ·refine s_vn [] 1 ⟨[(2,vb false)],[]⟩ ?_;obtain rfl:=oi hm;refine q_rt (wS false ?_);exact q_rm
    ·refine q_sk (q_vv [] 1 [4,83] [(4,vi (w64 (x18+1)))] ?_);exact q_hl (LY a1 (w64 (x18+1))) (ih (w64 (x18+1)) _ hm)
   ·obtain⟨g20,hm⟩:=qT hm;rcases bif_c hm with⟨b21,hm⟩|⟨b21,hm⟩
    ·exact q_vv [qi 3 g20,qf 8 b21] 1 [53] [(83,vb true)] (q_J (true) hm)
    ·rcases bif_c hm with⟨b22,hm⟩|⟨b22,hm⟩
     ·exact q_vv [qi 3 g20,qf 8 b21,qi 12 g20,qf 18 b22] 1 [53] [(83,vb true)] (q_J (true) hm)
     ·exact q_vv [qi 3 g20,qf 8 b21,qi 12 g20,qf 18 b22,qi 22 g20] 1 [53] [(83,vb (decide (((((a1.Products.getD x18.toNat du).Name).size:Nat):Int)>100)))] (q_J (decide (((((a1.Products.getD x18.toNat du).Name).size:Nat):Int)>100)) hm)
  ·refine q_ex 2 ?_;obtain rfl:=oi hm;exact q_l1 ()
theorem qBq (a1:qQ) (r:Bool) (hm:LD a1=some r):CtX Try.prog globs 21 0 0 [.agg (qZ a1)] [] (GF r) (GK r):=by
 unfold LD at hm;refine q_E f21 84 λE=>?_;refine s_vn [] 0 ⟨[(1,vp 0 0)],[(0,bx 37 (qZ a1))]⟩ (q_sq ?_);refine q_jn (qFL a1) (λp=>QU a1 p=some r) ?_ ?_
 ·rintro x8 hm;refine q_cq hm (λhm=>?_) (λhm=>?_)
  ·refine s_vn [] 1 ⟨[(2,vb false)],[]⟩ ?_;obtain rfl:=oi hm;exact q_rt q_rm
  ·refine q_sk (q_sq ?_);refine s_vv [] 1 [32] [(3,vi 0)] ?_;obtain⟨u16,h15,hm⟩:=qH hm;refine yA (nd f21 116) 0 (by kernel_rfl) FUEL (λo=>OR a1) (λv st=>RetQ Try.prog f21 (GF v) (GK v) .ret st) u16 (q_hl (MA a1 0) (qEu E a1 FUEL 0 u16 h15)) ?_ ?_
   ·rintro v17 rfl st hr;obtain rfl:=oi hm;exact hr
   ·rintro o14 rfl;replace hm:_=some r:=hm;refine q_sq (s_va 1 [(4,vi 0)] ?_);obtain⟨u27,h26,hm⟩:=qH hm;refine yA (nd f21 244) 2 (by kernel_rfl) FUEL (λo=>CH) (λv st=>RetQ Try.prog f21 (GF v) (GK v) .ret st) u27 (q_hl (LY a1 0) (qEx E a1 FUEL 0 u27 h26)) ?_ ?_
    ·rintro v28 rfl st hr;obtain rfl:=oi hm;exact hr
    ·rintro o25 rfl;replace hm:_=some r:=hm;refine s_vn [] 1 ⟨[(2,vb true)],[]⟩ ?_;obtain rfl:=oi hm;exact q_rt q_rm
 ·rcases bif_c hm with⟨b2,hm⟩|⟨b2,hm⟩
  ·exact q_vv [qf 4 b2] 1 [] [(32,vb true)] (q_J (true) hm)
  ·rcases bif_c hm with⟨b3,hm⟩|⟨b3,hm⟩
   ·exact q_vv [qf 4 b2,qf 10 b3] 1 [] [(32,vb true)] (q_J (true) hm)
   ·rcases bif_c hm with⟨b4,hm⟩|⟨b4,hm⟩
    ·exact q_vv [qf 4 b2,qf 10 b3,qf 16 b4] 1 [] [(32,vb true)] (q_J (true) hm)
    ·rcases bif_c hm with⟨b5,hm⟩|⟨b5,hm⟩
     ·exact q_vv [qf 4 b2,qf 10 b3,qf 16 b4,qf 23 b5] 1 [] [(32,vb true)] (q_J (true) hm)
     ·obtain⟨v6,h7,hm⟩:=qH hm;exact q_vv [qf 4 b2,qf 10 b3,qf 16 b4,qf 23 b5,qk 25 [28,29] 1 ⟨[(28,vb false),(29,va (qZ a1))],[]⟩ (qCL a1 v6 h7)] 1 [] [(32,vb (decide (v6>200000)))] (q_J (decide (v6>200000)) hm)
end Saw
end Go.SL

import Derived.Test.YtigmogcdifllhaaGreatDoorEBase
import Derived.Test.YtigmogcdifllhaaGreatDoorTPs
import Derived.Test.YtigmogcdifllhaaGreatDoorEFa13
set_option linter.unusedVariables false
set_option linter.unusedSimpArgs false
namespace Go.SL
namespace Saw
open Go.Proofs Go.Proofs.Tryz
set_option maxHeartbeats 4000000
set_option maxRecDepth 100000
def qKN (r:Bool):V:=vb r
def qLd (r:Bool):List (Nat×(Nat×O)):=[]
theorem wU (a1:List qO) (a2:List qO) (r:Bool) (hm:JN a1 a2=some r):CtX Tryz.prog globs 12 0 0 [.one (tl qM dd a1),.one (tl qM dd a2)] [] (qKN r) (qLd r):=by
 unfold JN at hm;refine q_E f12 12 λE=>?_;refine s_vn [] 0 ⟨[(0,vc (tl qM dd a1)),(1,vc (tl qM dd a2))],[]⟩ ?_;obtain⟨v3,h4,hm⟩:=qB hm
 refine s_vn [qd 2 (drw 0 0 (rf KR ([(qZ.mk a1 ([]:List qF))]:List qZ))) (litP KR dd 2 (λ_=>rfl) ([(qZ.mk a1 ([]:List qF))]:List qZ) 1 rfl),qd 5 (drw 1 0 (rf KR ([(qZ.mk a2 ([]:List qF))]:List qZ))) (litP KR dd 2 (λ_=>rfl) ([(qZ.mk a2 ([]:List qF))]:List qZ) 1 rfl),qd 6 (dex (cen [] [] 2 0 (ZO v3) (jO v3) [7,10] [0,1])) (wB (K:=(kx E 12 0)) (xs':=[.one (.lst 1 (rf KR ([(qZ.mk a1 ([]:List qF))]:List qZ))),.one (.lst 1 (rf KR ([(qZ.mk a2 ([]:List qF))]:List qZ)))]) (b:=false) ⟨[(7,vo 0 0 2 1),(10,vo 1 0 2 1)],[(0,ro 0 90 2 1 (rf KR ([(qZ.mk a1 ([]:List qF))]:List qZ))),(1,ro 0 90 2 1 (rf KR ([(qZ.mk a2 ([]:List qF))]:List qZ)))]⟩ (opAt (rg f12 6) 6) [] [] 2 (o1 (And.intro (ke 1) (ke 1))) rfl (CtX.stem (qJx ([(qZ.mk a1 ([]:List qF))]:List qZ) ([(qZ.mk a2 ([]:List qF))]:List qZ) v3 h4)) (.inr ⟨(by kernel_rfl),qLk v3⟩) (by kernel_rfl))] 0 ⟨[(4,vb v3)],[]⟩ ?_
 obtain rfl:=oi hm;exact q_rt q_rm
def qGb (r:Bool):V:=vb r
def qGc (r:Bool):List (Nat×(Nat×O)):=[]
def qAu (a1:Scan) (x2:Int):St:=
 ⟨[(1,vp 0 0),(3,vi x2)],[(0,bx 25 (zZ a1))]⟩
def qGz (a1:Scan):St:=
 ⟨[(1,vp 0 0)],[(0,bx 25 (zZ a1))]⟩
def qQo (x11:Bool):St:=
 ⟨[(2,vb x11)],[]⟩
theorem qPb (E:Env 0) (a1:Scan):∀(n:Nat) (x2:Int) (res:Bool⊕Unit),XM a1 n x2=some res->HL (kx E 29 0) (nd f8 52) (wD 0 (λo=>qGz a1) (λv st=>RetQ Tryz.prog f8 (qGb v) (qGc v) .ret st) res) n (qAu a1 x2):=by
 intro n
 induction n with
 |zero=>
  intro x2 res hm;cases hm
 |succ n ih=>
  intro x2 res hm;refine qS (q_sq ?_);refine s_va 1 [(8,vb (decide (x2<(a1.Rings.length:Int))))] (q_cq hm (λhm=>?_) (λhm=>?_))
  ·refine q_sk (q_sq ?_);refine q_bk 1 ?_;obtain⟨g4,hm⟩:=qJ hm;refine s_vv [qi 3 g4] 1 [8] [(18,vb (decide (((((a1.Rings.getD x2.toNat dd).Read).length:Nat):Int)>100)))] (q_cq hm (λhm=>?_) (λhm=>?_))
   ·refine s_vn [] 1 ⟨[(2,vb false)],[]⟩ ?_;obtain rfl:=oi hm;refine q_rt (zJ false ?_);exact q_rm
   ·refine q_sk (q_vv [] 1 [3,18] [(3,vi (w64 (x2+1)))] ?_);exact q_hl (qAu a1 (w64 (x2+1))) (ih (w64 (x2+1)) _ hm)
  ·refine q_ex 0 ?_;obtain rfl:=oi hm;exact q_l1 ()
theorem qJX (a1:Scan) (r:Bool) (hm:qCd a1=some r):CtX Tryz.prog globs 8 0 0 [.agg (zZ a1)] [] (qGb r) (qGc r):=by
 unfold qCd at hm;refine q_E f8 29 λE=>?_;refine s_vn [] 0 ⟨[(1,vp 0 0)],[(0,bx 25 (zZ a1))]⟩ (q_sq ?_);refine s_va 1 [(3,vi 0)] ?_;obtain⟨u8,h7,hm⟩:=qB hm;refine zO (nd f8 52) 0 (by kernel_rfl) FUEL (λo=>qGz a1) (λv st=>RetQ Tryz.prog f8 (qGb v) (qGc v) .ret st) u8 (q_hl (qAu a1 0) (qPb E a1 FUEL 0 u8 h7)) ?_ ?_
 ·rintro v9 rfl st hr;obtain rfl:=oi hm;exact hr
 ·rintro o6 rfl;replace hm:_=some r:=hm;refine q_jn (qQo) (λp=>qEv p=some r) ?_ ?_
  ·rintro x11 hm;obtain rfl:=oi hm;exact q_rt q_rm
  ·rcases bif_c hm with⟨b10,hm⟩|⟨b10,hm⟩
   ·exact q_vn [qf 4 b10] 1 ⟨[(2,vb (decide ((a1.Defects.length:Int)<=70)))],[]⟩ (q_J (decide ((a1.Defects.length:Int)<=70)) hm)
   ·exact q_vn [qf 4 b10] 1 ⟨[(2,vb false)],[]⟩ (q_J (false) hm)
end Saw
end Go.SL

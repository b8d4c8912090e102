import Derived.Test.YtigmogcdifllhaaGreatDoorEBase
import Derived.Test.YtigmogcdifllhaaGreatDoorTPs
import Derived.Test.YtigmogcdifllhaaGreatDoorEFa16
set_option linter.unusedVariables false
set_option linter.unusedSimpArgs false
namespace Go.SL
namespace Saw
open Go.Proofs Go.Proofs.Tryz
set_option maxHeartbeats 4000000
set_option maxRecDepth 100000
def qH7 (r:Bool):V:=vb r
def qHY (r:Bool):List (Nat×(Nat×O)):=[]
def qBE (a1:Scan) (x2:Int):St:=
 ⟨[(1,vp 0 0),(3,vi x2)],[(0,bx 25 (zS a1))]⟩
def qIp (a1:Scan):St:=
 ⟨[(1,vp 0 0)],[(0,bx 25 (zS a1))]⟩
def qSR (x11:Bool):St:=
 ⟨[(2,vb x11)],[]⟩
theorem qRW (E:Env 0) (a1:Scan):∀(n:Nat) (x2:Int) (res:Bool⊕Unit),KK a1 n x2=some res->HL (kx E 29 0) (nd f8 52) (wC 0 (λo=>qIp a1) (λv st=>RetQ Tryz.prog f8 (qH7 v) (qHY v) .ret st) res) n (qBE a1 x2):=by
 intro n
 induction n with
 |zero=>
  intro x2 res hm;cases hm
 |succ n ih=>
  intro x2 res hm;refine qR (q_sq ?_);refine s_va 1 [(8,vb (decide (x2<(a1.Rings.length:Int))))] (q_cq hm (λhm=>?_) (λhm=>?_))
  ·refine q_sk (q_sq ?_);refine q_bk 1 ?_;obtain⟨g4,hm⟩:=qI hm;refine s_vv [qi 3 g4] 1 [8] [(18,vb (decide (((((a1.Rings.getD x2.toNat dd).Read).length:Nat):Int)>100)))] (q_cq hm (λhm=>?_) (λhm=>?_))
   ·refine s_vn [] 1 ⟨[(2,vb false)],[]⟩ ?_;obtain rfl:=oi hm;refine q_rt (zJ false ?_);exact q_rm
   ·refine q_sk (q_vv [] 1 [3,18] [(3,vi (w64 (x2+1)))] ?_);exact q_hl (qBE a1 (w64 (x2+1))) (ih (w64 (x2+1)) _ hm)
  ·refine q_ex 0 ?_;obtain rfl:=oi hm;exact q_l1 ()
theorem qXe (a1:Scan) (r:Bool) (hm:qDj a1=some r):CtX Tryz.prog globs 8 0 0 [.agg (zS a1)] [] (qH7 r) (qHY r):=by
 unfold qDj at hm;refine q_E f8 29 λE=>?_;refine s_vn [] 0 ⟨[(1,vp 0 0)],[(0,bx 25 (zS a1))]⟩ (q_sq ?_);refine s_va 1 [(3,vi 0)] ?_;obtain⟨u8,h7,hm⟩:=qC hm;refine zQ (nd f8 52) 0 (by kernel_rfl) FUEL (λo=>qIp a1) (λv st=>RetQ Tryz.prog f8 (qH7 v) (qHY v) .ret st) u8 (q_hl (qBE a1 0) (qRW E a1 FUEL 0 u8 h7)) ?_ ?_
 ·rintro v9 rfl st hr;obtain rfl:=oi hm;exact hr
 ·rintro o6 rfl;replace hm:_=some r:=hm;refine q_jn (qSR) (λp=>qFh p=some r) ?_ ?_
  ·rintro x11 hm;obtain rfl:=oi hm;exact q_rt q_rm
  ·rcases bif_c hm with⟨b10,hm⟩|⟨b10,hm⟩
   ·exact q_vn [qf 4 b10] 1 ⟨[(2,vb (decide ((a1.Defects.length:Int)<=70)))],[]⟩ (q_J (decide ((a1.Defects.length:Int)<=70)) hm)
   ·exact q_vn [qf 4 b10] 1 ⟨[(2,vb false)],[]⟩ (q_J (false) hm)
def XE (r:Bool):V:=vb r
def QJ (r:Bool):List (Nat×(Nat×O)):=[]
theorem TH (r:Bool):wQ (QJ r):=by
 intro i k o h;unfold QJ at h;cases h
theorem RU (a1:List qM) (a2:List qM) (r:Bool) (hm:RG a1 a2=some r):CtX Tryz.prog globs 12 0 0 [.one (tl qO dd a1),.one (tl qO dd a2)] [] (XE r) (QJ r):=by
 unfold RG at hm;refine q_E f12 12 λE=>?_;refine s_vn [] 0 ⟨[(0,vc (tl qO dd a1)),(1,vc (tl qO dd a2))],[]⟩ ?_;obtain⟨v3,h4,hm⟩:=qC hm
 refine s_vn [qd 2 (drw 0 0 (rf PE ([(zA.mk a1 ([]:List qH))]:List zA))) (litP PE dd 2 (λ_=>rfl) ([(zA.mk a1 ([]:List qH))]:List zA) 1 rfl),qd 5 (drw 1 0 (rf PE ([(zA.mk a2 ([]:List qH))]:List zA))) (litP PE dd 2 (λ_=>rfl) ([(zA.mk a2 ([]:List qH))]:List zA) 1 rfl),qd 6 (dex (cen [] [] 2 0 (WG v3) (jX v3) [7,10] [0,1])) (zW (K:=(kx E 12 0)) (xs':=[.one (.lst 1 (rf PE ([(zA.mk a1 ([]:List qH))]:List zA))),.one (.lst 1 (rf PE ([(zA.mk a2 ([]:List qH))]:List zA)))]) (b:=false) ⟨[(7,vo 0 0 2 1),(10,vo 1 0 2 1)],[(0,ro 0 90 2 1 (rf PE ([(zA.mk a1 ([]:List qH))]:List zA))),(1,ro 0 90 2 1 (rf PE ([(zA.mk a2 ([]:List qH))]:List zA)))]⟩ (opAt (rg f12 6) 6) [] [] 2 (o1 (And.intro (kd 1) (kd 1))) rfl (CtX.stem (qLV ([(zA.mk a1 ([]:List qH))]:List zA) ([(zA.mk a2 ([]:List qH))]:List zA) v3 h4)) (.inr ⟨(by kernel_rfl),qNC v3⟩) (by kernel_rfl))] 0 ⟨[(4,vb v3)],[]⟩ ?_
 obtain rfl:=oi hm;exact q_rt q_rm
end Saw
end Go.SL

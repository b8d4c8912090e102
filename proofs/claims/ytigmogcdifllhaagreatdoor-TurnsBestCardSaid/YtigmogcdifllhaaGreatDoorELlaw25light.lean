import Derived.Test.YtigmogcdifllhaaGreatDoorEBase
import Derived.Test.YtigmogcdifllhaaGreatDoorEFa1
set_option linter.unusedVariables false
set_option linter.unusedSimpArgs false
namespace Go.SL
namespace Saw
open Go.Proofs Go.Proofs.Tryz
set_option maxHeartbeats 4000000
set_option maxRecDepth 100000
def KW (r:Bool):V:=vb r
def KX (r:Bool):List (Nat×(Nat×O)):=[]
def WD (a1:wF) (a2:zH):St:=
 ⟨[(2,vp 0 0),(3,vp 1 0)],[(0,bx 27 (VV a1)),(1,bx 43 (jJ a2))]⟩
def qNb (a1:wF) (a2:zH) (x7:Int) (x13:Int) (x20:Bool):St:=
 (WD a1 a2).up [] [(5,vi x7),(6,vi x13),(94,vb x20)] [] []
def CP (a1:wF) (a2:zH) (x7:Int) (x13:Int):St:=
 (WD a1 a2).up [] [(5,vi x7),(6,vi x13)] [] []
def qEZ (a1:wF) (a2:zH) (x7:Int):St:=
 (WD a1 a2).up [] [(5,vi x7)] [] []
def qNz (a1:wF) (a2:zH) (x7:Int) (x11:Bool):St:=
 (WD a1 a2).up [] [(5,vi x7),(53,vb x11)] [] []
def OZ (a1:wF) (a2:zH) (x7:Int):St:=
 (WD a1 a2).up [] [(5,vi x7)] [] []
def qFz (a2:zH):St:=
 ⟨[(3,vp 1 0)],[(1,bx 43 (jJ a2))]⟩
def qNU (a2:zH) (x30:Int) (x35:Bool):St:=
 ⟨[(3,vp 1 0),(8,vi x30),(129,vb x35)],[(1,bx 43 (jJ a2))]⟩
def OU (a2:zH) (x30:Int):St:=
 ⟨[(3,vp 1 0),(8,vi x30)],[(1,bx 43 (jJ a2))]⟩
def qFi (a2:zH):St:=
 ⟨[(3,vp 1 0)],[(1,bx 43 (jJ a2))]⟩
def qN0 (x45:Bool):St:=
 ⟨[(4,vb x45)],[]⟩
def qN7 (a1:wF) (a2:zH) (x5:Bool):St:=
 (WD a1 a2).up [] [(26,vb x5)] [] []
theorem qMt (E:Env 0) (a1:wF) (a2:zH) (x7:Int):∀(n:Nat) (x13:Int) (res:Bool⊕Unit),yV a1 x7 n x13=some res->HL (kx E 148 0) (nd f14 14924) (wY 2 (λo=>qEZ a1 a2 x7) (λv st=>RetQ Tryz.prog f14 (KW v) (KX v) .ret st) res) n (CP a1 a2 x7 x13):=by
 intro n
 induction n with
 |zero=>
  intro x13 res hm;cases hm
 |succ n ih=>
  intro x13 res hm;refine qU (q_sq ?_);obtain⟨g14,hm⟩:=qJ hm;refine s_vv [qi 5 g14] 2 [] [(63,vb (decide (x13<((((a1.Scan.Rings.getD x7.toNat du).Read).length:Nat):Int))))] (q_cq hm (λhm=>?_) (λhm=>?_))
  ·refine q_sk (q_sq ?_);refine q_bk 3 ?_;obtain⟨g16,hm⟩:=qJ hm;refine s_vu [qi 4 g14,qi 8 g16] 2 [63] [(7,vp 2 0)] [] [(2,bx 93 (qF ((((a1.Scan.Rings.getD x7.toNat du).Read).getD x13.toNat du).P)))] (q_jn (qNb a1 a2 x7 x13) (λp=>DI x13 (yV a1 x7 n) p=some res) ?_ ?_)
   ·rintro x20 hm;refine q_cq hm (λhm=>?_) (λhm=>?_)
    ·refine s_vn [] 3 ⟨[(4,vb false)],[]⟩ ?_;obtain rfl:=oi hm;refine q_rt (zQ false ?_);exact q_rm
    ·refine q_sk (q_vv [] 3 [6,94] [(6,vi (w64 (x13+1)))] ?_);exact q_hl (CP a1 a2 x7 (w64 (x13+1))) (ih (w64 (x13+1)) _ hm)
   ·rcases bif_c hm with⟨b17,hm⟩|⟨b17,hm⟩
    ·exact q_vu [qf 3 b17] 3 [7] [(94,vb true)] [2] [] (q_J (true) hm)
    ·rcases bif_c hm with⟨b18,hm⟩|⟨b18,hm⟩
     ·exact q_vu [qf 3 b17,qf 8 b18] 3 [7] [(94,vb true)] [2] [] (q_J (true) hm)
     ·rcases bif_c hm with⟨b19,hm⟩|⟨b19,hm⟩
      ·exact q_vu [qf 3 b17,qf 8 b18,qf 13 b19] 3 [7] [(94,vb true)] [2] [] (q_J (true) hm)
      ·exact q_vu [qf 3 b17,qf 8 b18,qf 13 b19] 3 [7] [(94,vb (decide ((((((a1.Scan.Rings.getD x7.toNat du).Read).getD x13.toNat du).P).Y)>110)))] [2] [] (q_J (decide ((((((a1.Scan.Rings.getD x7.toNat du).Read).getD x13.toNat du).P).Y)>110)) hm)
  ·refine q_ex 2 ?_;obtain rfl:=oi hm;exact q_l1 ()
theorem qMo (E:Env 0) (a1:wF) (a2:zH):∀(n:Nat) (x7:Int) (res:Bool⊕Unit),WG a1 n x7=some res->HL (kx E 148 0) (nd f14 116) (wY 0 (λo=>qFz a2) (λv st=>RetQ Tryz.prog f14 (KW v) (KX v) .ret st) res) n (OZ a1 a2 x7):=by
 intro n
 induction n with
 |zero=>
  intro x7 res hm;cases hm
 |succ n ih=>
  intro x7 res hm;refine qU (q_sq ?_);refine s_va 2 [(32,vb (decide (x7<(a1.Scan.Rings.length:Int))))] (q_cq hm (λhm=>?_) (λhm=>?_))
  ·refine q_sk (q_sq ?_);refine q_bk 1 (q_sq ?_);refine q_jn (qNz a1 a2 x7) (λp=>SS a1 x7 (WG a1 n) p=some res) ?_ ?_
   ·rintro x11 hm;refine q_cq hm (λhm=>?_) (λhm=>?_)
    ·refine s_vn [] 2 ⟨[(4,vb false)],[]⟩ ?_;obtain rfl:=oi hm;refine q_rt (zQ false ?_);exact q_rm
    ·refine q_sk (s_vv [] 2 [53] [(6,vi 0)] ?_);obtain⟨u24,h23,hm⟩:=qC hm;refine zY (nd f14 14924) 2 (by kernel_rfl) FUEL (λo=>qEZ a1 a2 x7) (λv st=>RetQ Tryz.prog f14 (KW v) (KX v) .ret st) u24 (q_hl (CP a1 a2 x7 0) (qMt E a1 a2 x7 FUEL 0 u24 h23)) ?_ ?_
     ·rintro v25 rfl st hr;obtain rfl:=oi hm;exact zQ v25 hr
     ·rintro o22 rfl;replace hm:_=some res:=hm;exact q_vv [] 2 [5] [(5,vi (w64 (x7+1)))] (q_hl (OZ a1 a2 (w64 (x7+1))) (ih (w64 (x7+1)) _ hm))
   ·obtain⟨g9,hm⟩:=qJ hm;rcases bif_c hm with⟨b10,hm⟩|⟨b10,hm⟩
    ·exact q_vv [qi 4 g9,qf 9 b10] 2 [32] [(53,vb true)] (q_J (true) hm)
    ·exact q_vv [qi 4 g9,qf 9 b10,qi 14 g9] 2 [32] [(53,vb (decide (((a1.Scan.Rings.getD x7.toNat du).Z)>3000)))] (q_J (decide (((a1.Scan.Rings.getD x7.toNat du).Z)>3000)) hm)
  ·refine q_ex 0 ?_;obtain rfl:=oi hm;exact q_l1 ()
theorem qLT (E:Env 0) (a2:zH):∀(n:Nat) (x30:Int) (res:Bool⊕Unit),ZE a2 n x30=some res->HL (kx E 148 0) (nd f14 244) (wY 4 (λo=>qFi a2) (λv st=>RetQ Tryz.prog f14 (KW v) (KX v) .ret st) res) n (OU a2 x30):=by
 intro n
 induction n with
 |zero=>
  intro x30 res hm;cases hm
 |succ n ih=>
  intro x30 res hm;refine qU (q_sq ?_);refine s_va 2 [(99,vb (decide (x30<(a2.Products.length:Int))))] (q_cq hm (λhm=>?_) (λhm=>?_))
  ·refine q_sk (q_sq ?_);refine q_bk 5 (q_jn (qNU a2 x30) (λp=>SU x30 (ZE a2 n) p=some res) ?_ ?_)
   ·rintro x35 hm;refine q_cq hm (λhm=>?_) (λhm=>?_)
    ·refine s_vn [] 2 ⟨[(4,vb false)],[]⟩ ?_;obtain rfl:=oi hm;refine q_rt (zQ false ?_);exact q_rm
    ·refine q_sk (q_vv [] 2 [8,129] [(8,vi (w64 (x30+1)))] ?_);exact q_hl (OU a2 (w64 (x30+1))) (ih (w64 (x30+1)) _ hm)
   ·obtain⟨g32,hm⟩:=qJ hm;rcases bif_c hm with⟨b33,hm⟩|⟨b33,hm⟩
    ·exact q_vv [qi 3 g32,qf 8 b33] 2 [99] [(129,vb true)] (q_J (true) hm)
    ·rcases bif_c hm with⟨b34,hm⟩|⟨b34,hm⟩
     ·exact q_vv [qi 3 g32,qf 8 b33,qi 12 g32,qf 18 b34] 2 [99] [(129,vb true)] (q_J (true) hm)
     ·exact q_vv [qi 3 g32,qf 8 b33,qi 12 g32,qf 18 b34,qi 22 g32] 2 [99] [(129,vb (decide (((((a2.Products.getD x30.toNat du).Name).size:Nat):Int)>100)))] (q_J (decide (((((a2.Products.getD x30.toNat du).Name).size:Nat):Int)>100)) hm)
  ·refine q_ex 4 ?_;obtain rfl:=oi hm;exact q_l1 ()
theorem qQ4 (a1:wF) (a2:zH) (r:Bool) (hm:FY a1 a2=some r):CtX Tryz.prog globs 14 0 0 [.agg (VV a1),.agg (jJ a2)] [] (KW r) (KX r):=by
 unfold FY at hm;refine q_E f14 148 λE=>?_;refine s_vn [] 0 ⟨[(2,vp 0 0),(3,vp 1 0)],[(0,bx 27 (VV a1)),(1,bx 43 (jJ a2))]⟩ (q_sq ?_);refine q_jn (qN7 a1 a2) (λp=>GB a1 a2 p=some r) ?_ ?_
 ·rintro x5 hm;refine q_cq hm (λhm=>?_) (λhm=>?_)
  ·refine s_vn [] 2 ⟨[(4,vb false)],[]⟩ ?_;obtain rfl:=oi hm;exact q_rt q_rm
  ·refine q_sk (q_sq ?_);refine s_vv [] 2 [26] [(5,vi 0)] ?_;obtain⟨u28,h27,hm⟩:=qC hm;refine zY (nd f14 116) 0 (by kernel_rfl) FUEL (λo=>qFz a2) (λv st=>RetQ Tryz.prog f14 (KW v) (KX v) .ret st) u28 (q_hl (OZ a1 a2 0) (qMo E a1 a2 FUEL 0 u28 h27)) ?_ ?_
   ·rintro v29 rfl st hr;obtain rfl:=oi hm;exact hr
   ·rintro o26 rfl;replace hm:_=some r:=hm;refine q_sq (s_va 2 [(8,vi 0)] ?_);obtain⟨u39,h38,hm⟩:=qC hm;refine zY (nd f14 244) 4 (by kernel_rfl) FUEL (λo=>qFi a2) (λv st=>RetQ Tryz.prog f14 (KW v) (KX v) .ret st) u39 (q_hl (OU a2 0) (qLT E a2 FUEL 0 u39 h38)) ?_ ?_
    ·rintro v40 rfl st hr;obtain rfl:=oi hm;exact hr
    ·rintro o37 rfl;replace hm:_=some r:=hm;refine q_jn (qN0) (λp=>ER p=some r) ?_ ?_
     ·rintro x45 hm;obtain rfl:=oi hm;exact q_rt q_rm
     ·obtain⟨v41,h42,hm⟩:=qC hm;rcases bif_c hm with⟨b43,hm⟩|⟨b43,hm⟩
      ·exact q_vn [qc 4 [131,133] 2 (qBB a2.Saw a2.Rates v41 h42),qf 6 b43] 2 ⟨[(4,vb true)],[]⟩ (q_J (true) hm)
      ·rcases bif_c hm with⟨b44,hm⟩|⟨b44,hm⟩
       ·exact q_vn [qc 4 [131,133] 2 (qBB a2.Saw a2.Rates v41 h42),qf 6 b43,qf 11 b44] 2 ⟨[(4,vb (decide (a2.Saw.Step≥500)))],[]⟩ (q_J (decide (a2.Saw.Step≥500)) hm)
       ·exact q_vn [qc 4 [131,133] 2 (qBB a2.Saw a2.Rates v41 h42),qf 6 b43,qf 11 b44] 2 ⟨[(4,vb false)],[]⟩ (q_J (false) hm)
 ·rcases bif_c hm with⟨b3,hm⟩|⟨b3,hm⟩
  ·exact q_vv [qf 5 b3] 2 [] [(26,vb true)] (q_J (true) hm)
  ·rcases bif_c hm with⟨b4,hm⟩|⟨b4,hm⟩
   ·exact q_vv [qf 5 b3,qf 12 b4] 2 [] [(26,vb true)] (q_J (true) hm)
   ·exact q_vv [qf 5 b3,qf 12 b4] 2 [] [(26,vb (decide ((a2.Products.length:Int)>2)))] (q_J (decide ((a2.Products.length:Int)>2)) hm)
end Saw
end Go.SL

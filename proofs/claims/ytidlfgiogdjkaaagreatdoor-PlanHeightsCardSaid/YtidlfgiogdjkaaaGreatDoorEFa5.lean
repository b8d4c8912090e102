import Derived.Test.YtidlfgiogdjkaaaGreatDoorEBase
import Derived.Test.YtidlfgiogdjkaaaGreatDoorEFa4
set_option linter.unusedVariables false
set_option linter.unusedSimpArgs false
namespace Go.SL
namespace Saw
open Go.Proofs
set_option maxHeartbeats 4000000
set_option maxRecDepth 100000
def JH (r:Bool):V:=vb r
def yA (r:Bool):List (Nat×(Nat×O)):=[]
theorem qJA (r:Bool):jU (yA r):=by
 intro i k o h;unfold yA at h;cases h
def CB (a1:List (List Int)) (x2:Int) (x5:Int) (x9:Bool):St:=
 ⟨[(7,vc (tl (qD e_i64) default a1)),(8,vi ((a1.length:Nat):Int)),(9,vi x2),(13,vc (tl e_i64 default (a1.getD x2.toNat default))),(14,vi (((a1.getD x2.toNat default).length:Nat):Int)),(15,vi x5),(24,vb x9)],[]⟩
def GZ (a1:List (List Int)) (x2:Int) (x5:Int):St:=
 ⟨[(7,vc (tl (qD e_i64) default a1)),(8,vi ((a1.length:Nat):Int)),(9,vi x2),(13,vc (tl e_i64 default (a1.getD x2.toNat default))),(14,vi (((a1.getD x2.toNat default).length:Nat):Int)),(15,vi x5)],[]⟩
def IW (a1:List (List Int)) (x2:Int):St:=
 ⟨[(7,vc (tl (qD e_i64) default a1)),(8,vi ((a1.length:Nat):Int)),(9,vi x2)],[]⟩
def BG (a1:List (List Int)) (x2:Int):St:=
 ⟨[(7,vc (tl (qD e_i64) default a1)),(8,vi ((a1.length:Nat):Int)),(9,vi x2)],[]⟩
def CL :St:=
 ⟨[],[]⟩
theorem qFi (E:Env 0) (a1:List (List Int)) (x2:Int):∀(n:Nat) (x5:Int) (res:Bool⊕Unit),jI a1 x2 n x5=some res->HL (kx E 27 0) (nd Tryz.f193 13516) (zV 2 (λo=>IW a1 x2) (λv st=>RetQ Tryz.prog Tryz.f193 (JH v) (yA v) .ret st) res) n (GZ a1 x2 x5):=by
 intro n
 induction n with
 |zero=>
  intro x5 res hm;cases hm
 |succ n ih=>
  intro x5 res hm;refine qM ?_;refine s_vu [] 0 [] [(16,vb (decide (x5<(((a1.getD x2.toNat default).length:Nat):Int))))] [] [] ?_;refine q_sq ?_;refine q_cm hm (λb6 hm=>?_) (λb6 hm=>?_)
  ·refine q_sk ?_;refine q_sq ?_;refine q_bk 3 ?_;obtain⟨g7,hm⟩:=qG hm;refine s_vu [qd 0 (Dir.none) (inb_of g7)] 0 [16] [(6,vi ((a1.getD x2.toNat default).getD x5.toNat default))] [] [] ?_;refine q_jn (ι:=Bool) (λp=>CB a1 x2 x5 p) (λp=>TD x5 (jI a1 x2 n) p=some res) ?_ ?_
   ·rintro x9 hm;show H _ (CB a1 x2 x5 x9) _ _;refine q_cm hm (λb10 hm=>?_) (λb10 hm=>?_)
    ·refine s_vn [] 0 ⟨[(2,vb false)],[]⟩ ?_;obtain rfl:=oi hm;refine q_rt ?_;refine qT false ?_;exact q_rm
    ·refine q_sk ?_;refine q_vu [] 0 [15,24] [(15,vi (w64 (x5+1)))] [] [] ?_;exact q_hl (GZ a1 x2 (w64 (x5+1))) (ih (w64 (x5+1)) _ hm)
   ·rcases bif_c hm with⟨b8,hm⟩|⟨b8,hm⟩
    ·refine q_vu [qf 2 b8] 0 [6] [(24,vb true)] [] [] ?_;exact q_J (true) hm
    ·refine q_vu [qf 2 b8] 0 [6] [(24,vb (decide (((a1.getD x2.toNat default).getD x5.toNat default)>1125899906842624)))] [] [] ?_;exact q_J (decide (((a1.getD x2.toNat default).getD x5.toNat default)>1125899906842624)) hm
  ·refine q_ex 2 ?_;obtain rfl:=oi hm;exact wB () (by kernel_rfl) (by kernel_rfl)
theorem qFh (E:Env 0) (a1:List (List Int)):∀(n:Nat) (x2:Int) (res:Bool⊕Unit),ZR a1 n x2=some res->HL (kx E 27 0) (nd Tryz.f193 52) (zV 0 (λo=>CL) (λv st=>RetQ Tryz.prog Tryz.f193 (JH v) (yA v) .ret st) res) n (BG a1 x2):=by
 intro n
 induction n with
 |zero=>
  intro x2 res hm;cases hm
 |succ n ih=>
  intro x2 res hm;refine qM ?_;refine s_vu [] 0 [] [(10,vb (decide (x2<((a1.length:Nat):Int))))] [] [] ?_;refine q_sq ?_;refine q_cm hm (λb3 hm=>?_) (λb3 hm=>?_)
  ·refine q_sk ?_;refine q_sq ?_;refine q_bk 1 ?_;obtain⟨g4,hm⟩:=qG hm;refine s_vu [qd 0 (Dir.none) (inb_of g4)] 0 [10] [(4,vc (tl e_i64 default (a1.getD x2.toNat default)))] [] [] ?_;refine s_vu [] 0 [4] [(13,vc (tl e_i64 default (a1.getD x2.toNat default))),(14,vi (((a1.getD x2.toNat default).length:Nat):Int)),(15,vi 0)] [] [] ?_;obtain⟨u13,h12,hm⟩:=qA hm;refine zA (nd Tryz.f193 13516) 2 (by kernel_rfl) FUEL (λo=>IW a1 x2) (λv st=>RetQ Tryz.prog Tryz.f193 (JH v) (yA v) .ret st) u13 (q_hl (GZ a1 x2 0) (qFi E a1 x2 FUEL 0 u13 h12)) ?_ ?_
   ·rintro v14 rfl st hr;obtain rfl:=oi hm;exact qT v14 hr
   ·rintro o11 rfl;replace hm:_=some res:=hm;refine q_vu [] 0 [9] [(9,vi (w64 (x2+1)))] [] [] ?_;exact q_hl (BG a1 (w64 (x2+1))) (ih (w64 (x2+1)) _ hm)
  ·refine q_ex 0 ?_;obtain rfl:=oi hm;exact wB () (by kernel_rfl) (by kernel_rfl)
theorem MO (a1:List (List Int)) (r:Bool) (hm:XQ a1=some r):CtX Tryz.prog globs 193 0 0 [.one (tl (qD e_i64) default a1)] [] (JH r) (yA r):=by
 unfold XQ at hm;refine q_E Tryz.f193 27 λE=>?_;refine s_vn [] 0 ⟨[(0,vc (tl (qD e_i64) default a1))],[]⟩ ?_;refine q_sq ?_;refine s_vn [] 0 ⟨[(7,vc (tl (qD e_i64) default a1)),(8,vi ((a1.length:Nat):Int)),(9,vi 0)],[]⟩ ?_;obtain⟨u17,h16,hm⟩:=qA hm;refine zA (nd Tryz.f193 52) 0 (by kernel_rfl) FUEL (λo=>CL) (λv st=>RetQ Tryz.prog Tryz.f193 (JH v) (yA v) .ret st) u17 (q_hl (BG a1 0) (qFh E a1 FUEL 0 u17 h16)) ?_ ?_
 ·rintro v18 rfl st hr;obtain rfl:=oi hm;exact hr
 ·rintro o15 rfl;replace hm:_=some r:=hm;refine s_vn [] 0 ⟨[(2,vb true)],[]⟩ ?_;obtain rfl:=oi hm;refine q_rt ?_;exact q_rm
def SA (r:Int):V:=vi r
def SB (r:Int):List (Nat×(Nat×O)):=[]
def BL (a1:Line) (x9:Int):St:=
 ⟨[(1,vp 0 0),(35,vc (tl (qD e_i64) default a1.Gain)),(36,vi ((a1.Gain.length:Nat):Int)),(37,vi x9)],[(0,bx 84 (zT a1))]⟩
def CJ (a1:Line):St:=
 ⟨[(1,vp 0 0)],[(0,bx 84 (zT a1))]⟩
def OC (x25:Bool):St:=
 ⟨[(65,vb x25)],[]⟩
def CK (a1:Line) (x7:Bool):St:=
 ⟨[(1,vp 0 0),(33,vb x7)],[(0,bx 84 (zT a1))]⟩
theorem qE9 (E:Env 0) (a1:Line):∀(n:Nat) (x9:Int) (res:Int⊕Unit),ZS a1 n x9=some res->HL (kx E 66 0) (nd Tryz.f150 244) (zV 0 (λo=>CJ a1) (λv st=>RetQ Tryz.prog Tryz.f150 (SA v) (SB v) .ret st) res) n (BL a1 x9):=by
 intro n
 induction n with
 |zero=>
  intro x9 res hm;cases hm
 |succ n ih=>
  intro x9 res hm;refine qM ?_;refine s_vu [] 1 [] [(38,vb (decide (x9<((a1.Gain.length:Nat):Int))))] [] [] ?_;refine q_sq ?_;refine q_cm hm (λb10 hm=>?_) (λb10 hm=>?_)
  ·refine q_sk ?_;refine q_sq ?_;refine q_bk 1 ?_;obtain⟨g11,hm⟩:=qG hm;refine s_vu [qd 1 (Dir.none) (inb_of g11)] 1 [38] [(4,vi x9),(5,vc (tl e_i64 default (a1.Gain.getD x9.toNat default)))] [] [] ?_;obtain⟨g12,hm⟩:=qG hm;obtain⟨v13,h14,hm⟩:=qA hm;refine s_du [qd 6 (Dir.none) (inb_of g12),qc 8 [44,49] 1 (qHa a1 (a1.Sizes.getD x9.toNat default) v13 h14)] [0,1,0,0,8,0,56,120,252,511] 1 [4,5] [(51,vb ((((a1.Gain.getD x9.toNat default).length:Nat):Int) !=v13))] [] [] ?_;refine q_cm hm (λb15 hm=>?_) (λb15 hm=>?_)
   ·refine s_vn [] 1 ⟨[(2,vi 19)],[]⟩ ?_;obtain rfl:=oi hm;refine q_rt ?_;refine qT 19 ?_;exact q_rm
   ·refine q_sk ?_;refine q_vu [] 1 [37,51] [(37,vi (w64 (x9+1)))] [] [] ?_;exact q_hl (BL a1 (w64 (x9+1))) (ih (w64 (x9+1)) _ hm)
  ·refine q_ex 0 ?_;obtain rfl:=oi hm;exact wB () (by kernel_rfl) (by kernel_rfl)
theorem qHz (a1:Line) (r:Int) (hm:UJ a1=some r):CtX Tryz.prog globs 150 0 0 [.agg (zT a1)] [] (SA r) (SB r):=by
 unfold UJ at hm;refine q_E Tryz.f150 66 λE=>?_;refine s_vn [] 0 ⟨[(1,vp 0 0)],[(0,bx 84 (zT a1))]⟩ ?_;refine q_sq ?_;obtain⟨v2,h3,hm⟩:=qA hm;refine s_vu [qc 1 [6] 1 (qFa a1 v2 h3)] 1 [] [(3,vi v2)] [] [] ?_;refine s_vu [] 1 [] [(9,vb (v2 !=0))] [] [] ?_;refine q_cm hm (λb4 hm=>?_) (λb4 hm=>?_)
 ·refine s_vn [] 1 ⟨[(2,vi v2)],[]⟩ ?_;obtain rfl:=oi hm;refine q_rt ?_;exact q_rm
 ·refine q_sk ?_;refine q_sq ?_;refine q_jn (ι:=Bool) (λp=>CK a1 p) (λp=>XE a1 p=some r) ?_ ?_
  ·rintro x7 hm;show H _ (CK a1 x7) _ _;refine q_cm hm (λb8 hm=>?_) (λb8 hm=>?_)
   ·refine s_vn [] 1 ⟨[(2,vi 19)],[]⟩ ?_;obtain rfl:=oi hm;refine q_rt ?_;exact q_rm
   ·refine q_sk ?_;refine q_sq ?_;refine s_vu [] 1 [33] [(35,vc (tl (qD e_i64) default a1.Gain)),(36,vi ((a1.Gain.length:Nat):Int)),(37,vi 0)] [] [] ?_;obtain⟨u18,h17,hm⟩:=qA hm;refine zA (nd Tryz.f150 244) 0 (by kernel_rfl) FUEL (λo=>CJ a1) (λv st=>RetQ Tryz.prog Tryz.f150 (SA v) (SB v) .ret st) u18 (q_hl (BL a1 0) (qE9 E a1 FUEL 0 u18 h17)) ?_ ?_
    ·rintro v19 rfl st hr;obtain rfl:=oi hm;exact hr
    ·rintro o16 rfl;replace hm:_=some r:=hm;refine q_sq ?_;refine q_jn (ι:=Bool) (λp=>OC p) (λp=>TT p=some r) ?_ ?_
     ·rintro x25 hm;show H _ (OC x25) _ _;refine q_cm hm (λb26 hm=>?_) (λb26 hm=>?_)
      ·refine s_vn [] 2 ⟨[(2,vi 9)],[]⟩ ?_;obtain rfl:=oi hm;refine q_rt ?_;exact q_rm
      ·refine q_sk ?_;refine s_vn [] 2 ⟨[(2,vi 0)],[]⟩ ?_;obtain rfl:=oi hm;refine q_rt ?_;exact q_rm
     ·obtain⟨v20,h21,hm⟩:=qA hm;rcases bif_c hm with⟨b22,hm⟩|⟨b22,hm⟩
      ·refine q_vn [qc 2 [54] 1 (MO a1.Gain v20 h21),qf 4 b22] 1 ⟨[(65,vb true)],[]⟩ ?_;exact q_J (true) hm
      ·obtain⟨v23,h24,hm⟩:=qA hm
       refine q_vn [qc 2 [54] 1 (MO a1.Gain v20 h21),qf 4 b22,qd 9 (drw 1 0 (rf (qD e_i64) ([a1.Chip,a1.Dust]:List (List Int)))) (litP (qD e_i64) default 1 (λ_=>rfl) ([a1.Chip,a1.Dust]:List (List Int)) 2 rfl),qd 10 (dex (cen [] [] 2 0 (JH v23) (yA v23) [57,62] [1])) (wJ (K:=(kx E 66 0)) (xs':=[.one (.lst 2 (rf (qD e_i64) ([a1.Chip,a1.Dust]:List (List Int))))]) (b:=false) ⟨[(57,vb false),(62,vo 1 0 1 2)],[(1,ro 0 28 1 2 (rf (qD e_i64) ([a1.Chip,a1.Dust]:List (List Int))))]⟩ (opAt (rg Tryz.f150 124) 10) [] [] 2 (o1 (Nat.le_refl 2)) (by simp only[tl,rf,show([a1.Chip,a1.Dust]:List (List Int)).length=2 from rfl]) (MO ([a1.Chip,a1.Dust]:List (List Int)) v23 h24) (.inr ⟨(by kernel_rfl),qJA v23⟩) (by kernel_rfl))] 1 ⟨[(65,vb (!v23))],[]⟩ ?_
       exact q_J (!v23) hm
  ·rcases bif_c hm with⟨b5,hm⟩|⟨b5,hm⟩
   ·refine q_vu [qf 7 b5] 1 [3,9] [(33,vb true)] [] [] ?_;exact q_J (true) hm
   ·rcases bif_c hm with⟨b6,hm⟩|⟨b6,hm⟩
    ·refine q_vu [qf 7 b5,qf 15 b6] 1 [3,9] [(33,vb true)] [] [] ?_;exact q_J (true) hm
    ·refine q_vu [qf 7 b5,qf 15 b6] 1 [3,9] [(33,vb (((a1.Dust.length:Nat):Int) !=a1.Len))] [] [] ?_;exact q_J (((a1.Dust.length:Nat):Int) !=a1.Len) hm
def qCO (r:Cutting_choice):V:=va (e_Cutting_choice r)
def GX (r:Cutting_choice):List (Nat×(Nat×O)):=[]
theorem qIP (r:Cutting_choice):jU (GX r):=by
 intro i k o h;unfold GX at h;cases h
def CN (a1:Line) (a2:Int) (a3:List Int) (a4:List Cutting_choice) (x5:Int) (x26:Cutting_choice):St:=
 ⟨[(1,vi a2),(2,vc (tl e_i64 default a3)),(3,vc (tl e_Cutting_choice default a4)),(4,vp 0 0),(8,vp 1 0),(9,vp 2 0),(18,vc (tl e_i64 default a1.Sizes)),(19,vi ((a1.Sizes.length:Nat):Int)),(20,vi x5)],[(0,bx 84 (zT a1)),(1,bx 207 [ci 0,ci 0,ci 0]),(2,bx 207 (e_Cutting_choice x26))]⟩
def CA (a1:Line) (a2:Int) (a3:List Int) (a4:List Cutting_choice) (x5:Int) (x6:Cutting_choice) (x22:Cutting_choice) (x24:Bool):St:=
 ⟨[(1,vi a2),(2,vc (tl e_i64 default a3)),(3,vc (tl e_Cutting_choice default a4)),(4,vp 0 0),(8,vp 1 0),(9,vp 2 0),(13,vp 3 0),(18,vc (tl e_i64 default a1.Sizes)),(19,vi ((a1.Sizes.length:Nat):Int)),(20,vi x5),(89,vb x24)],[(0,bx 84 (zT a1)),(1,bx 207 [ci 0,ci 0,ci 0]),(2,bx 207 (e_Cutting_choice x6)),(3,bx 207 (e_Cutting_choice x22))]⟩
def OT (a1:Line) (a2:Int) (a3:List Int) (a4:List Cutting_choice) (x5:Int) (x6:Cutting_choice) (x22:Cutting_choice):St:=
 ⟨[(1,vi a2),(2,vc (tl e_i64 default a3)),(3,vc (tl e_Cutting_choice default a4)),(4,vp 0 0),(8,vp 1 0),(9,vp 2 0),(13,vp 3 0),(18,vc (tl e_i64 default a1.Sizes)),(19,vi ((a1.Sizes.length:Nat):Int)),(20,vi x5)],[(0,bx 84 (zT a1)),(1,bx 207 [ci 0,ci 0,ci 0]),(2,bx 207 (e_Cutting_choice x6)),(3,bx 207 (e_Cutting_choice x22))]⟩
def OA (a1:Line) (a2:Int) (a3:List Int) (a4:List Cutting_choice) (x5:Int) (x6:Cutting_choice) (x12:Bool):St:=
 ⟨[(1,vi a2),(2,vc (tl e_i64 default a3)),(3,vc (tl e_Cutting_choice default a4)),(4,vp 0 0),(8,vp 1 0),(9,vp 2 0),(10,vi x5),(12,vi (w64 (a2+(a1.Sizes.getD x5.toNat default)))),(18,vc (tl e_i64 default a1.Sizes)),(19,vi ((a1.Sizes.length:Nat):Int)),(20,vi x5),(42,vb x12)],[(0,bx 84 (zT a1)),(1,bx 207 [ci 0,ci 0,ci 0]),(2,bx 207 (e_Cutting_choice x6))]⟩
def BI (a1:Line) (a2:Int) (a3:List Int) (a4:List Cutting_choice) (x5:Int) (x6:Cutting_choice):St:=
 ⟨[(1,vi a2),(2,vc (tl e_i64 default a3)),(3,vc (tl e_Cutting_choice default a4)),(4,vp 0 0),(8,vp 1 0),(9,vp 2 0),(18,vc (tl e_i64 default a1.Sizes)),(19,vi ((a1.Sizes.length:Nat):Int)),(20,vi x5)],[(0,bx 84 (zT a1)),(1,bx 207 [ci 0,ci 0,ci 0]),(2,bx 207 (e_Cutting_choice x6))]⟩
def CF (x27:Cutting_choice):St:=
 ⟨[(8,vp 1 0),(9,vp 2 0)],[(1,bx 207 [ci 0,ci 0,ci 0]),(2,bx 207 (e_Cutting_choice x27))]⟩
theorem qFb (E:Env 0) (a1:Line) (a2:Int) (a3:List Int) (a4:List Cutting_choice):∀(n:Nat) (x5:Int) (x6:Cutting_choice) (res:Cutting_choice),wC a1 a2 a3 a4 n x5 x6=some res->HL (kx E 93 0) (nd Tryz.f195 116) (zI 0 (λo=>CF o) res) n (BI a1 a2 a3 a4 x5 x6):=by
 intro n
 induction n with
 |zero=>
  intro x5 x6 res hm;cases hm
 |succ n ih=>
  intro x5 x6 res hm;refine qM ?_;refine s_vu [] 3 [] [(21,vb (decide (x5<((a1.Sizes.length:Nat):Int))))] [] [] ?_;refine q_sq ?_;refine q_cm hm (λb7 hm=>?_) (λb7 hm=>?_)
  ·refine q_sk ?_;refine q_jn (ι:=Cutting_choice) (λp=>CN a1 a2 a3 a4 x5 p) (λp=>XC x5 (wC a1 a2 a3 a4 n) p=some res) ?_ ?_
   ·rintro x26 hm;show H _ (CN a1 a2 a3 a4 x5 x26) _ _;refine q_vu [] 4 [20] [(20,vi (w64 (x5+1)))] [] [] ?_;exact q_hl (BI a1 a2 a3 a4 (w64 (x5+1)) x26) (ih (w64 (x5+1)) x26 _ hm)
   ·refine q_bk 1 ?_;obtain⟨g8,hm⟩:=qG hm;refine s_vu [qd 1 (Dir.none) (inb_of g8)] 3 [21] [(10,vi x5),(11,vi (a1.Sizes.getD x5.toNat default))] [] [] ?_;refine s_vu [] 3 [11] [(12,vi (w64 (a2+(a1.Sizes.getD x5.toNat default))))] [] [] ?_;refine q_sq ?_;refine q_jn (ι:=Bool) (λp=>OA a1 a2 a3 a4 x5 x6 p) (λp=>TR a1 a2 a3 a4 x5 x6 (wC a1 a2 a3 a4 n) p=some res) ?_ ?_
    ·rintro x12 hm;show H _ (OA a1 a2 a3 a4 x5 x6 x12) _ _;refine q_cm hm (λb13 hm=>?_) (λb13 hm=>?_)
     ·refine q_ex 1 ?_;exact q_J (x6) hm
     ·refine q_sk ?_;obtain⟨g14,hm⟩:=qG hm;obtain⟨g15,hm⟩:=qG hm;refine s_vu [qd 6 (Dir.none) (inb_of g14),qd 9 (Dir.none) (inb_of g15)] 3 [10,42] [(13,vp 3 0)] [] [(3,bx 207 [ci x5,ci a2,ci ((a1.Gain.getD x5.toNat default).getD a2.toNat default)])] ?_;refine q_jn (ι:=Cutting_choice) (λp=>OT a1 a2 a3 a4 x5 x6 p) (λp=>TE x5 x6 (wC a1 a2 a3 a4 n) p=some res) ?_ ?_
      ·rintro x22 hm;show H _ (OT a1 a2 a3 a4 x5 x6 x22) _ _;refine q_jn (ι:=Bool) (λp=>CA a1 a2 a3 a4 x5 x6 x22 p) (λp=>TP x5 x6 (wC a1 a2 a3 a4 n) x22 p=some res) ?_ ?_
       ·rintro x24 hm;show H _ (CA a1 a2 a3 a4 x5 x6 x22 x24) _ _;refine q_cm hm (λb25 hm=>?_) (λb25 hm=>?_)
        ·refine q_vu [] 4 [13,89] [] [2,3] [(2,bx 207 (e_Cutting_choice x22))] ?_;exact q_J (x22) hm
        ·refine q_sk ?_;exact q_J (x6) hm
       ·rcases bif_c hm with⟨b23,hm⟩|⟨b23,hm⟩
        ·refine q_vu [qf 4 b23] 4 [] [(89,vb true)] [] [] ?_;exact q_J (true) hm
        ·refine q_vu [qf 4 b23] 4 [] [(89,vb (decide (x22.value>x6.value)))] [] [] ?_;exact q_J (decide (x22.value>x6.value)) hm
      ·obtain⟨v16,h17,hm⟩:=qA hm;refine s_vu [qc 2 [55,56] 4 (qAN a1 (w64 (a2+(a1.Sizes.getD x5.toNat default))) v16 h17)] 4 [] [(14,vi v16)] [] [] ?_;refine s_vu [] 4 [] [(59,vb (decide (v16≥0)))] [] [] ?_;refine q_cm hm (λb18 hm=>?_) (λb18 hm=>?_)
       ·obtain⟨g19,hm⟩:=qG hm;obtain⟨g20,hm⟩:=qG hm;obtain⟨g21,hm⟩:=qG hm;refine q_du [qd 4 (Dir.none) (inb_of g19),qd 8 (Dir.none) (inb_of g20),qd 13 (Dir.none) (inb_of g21)] [0,1,0,0,12,28,0,0,192,448,1020,0,0,6144,14336,30720,65532,131071,262143,524287] 4 [12,14,59] [] [3] [(3,bx 207 [ci x5,ci a2,ci (w64 (((a1.Gain.getD x5.toNat default).getD a2.toNat default)+(w64 ((w64 ((a3.getD v16.toNat default)-(a3.getD (w64 (a2+(a1.Sizes.getD x5.toNat default))).toNat default)))+((a4.getD v16.toNat default).value)))))])] ?_
        exact q_J ((Cutting_choice.mk (Piece.mk x5 a2) (w64 (((a1.Gain.getD x5.toNat default).getD a2.toNat default)+(w64 ((w64 ((a3.getD v16.toNat default)-(a3.getD (w64 (a2+(a1.Sizes.getD x5.toNat default))).toNat default)))+((a4.getD v16.toNat default).value))))))) hm
       ·refine q_sk ?_;exact q_J ((Cutting_choice.mk (Piece.mk x5 a2) ((a1.Gain.getD x5.toNat default).getD a2.toNat default))) hm
    ·rcases bif_c hm with⟨b9,hm⟩|⟨b9,hm⟩
     ·refine q_vu [qf 4 b9] 3 [] [(42,vb true)] [] [] ?_;exact q_J (true) hm
     ·obtain⟨g10,hm⟩:=qG hm;obtain⟨g11,hm⟩:=qG hm;refine q_vu [qf 4 b9,qd 8 (Dir.none) (inb_of g10),qd 11 (Dir.none) (inb_of g11)] 3 [] [(42,vb (decide (((a1.Gain.getD x5.toNat default).getD a2.toNat default)<0)))] [] [] ?_;exact q_J (decide (((a1.Gain.getD x5.toNat default).getD a2.toNat default)<0)) hm
  ·refine q_ex 0 ?_;obtain rfl:=oi hm;exact wD (by kernel_rfl) (by kernel_rfl)
theorem cutting_start_ok (a1:Line) (a2:Int) (a3:List Int) (a4:List Cutting_choice) (r:Cutting_choice) (hm:UP a1 a2 a3 a4=some r):CtX Tryz.prog globs 195 0 0 [.agg (zT a1),.one (ci a2),.one (tl e_i64 default a3),.one (tl e_Cutting_choice default a4)] [] (qCO r) (GX r):=by
 unfold UP at hm;refine q_E Tryz.f195 93 λE=>?_;refine s_vn [] 0 ⟨[(1,vi a2),(2,vc (tl e_i64 default a3)),(3,vc (tl e_Cutting_choice default a4)),(4,vp 0 0),(8,vp 1 0)],[(0,bx 84 (zT a1)),(1,bx 207 [ci 0,ci 0,ci 0])]⟩ ?_;refine s_vu [] 2 [] [(9,vp 2 0)] [] [(2,bx 207 [ci (-1),ci (-1),ci 0])] ?_;refine q_sq ?_;refine s_vu [] 3 [] [(18,vc (tl e_i64 default a1.Sizes)),(19,vi ((a1.Sizes.length:Nat):Int)),(20,vi 0)] [] [] ?_;obtain⟨o28,h29,hm⟩:=qA hm
 refine zD (nd Tryz.f195 116) 0 (by kernel_rfl) FUEL (λo=>CF o) o28 (q_hl (BI a1 a2 a3 a4 0 (Cutting_choice.mk (Piece.mk (-1) (-1)) 0)) (qFb E a1 a2 a3 a4 FUEL 0 (Cutting_choice.mk (Piece.mk (-1) (-1)) 0) o28 h29)) ?_;refine s_vu [] 3 [9] [] [1,2] [(1,bx 207 (e_Cutting_choice o28))] ?_;obtain rfl:=oi hm;refine q_rt ?_;exact q_rm
def qKx (r:(List Int)):V:=vo 0 0 1 r.length
def qKi (r:(List Int)):List (Nat×(Nat×O)):=[(0,ro 0 3 1 r.length (rf e_i64 r))]
def zaQ (a1:List Int) (l3:List Int) (l3n:Nat) (x4:Int):St:=
 ⟨[(3,vo 0 0 1 l3n),(10,vc (tl e_i64 default a1)),(11,vi ((a1.length:Nat):Int)),(12,vi x4)],[(0,ro 0 3 1 l3n (rf e_i64 l3))]⟩
def qAC (l9:List Int):St:=
 ⟨[(3,vo 0 0 1 l9.length)],[(0,ro 0 3 1 l9.length (rf e_i64 l9))]⟩
theorem qFu (E:Env 0) (a1:List Int):∀(n:Nat) (l3:List Int) (l3n:Nat) (x4:Int) (res:(List Int)),l3.length=l3n->JD a1 n l3 x4=some res->HL (kx E 29 0) (nd Tryz.f194 116) (zI 0 (λo=>qAC o) res) n (zaQ a1 l3 l3n x4):=by
 intro n
 induction n with
 |zero=>
  intro l3 l3n x4 res hl0 hm;cases hm
 |succ n ih=>
  intro l3 l3n x4 res hl0 hm;subst hl0;refine qM ?_;refine s_vu [] 1 [] [(13,vb (decide (x4<((a1.length:Nat):Int))))] [] [] ?_;refine q_sq ?_;refine q_cm hm (λb5 hm=>?_) (λb5 hm=>?_)
  ·refine q_sk ?_;refine q_sq ?_;refine q_bk 1 ?_;obtain⟨g6,hm⟩:=qG hm;refine s_vu [qd 1 (Dir.none) (inb_of g6)] 1 [13] [(4,vi x4),(5,vi (a1.getD x4.toNat default))] [] [] ?_;obtain⟨g7,hm⟩:=qG hm;obtain⟨g8,hm⟩:=qG hm
   refine q_vu [qd 5 (Dir.none) (inb_of g7),qd 6 (Dir.none) (toNat_lt (inb_of g7)),qd 9 (Dir.none) (inb_of g8),qd 10 (drw 0 0 (rf e_i64 (l3.set ((w64 (x4+1)).toNat) (w64 ((l3.getD x4.toNat default)+(a1.getD x4.toNat default)))))) (stP e_i64 default (w64 ((l3.getD x4.toNat default)+(a1.getD x4.toNat default))) l3 l3.length ((w64 (x4+1)).toNat) 0 [ci (w64 ((l3.getD x4.toNat default)+(a1.getD x4.toNat default)))] rfl (toNat_lt (inb_of g8)) rfl)] 1 [4,5] [] [0] [(0,ro 0 3 1 l3.length (rf e_i64 (l3.set ((w64 (x4+1)).toNat) (w64 ((l3.getD x4.toNat default)+(a1.getD x4.toNat default))))))] ?_
   refine q_vu [] 1 [12] [(12,vi (w64 (x4+1)))] [] [] ?_;exact q_hl (zaQ a1 (l3.set ((w64 (x4+1)).toNat) (w64 ((l3.getD x4.toNat default)+(a1.getD x4.toNat default)))) l3.length (w64 (x4+1))) (ih (l3.set ((w64 (x4+1)).toNat) (w64 ((l3.getD x4.toNat default)+(a1.getD x4.toNat default)))) l3.length (w64 (x4+1)) _ (len_set rfl) hm)
  ·refine q_ex 0 ?_;obtain rfl:=oi hm;exact wD (by kernel_rfl) (by kernel_rfl)
theorem qCU (a1:List Int) (r:(List Int)) (hm:RJ a1=some r):CtX Tryz.prog globs 194 0 0 [.one (tl e_i64 default a1)] [] (qKx r) (qKi r):=by
 unfold RJ at hm;refine q_E Tryz.f194 29 λE=>?_;refine s_vn [] 0 ⟨[(0,vc (tl e_i64 default a1))],[]⟩ ?_;obtain⟨g2,hm⟩:=qG hm;refine s_vu [qd 3 (drw 0 0 (rf e_i64 (List.replicate ((w64 (((a1.length:Nat):Int)+1)).toNat) 0))) (mkP e_i64 default 0 (w64 (((a1.length:Nat):Int)+1)) 8 [ci 0] (qGE g2) rfl)] 0 [] [(3,vo 0 0 1 ((w64 (((a1.length:Nat):Int)+1)).toNat))] [] [(0,ro 0 3 1 ((w64 (((a1.length:Nat):Int)+1)).toNat) (rf e_i64 (List.replicate ((w64 (((a1.length:Nat):Int)+1)).toNat) 0)))] ?_;refine q_sq ?_
 refine s_vu [] 1 [0] [(10,vc (tl e_i64 default a1)),(11,vi ((a1.length:Nat):Int)),(12,vi 0)] [] [] ?_;obtain⟨o10,h11,hm⟩:=qA hm;refine zD (nd Tryz.f194 116) 0 (by kernel_rfl) FUEL (λo=>qAC o) o10 (q_hl (zaQ a1 (List.replicate ((w64 (((a1.length:Nat):Int)+1)).toNat) 0) ((w64 (((a1.length:Nat):Int)+1)).toNat) 0) (qFu E a1 FUEL (List.replicate ((w64 (((a1.length:Nat):Int)+1)).toNat) 0) ((w64 (((a1.length:Nat):Int)+1)).toNat) 0 o10 qGt h11)) ?_;refine s_vu [] 1 [3] [(2,vo 0 0 1 o10.length)] [] [] ?_;obtain rfl:=oi hm;refine q_rt ?_;exact q_rm
def qGU (r:(List Cutting_choice)):V:=vo 0 0 3 r.length
def qGR (r:(List Cutting_choice)):List (Nat×(Nat×O)):=[(0,ro 0 207 3 r.length (rf e_Cutting_choice r))]
def EB (a1:Line) (v2:(List Int)) (v4:(List Int)) (l7:List Cutting_choice) (l8:List Cutting_choice) (x9:Int) (v11:Cutting_choice) (x20:Int) (x31:Cutting_choice):St:=
 ⟨[(1,vp 0 0),(3,vo 1 0 1 v2.length),(4,vo 2 0 1 v4.length),(5,vo 3 0 3 l7.length),(6,vo 4 0 3 l8.length),(7,vi x9),(8,vp 5 0),(10,vi x20)],[(0,bx 84 (zT a1)),(1,ro 0 3 1 v2.length (rf e_i64 v2)),(2,ro 0 3 1 v4.length (rf e_i64 v4)),(3,ro 0 207 3 l7.length (rf e_Cutting_choice l7)),(4,ro 0 207 3 l8.length (rf e_Cutting_choice (l8.set x9.toNat v11))),(5,bx 207 (e_Cutting_choice x31))]⟩
def HY (a1:Line) (v2:(List Int)) (v4:(List Int)) (l7:List Cutting_choice) (l8:List Cutting_choice) (x9:Int) (v11:Cutting_choice) (x20:Int) (x21:Cutting_choice) (x29:Bool):St:=
 ⟨[(1,vp 0 0),(3,vo 1 0 1 v2.length),(4,vo 2 0 1 v4.length),(5,vo 3 0 3 l7.length),(6,vo 4 0 3 l8.length),(7,vi x9),(8,vp 5 0),(10,vi x20),(11,vp 7 0),(125,vb x29)],[(0,bx 84 (zT a1)),(1,ro 0 3 1 v2.length (rf e_i64 v2)),(2,ro 0 3 1 v4.length (rf e_i64 v4)),(3,ro 0 207 3 l7.length (rf e_Cutting_choice l7)),(4,ro 0 207 3 l8.length (rf e_Cutting_choice (l8.set x9.toNat v11))),(5,bx 207 (e_Cutting_choice x21)),(7,bx 207 [ci ((((l8.set x9.toNat v11).getD x20.toNat default).piece).Size),ci ((((l8.set x9.toNat v11).getD x20.toNat default).piece).At),ci (w64 ((((l8.set x9.toNat v11).getD x20.toNat default).value)+(w64 ((w64 ((w64 ((v2.getD ((w64 (x20-a1.Kerf)).toNat) default)-(v2.getD x9.toNat default)))+(v4.getD x20.toNat default)))-(v4.getD ((w64 (x20-a1.Kerf)).toNat) default)))))])]⟩
def TM (a1:Line) (v2:(List Int)) (v4:(List Int)) (l7:List Cutting_choice) (l8:List Cutting_choice) (x9:Int) (v11:Cutting_choice) (x20:Int) (x21:Cutting_choice):St:=
 ⟨[(1,vp 0 0),(3,vo 1 0 1 v2.length),(4,vo 2 0 1 v4.length),(5,vo 3 0 3 l7.length),(6,vo 4 0 3 l8.length),(7,vi x9),(8,vp 5 0),(10,vi x20)],[(0,bx 84 (zT a1)),(1,ro 0 3 1 v2.length (rf e_i64 v2)),(2,ro 0 3 1 v4.length (rf e_i64 v4)),(3,ro 0 207 3 l7.length (rf e_Cutting_choice l7)),(4,ro 0 207 3 l8.length (rf e_Cutting_choice (l8.set x9.toNat v11))),(5,bx 207 (e_Cutting_choice x21))]⟩
def EL (a1:Line) (v2:(List Int)) (v4:(List Int)) (l7:List Cutting_choice) (l8:List Cutting_choice) (x9:Int) (v11:Cutting_choice) (x32:Cutting_choice):St:=
 ⟨[(1,vp 0 0),(3,vo 1 0 1 v2.length),(4,vo 2 0 1 v4.length),(5,vo 3 0 3 l7.length),(6,vo 4 0 3 l8.length),(7,vi x9),(8,vp 5 0)],[(0,bx 84 (zT a1)),(1,ro 0 3 1 v2.length (rf e_i64 v2)),(2,ro 0 3 1 v4.length (rf e_i64 v4)),(3,ro 0 207 3 l7.length (rf e_Cutting_choice l7)),(4,ro 0 207 3 l8.length (rf e_Cutting_choice (l8.set x9.toNat v11))),(5,bx 207 (e_Cutting_choice x32))]⟩
def SJ (a1:Line) (v2:(List Int)) (v4:(List Int)) (l7:List Cutting_choice) (l8:List Cutting_choice) (x9:Int) (v11:Cutting_choice) (x19:Cutting_choice):St:=
 ⟨[(1,vp 0 0),(3,vo 1 0 1 v2.length),(4,vo 2 0 1 v4.length),(5,vo 3 0 3 l7.length),(6,vo 4 0 3 l8.length),(7,vi x9),(8,vp 5 0)],[(0,bx 84 (zT a1)),(1,ro 0 3 1 v2.length (rf e_i64 v2)),(2,ro 0 3 1 v4.length (rf e_i64 v4)),(3,ro 0 207 3 l7.length (rf e_Cutting_choice l7)),(4,ro 0 207 3 l8.length (rf e_Cutting_choice (l8.set x9.toNat v11))),(5,bx 207 (e_Cutting_choice x19))]⟩
def EF (a1:Line) (v2:(List Int)) (v4:(List Int)) (l7:List Cutting_choice) (l8:List Cutting_choice) (x9:Int) (v11:Cutting_choice) (x17:Bool):St:=
 ⟨[(1,vp 0 0),(3,vo 1 0 1 v2.length),(4,vo 2 0 1 v4.length),(5,vo 3 0 3 l7.length),(6,vo 4 0 3 l8.length),(7,vi x9),(8,vp 5 0),(9,vp 6 0),(67,vb x17)],[(0,bx 84 (zT a1)),(1,ro 0 3 1 v2.length (rf e_i64 v2)),(2,ro 0 3 1 v4.length (rf e_i64 v4)),(3,ro 0 207 3 l7.length (rf e_Cutting_choice l7)),(4,ro 0 207 3 l8.length (rf e_Cutting_choice (l8.set x9.toNat v11))),(5,bx 207 [ci (-1),ci (-1),ci (w64 ((v2.getD a1.Len.toNat default)-(v2.getD x9.toNat default)))]),(6,bx 207 [ci ((((l8.set x9.toNat v11).getD x9.toNat default).piece).Size),ci ((((l8.set x9.toNat v11).getD x9.toNat default).piece).At),ci (((l8.set x9.toNat v11).getD x9.toNat default).value)])]⟩
def TB (a1:Line) (v2:(List Int)) (v4:(List Int)) (l7:List Cutting_choice) (l7n:Nat) (l8:List Cutting_choice) (l8n:Nat) (x9:Int):St:=
 ⟨[(1,vp 0 0),(3,vo 1 0 1 v2.length),(4,vo 2 0 1 v4.length),(5,vo 3 0 3 l7n),(6,vo 4 0 3 l8n),(7,vi x9)],[(0,bx 84 (zT a1)),(1,ro 0 3 1 v2.length (rf e_i64 v2)),(2,ro 0 3 1 v4.length (rf e_i64 v4)),(3,ro 0 207 3 l7n (rf e_Cutting_choice l7)),(4,ro 0 207 3 l8n (rf e_Cutting_choice l8))]⟩
def HW (l36:List Cutting_choice):St:=
 ⟨[(5,vo 3 0 3 l36.length)],[(3,ro 0 207 3 l36.length (rf e_Cutting_choice l36))]⟩
theorem qDC (E:Env 0) (a1:Line) (v2:(List Int)) (v4:(List Int)) (l7:List Cutting_choice) (l8:List Cutting_choice) (x9:Int) (v11:Cutting_choice):∀(n:Nat) (x20:Int) (x21:Cutting_choice) (res:Cutting_choice),zX a1 v2 v4 l8 x9 v11 n x20 x21=some res->HL (kx E 132 0) (nd Tryz.f151 512628) (zI 2 (λo=>EL a1 v2 v4 l7 l8 x9 v11 o) res) n (TM a1 v2 v4 l7 l8 x9 v11 x20 x21):=by
 intro n
 induction n with
 |zero=>
  intro x20 x21 res hm;cases hm
 |succ n ih=>
  intro x20 x21 res hm;refine qM ?_;refine q_sq ?_;refine s_vu [] 7 [] [(79,vb (decide (x20<=a1.Len)))] [] [] ?_;refine q_cm hm (λb22 hm=>?_) (λb22 hm=>?_)
  ·refine q_sk ?_;refine q_jn (ι:=Cutting_choice) (λp=>EB a1 v2 v4 l7 l8 x9 v11 x20 p) (λp=>KB a1 x20 (zX a1 v2 v4 l8 x9 v11 n) p=some res) ?_ ?_
   ·rintro x31 hm;show H _ (EB a1 v2 v4 l7 l8 x9 v11 x20 x31) _ _;refine q_vu [] 8 [10] [(10,vi (w64 (x20+a1.Pitch)))] [] [] ?_;exact q_hl (TM a1 v2 v4 l7 l8 x9 v11 (w64 (x20+a1.Pitch)) x31) (ih (w64 (x20+a1.Pitch)) x31 _ hm)
   ·refine q_bk 3 ?_;obtain⟨g23,hm⟩:=qG hm;refine s_vu [qd 2 (Dir.none) (inb_of g23),qd 3 (Dir.none) (toNat_lt (inb_of g23))] 7 [79] [(11,vp 7 0)] [] [(7,bx 207 [ci ((((l8.set x9.toNat v11).getD x20.toNat default).piece).Size),ci ((((l8.set x9.toNat v11).getD x20.toNat default).piece).At),ci (((l8.set x9.toNat v11).getD x20.toNat default).value)])] ?_;refine s_vu [] 8 [] [(12,vi (w64 (x20-a1.Kerf)))] [] [] ?_;obtain⟨g24,hm⟩:=qG hm;obtain⟨g25,hm⟩:=qG hm;obtain⟨g26,hm⟩:=qG hm;obtain⟨g27,hm⟩:=qG hm
    refine s_du [qd 4 (Dir.none) (inb_of g24),qd 5 (Dir.none) (toNat_lt (inb_of g24)),qd 8 (Dir.none) (inb_of g25),qd 9 (Dir.none) (toNat_lt (inb_of g25)),qd 13 (Dir.none) (inb_of g26),qd 14 (Dir.none) (toNat_lt (inb_of g26)),qd 18 (Dir.none) (inb_of g27),qd 19 (Dir.none) (toNat_lt (inb_of g27))] [0,1,0,0,12,28,0,0,192,448,1020,0,0,6144,14336,32764,0,0,196608,458752,1048572,2097151,4194303,8388607] 8 [12] [] [7] [(7,bx 207 [ci ((((l8.set x9.toNat v11).getD x20.toNat default).piece).Size),ci ((((l8.set x9.toNat v11).getD x20.toNat default).piece).At),ci (w64 ((((l8.set x9.toNat v11).getD x20.toNat default).value)+(w64 ((w64 ((w64 ((v2.getD ((w64 (x20-a1.Kerf)).toNat) default)-(v2.getD x9.toNat default)))+(v4.getD x20.toNat default)))-(v4.getD ((w64 (x20-a1.Kerf)).toNat) default)))))])] ?_
    refine q_jn (ι:=Bool) (λp=>HY a1 v2 v4 l7 l8 x9 v11 x20 x21 p) (λp=>KP a1 v2 v4 l8 x9 v11 x20 x21 (zX a1 v2 v4 l8 x9 v11 n) p=some res) ?_ ?_
    ·rintro x29 hm;show H _ (HY a1 v2 v4 l7 l8 x9 v11 x20 x21 x29) _ _;refine q_cm hm (λb30 hm=>?_) (λb30 hm=>?_)
     ·refine q_vu [] 8 [11,125] [] [5,7] [(5,bx 207 [ci ((((l8.set x9.toNat v11).getD x20.toNat default).piece).Size),ci ((((l8.set x9.toNat v11).getD x20.toNat default).piece).At),ci (w64 ((((l8.set x9.toNat v11).getD x20.toNat default).value)+(w64 ((w64 ((w64 ((v2.getD ((w64 (x20-a1.Kerf)).toNat) default)-(v2.getD x9.toNat default)))+(v4.getD x20.toNat default)))-(v4.getD ((w64 (x20-a1.Kerf)).toNat) default)))))])] ?_
      exact q_J ((Cutting_choice.mk (((l8.set x9.toNat v11).getD x20.toNat default).piece) (w64 ((((l8.set x9.toNat v11).getD x20.toNat default).value)+(w64 ((w64 ((w64 ((v2.getD ((w64 (x20-a1.Kerf)).toNat) default)-(v2.getD x9.toNat default)))+(v4.getD x20.toNat default)))-(v4.getD ((w64 (x20-a1.Kerf)).toNat) default))))))) hm
     ·refine q_sk ?_;exact q_J (x21) hm
    ·rcases bif_c hm with⟨b28,hm⟩|⟨b28,hm⟩
     ·refine q_vu [qf 4 b28] 8 [] [(125,vb (decide ((w64 ((((l8.set x9.toNat v11).getD x20.toNat default).value)+(w64 ((w64 ((w64 ((v2.getD ((w64 (x20-a1.Kerf)).toNat) default)-(v2.getD x9.toNat default)))+(v4.getD x20.toNat default)))-(v4.getD ((w64 (x20-a1.Kerf)).toNat) default)))))>x21.value)))] [] [] ?_;exact q_J (decide ((w64 ((((l8.set x9.toNat v11).getD x20.toNat default).value)+(w64 ((w64 ((w64 ((v2.getD ((w64 (x20-a1.Kerf)).toNat) default)-(v2.getD x9.toNat default)))+(v4.getD x20.toNat default)))-(v4.getD ((w64 (x20-a1.Kerf)).toNat) default)))))>x21.value)) hm
     ·refine q_vu [qf 4 b28] 8 [] [(125,vb false)] [] [] ?_;exact q_J (false) hm
  ·refine q_ex 2 ?_;obtain rfl:=oi hm;exact wD (by kernel_rfl) (by kernel_rfl)
theorem qDx (E:Env 0) (a1:Line) (v2:(List Int)) (v4:(List Int)):∀(n:Nat) (l7:List Cutting_choice) (l7n:Nat) (l8:List Cutting_choice) (l8n:Nat) (x9:Int) (res:(List Cutting_choice)),l7.length=l7n->l8.length=l8n->wG a1 v2 v4 n l7 l8 x9=some res->HL (kx E 132 0) (nd Tryz.f151 500) (zI 0 (λo=>HW o) res) n (TB a1 v2 v4 l7 l7n l8 l8n x9):=by
 intro n
 induction n with
 |zero=>
  intro l7 l7n l8 l8n x9 res hl0 hl1 hm;cases hm
 |succ n ih=>
  intro l7 l7n l8 l8n x9 res hl0 hl1 hm;subst hl0;subst hl1;refine qM ?_;refine q_sq ?_;refine s_vu [] 5 [] [(30,vb (decide (x9≥0)))] [] [] ?_;refine q_cm hm (λb10 hm=>?_) (λb10 hm=>?_)
  ·refine q_sk ?_;refine q_sq ?_;refine q_bk 1 ?_;obtain⟨v11,h12,hm⟩:=qA hm;obtain⟨g13,hm⟩:=qG hm
   refine s_vu [qd 6 (dex (cen [] [] 5 0 (qCO v11) (GX v11) [35,36,37,38] [2,3])) (wJ (K:=(kx E 132 0)) (b:=false) ⟨[(35,va (zT a1)),(36,vi x9),(37,vo 2 0 1 v4.length),(38,vo 3 0 3 l7.length)],[(2,ro 0 3 1 v4.length (rf e_i64 v4)),(3,ro 0 207 3 l7.length (rf e_Cutting_choice l7))]⟩ (opAt (rg Tryz.f151 8008) 6) [] [] 5 (o1 (And.intro (Nat.le_refl v4.length) (Nat.le_refl l7.length))) rfl (cutting_start_ok a1 x9 v4 l7 v11 h12) (.inr ⟨(by kernel_rfl),qIP v11⟩) (by kernel_rfl)),qd 7 (Dir.none) (inb_of g13),qd 8 (drw 0 0 (rf e_Cutting_choice (l8.set x9.toNat v11))) (stP e_Cutting_choice default v11 l8 l8.length x9.toNat 0 (e_Cutting_choice v11) rfl (toNat_lt (inb_of g13)) rfl)] 5 [30] [] [4] [(4,ro 0 207 3 l8.length (rf e_Cutting_choice (l8.set x9.toNat v11)))] ?_
   obtain⟨g14,hm⟩:=qG hm;obtain⟨g15,hm⟩:=qG hm;refine s_du [qd 4 (Dir.none) (inb_of g14),qd 5 (Dir.none) (toNat_lt (inb_of g14)),qd 8 (Dir.none) (inb_of g15),qd 9 (Dir.none) (toNat_lt (inb_of g15))] [0,0,0,4,14,30,0,0,192,448,1022,2047,0,8191] 5 [] [(8,vp 5 0)] [] [(5,bx 207 [ci (-1),ci (-1),ci (w64 ((v2.getD a1.Len.toNat default)-(v2.getD x9.toNat default)))])] ?_;refine q_jn (ι:=Cutting_choice) (λp=>SJ a1 v2 v4 l7 l8 x9 v11 p) (λp=>KF a1 v2 v4 l7 l8 x9 (wG a1 v2 v4 n) v11 p=some res) ?_ ?_
   ·rintro x19 hm;show H _ (SJ a1 v2 v4 l7 l8 x9 v11 x19) _ _;refine q_sq ?_;refine s_vu [] 7 [] [(10,vi (w64 ((w64 (x9+a1.Pitch))+a1.Kerf)))] [] [] ?_;obtain⟨o33,h34,hm⟩:=qA hm;refine zD (nd Tryz.f151 512628) 2 (by kernel_rfl) FUEL (λo=>EL a1 v2 v4 l7 l8 x9 v11 o) o33 (q_hl (TM a1 v2 v4 l7 l8 x9 v11 (w64 ((w64 (x9+a1.Pitch))+a1.Kerf)) x19) (qDC E a1 v2 v4 l7 l8 x9 v11 FUEL (w64 ((w64 (x9+a1.Pitch))+a1.Kerf)) x19 o33 h34)) ?_;obtain⟨g35,hm⟩:=qG hm
    refine q_vu [qd 3 (Dir.none) (inb_of g35),qd 4 (drw 0 0 (rf e_Cutting_choice (l7.set x9.toNat o33))) (stP e_Cutting_choice default o33 l7 l7.length x9.toNat 0 (e_Cutting_choice o33) rfl (toNat_lt (inb_of g35)) rfl)] 7 [8] [] [3,5] [(3,ro 0 207 3 l7.length (rf e_Cutting_choice (l7.set x9.toNat o33)))] ?_;refine q_vu [] 7 [7] [(7,vi (w64 (x9-1)))] [] [] ?_;exact q_hl (TB a1 v2 v4 (l7.set x9.toNat o33) l7.length (l8.set x9.toNat v11) l8.length (w64 (x9-1))) (ih (l7.set x9.toNat o33) l7.length (l8.set x9.toNat v11) l8.length (w64 (x9-1)) _ (len_set rfl) (len_set rfl) hm)
   ·refine s_vu [qd 2 (Dir.none) (inb_of g13),qd 3 (Dir.none) (toNat_lt (inb_of g13))] 6 [] [(9,vp 6 0)] [] [(6,bx 207 [ci ((((l8.set x9.toNat v11).getD x9.toNat default).piece).Size),ci ((((l8.set x9.toNat v11).getD x9.toNat default).piece).At),ci (((l8.set x9.toNat v11).getD x9.toNat default).value)])] ?_;refine q_jn (ι:=Bool) (λp=>EF a1 v2 v4 l7 l8 x9 v11 p) (λp=>XZ a1 v2 v4 l7 l8 x9 (wG a1 v2 v4 n) v11 p=some res) ?_ ?_
    ·rintro x17 hm;show H _ (EF a1 v2 v4 l7 l8 x9 v11 x17) _ _;refine q_cm hm (λb18 hm=>?_) (λb18 hm=>?_)
     ·refine q_vu [] 7 [9,67] [] [5,6] [(5,bx 207 [ci ((((l8.set x9.toNat v11).getD x9.toNat default).piece).Size),ci ((((l8.set x9.toNat v11).getD x9.toNat default).piece).At),ci (((l8.set x9.toNat v11).getD x9.toNat default).value)])] ?_;exact q_J (((l8.set x9.toNat v11).getD x9.toNat default)) hm
     ·refine q_sk ?_;exact q_J ((Cutting_choice.mk (Piece.mk (-1) (-1)) (w64 ((v2.getD a1.Len.toNat default)-(v2.getD x9.toNat default))))) hm
    ·rcases bif_c hm with⟨b16,hm⟩|⟨b16,hm⟩
     ·refine q_vu [qf 4 b16] 7 [] [(67,vb (decide ((((l8.set x9.toNat v11).getD x9.toNat default).value)>(w64 ((v2.getD a1.Len.toNat default)-(v2.getD x9.toNat default))))))] [] [] ?_;exact q_J (decide ((((l8.set x9.toNat v11).getD x9.toNat default).value)>(w64 ((v2.getD a1.Len.toNat default)-(v2.getD x9.toNat default))))) hm
     ·refine q_vu [qf 4 b16] 7 [] [(67,vb false)] [] [] ?_;exact q_J (false) hm
  ·refine q_ex 0 ?_;obtain rfl:=oi hm;exact wD (by kernel_rfl) (by kernel_rfl)
theorem qF7 (a1:Line) (r:(List Cutting_choice)) (hm:KN a1=some r):CtX Tryz.prog globs 151 0 0 [.agg (zT a1)] [] (qGU r) (qGR r):=by
 unfold KN at hm;refine q_E Tryz.f151 132 λE=>?_;refine s_vn [] 0 ⟨[(1,vp 0 0)],[(0,bx 84 (zT a1))]⟩ ?_;obtain⟨v2,h3,hm⟩:=qA hm;obtain⟨v4,h5,hm⟩:=qA hm;refine s_du [qc 2 [14] 1 (qCU a1.Chip v2 h3),qc 5 [17] 2 (qCU a1.Dust v4 h5)] [0,1,3,0,8,31,63,127] 1 [] [(3,vo 1 0 1 v2.length),(4,vo 2 0 1 v4.length)] [] [(1,ro 0 3 1 v2.length (rf e_i64 v2)),(2,ro 0 3 1 v4.length (rf e_i64 v4))] ?_;obtain⟨g6,hm⟩:=qG hm
 refine s_vu [qd 3 (drw 3 0 (rf e_Cutting_choice (List.replicate ((w64 (a1.Len+1)).toNat) (Cutting_choice.mk (Piece.mk 0 0) 0)))) (mkP e_Cutting_choice default (Cutting_choice.mk (Piece.mk 0 0) 0) (w64 (a1.Len+1)) 24 [ci 0,ci 0,ci 0] (qGE g6) rfl)] 3 [] [(5,vo 3 0 3 ((w64 (a1.Len+1)).toNat))] [] [(3,ro 0 207 3 ((w64 (a1.Len+1)).toNat) (rf e_Cutting_choice (List.replicate ((w64 (a1.Len+1)).toNat) (Cutting_choice.mk (Piece.mk 0 0) 0))))] ?_
 refine s_vu [qd 3 (drw 4 0 (rf e_Cutting_choice (List.replicate ((w64 (a1.Len+1)).toNat) (Cutting_choice.mk (Piece.mk 0 0) 0)))) (mkP e_Cutting_choice default (Cutting_choice.mk (Piece.mk 0 0) 0) (w64 (a1.Len+1)) 24 [ci 0,ci 0,ci 0] (qGE g6) rfl)] 4 [] [(6,vo 4 0 3 ((w64 (a1.Len+1)).toNat))] [] [(4,ro 0 207 3 ((w64 (a1.Len+1)).toNat) (rf e_Cutting_choice (List.replicate ((w64 (a1.Len+1)).toNat) (Cutting_choice.mk (Piece.mk 0 0) 0))))] ?_;refine q_sq ?_;refine s_vu [] 5 [] [(7,vi a1.Len)] [] [] ?_;obtain⟨o37,h38,hm⟩:=qA hm
 refine zD (nd Tryz.f151 500) 0 (by kernel_rfl) FUEL (λo=>HW o) o37 (q_hl (TB a1 v2 v4 (List.replicate ((w64 (a1.Len+1)).toNat) (Cutting_choice.mk (Piece.mk 0 0) 0)) ((w64 (a1.Len+1)).toNat) (List.replicate ((w64 (a1.Len+1)).toNat) (Cutting_choice.mk (Piece.mk 0 0) 0)) ((w64 (a1.Len+1)).toNat) a1.Len) (qDx E a1 v2 v4 FUEL (List.replicate ((w64 (a1.Len+1)).toNat) (Cutting_choice.mk (Piece.mk 0 0) 0)) ((w64 (a1.Len+1)).toNat) (List.replicate ((w64 (a1.Len+1)).toNat) (Cutting_choice.mk (Piece.mk 0 0) 0)) ((w64 (a1.Len+1)).toNat) a1.Len o37 qGt qGt h38)) ?_
 refine s_vu [] 5 [5] [(2,vo 3 0 3 o37.length)] [] [] ?_;obtain rfl:=oi hm;refine qW 3 0 (by kernel_rfl) ?_;refine q_rt ?_;exact q_rm
def AL (r:(List Piece)×Int×Int):V:= .tup [.one (.own 0 0 2 r.1.length),.one (ci r.2.1),.one (ci r.2.2)]
def RP (r:(List Piece)×Int×Int):List (Nat×(Nat×O)):=[(0,ro 0 92 2 r.1.length (rf wO r.1))]
theorem qDT (r:(List Piece)×Int×Int):jU (RP r):=by
 intro i k o h;unfold RP at h;rw[look_cons] at h;split at h
 ·cases h;exact λ_ _=>rfl
 ·cases h
def FF (a1:Line) (v5:(List Cutting_choice)) (l7:List Piece) (l7n:Nat) (x8:Int):St:=
 ⟨[(1,vp 0 0),(6,vo 1 0 3 v5.length),(7,vo 2 0 2 l7n),(8,vi x8)],[(0,bx 84 (zT a1)),(1,ro 0 207 3 v5.length (rf e_Cutting_choice v5)),(2,ro 0 92 2 l7n (rf wO l7))]⟩
def qAM (v5:(List Cutting_choice)) (l16:List Piece):St:=
 ⟨[(6,vo 1 0 3 v5.length),(7,vo 2 0 2 l16.length)],[(1,ro 0 207 3 v5.length (rf e_Cutting_choice v5)),(2,ro 0 92 2 l16.length (rf wO l16))]⟩
theorem qGo (E:Env 0) (a1:Line) (v5:(List Cutting_choice)):∀(n:Nat) (l7:List Piece) (l7n:Nat) (x8:Int) (res:(List Piece)),l7.length=l7n->WY a1 v5 n l7 x8=some res->HL (kx E 47 0) (nd Tryz.f87 500) (zI 0 (λo=>qAM v5 o) res) n (FF a1 v5 l7 l7n x8):=by
 intro n
 induction n with
 |zero=>
  intro l7 l7n x8 res hl0 hm;cases hm
 |succ n ih=>
  intro l7 l7n x8 res hl0 hm;subst hl0;refine qM ?_;refine q_sq ?_;refine s_vu [] 3 [] [(18,vb (decide (x8≥0)))] [] [] ?_;refine q_cm hm (λb9 hm=>?_) (λb9 hm=>?_)
  ·refine q_sk ?_;refine q_bk 1 ?_;obtain⟨g10,hm⟩:=qG hm;refine s_vu [qd 2 (Dir.none) (inb_of g10),qd 4 (Dir.none) (toNat_lt (inb_of g10))] 3 [8,18] [(9,vp 3 0)] [] [(3,bx 92 [ci (((v5.getD x8.toNat default).piece).Size),ci (((v5.getD x8.toNat default).piece).At)])] ?_;refine q_sq ?_;refine s_vu [] 4 [] [(26,vb (((((v5.getD x8.toNat default).piece).Size)==(-1))&&(((((v5.getD x8.toNat default).piece).At)==(-1))&&true)))] [] [] ?_;refine q_cm hm (λb11 hm=>?_) (λb11 hm=>?_)
   ·refine q_ex 0 ?_;obtain rfl:=oi hm;exact wD (by kernel_rfl) (by kernel_rfl)
   ·refine q_sk ?_;obtain⟨g12,hm⟩:=qG hm;refine s_vu [qd 2 (drw 4 0 (rf wO ([(v5.getD x8.toNat default).piece]:List Piece))) (litP wO default 2 (λ_=>rfl) ([(v5.getD x8.toNat default).piece]:List Piece) 1 rfl),qd 3 (drw 2 1 (rf wO (l7++([(v5.getD x8.toNat default).piece]:List Piece)))) (apP wO default l7 ([(v5.getD x8.toNat default).piece]:List Piece) l7.length 1 2 16 (1<=1) (Nat.le_refl _) rfl rfl (λ_=>rfl) (zL g12))] 4 [7,26] [(7,vo 2 1 2 (l7.length+1))] [2] [(2,ro 1 92 2 (l7.length+1) (rf wO (l7++([(v5.getD x8.toNat default).piece]:List Piece))))] ?_;obtain⟨g13,hm⟩:=qG hm
    obtain⟨v14,h15,hm⟩:=qA hm;refine q_du [qd 7 (Dir.none) (inb_of g13),qc 10 [31,40] 5 (qAN a1 (w64 ((((v5.getD x8.toNat default).piece).At)+(a1.Sizes.getD (((v5.getD x8.toNat default).piece).Size).toNat default))) v14 h15)] [0,0,2,0,8,0,32,120,248,510,1023,2047] 5 [9] [(8,vi v14)] [3] [] ?_;exact q_hl (FF a1 v5 (l7++([(v5.getD x8.toNat default).piece]:List Piece)) (l7.length+1) v14) (ih (l7++([(v5.getD x8.toNat default).piece]:List Piece)) (l7.length+1) v14 _ (len_app rfl rfl) hm)
  ·refine q_ex 0 ?_;obtain rfl:=oi hm;exact wD (by kernel_rfl) (by kernel_rfl)
theorem cutting_Best_ok (a1:Line) (r:(List Piece)×Int×Int) (hm:QI a1=some r):CtX Tryz.prog globs 87 0 0 [.agg (zT a1)] [] (AL r) (RP r):=by
 unfold QI at hm;refine q_E Tryz.f87 47 λE=>?_;refine s_vn [] 0 ⟨[(1,vp 0 0)],[(0,bx 84 (zT a1))]⟩ ?_;refine q_sq ?_;obtain⟨v2,h3,hm⟩:=qA hm;refine s_vu [qc 1 [10] 1 (qHz a1 v2 h3)] 1 [] [(5,vi v2)] [] [] ?_;refine s_vu [] 1 [] [(13,vb (v2 !=0))] [] [] ?_;refine q_cm hm (λb4 hm=>?_) (λb4 hm=>?_)
 ·refine s_vn [] 1 ⟨[(2,vc (.emp)),(3,vi 0),(4,vi v2)],[]⟩ ?_;refine q_fn [.own 2 1 92 2 (rf wO ([]:List Piece))] ⟨[(2,vo 1 0 2 0),(3,vi 0),(4,vi v2)],[(1,ro 0 92 2 0 (rf wO ([]:List Piece)))]⟩ o0 ?_;refine q_fn [.len 1 (([]:List Piece).length)] ⟨[(2,vo 1 0 2 (([]:List Piece).length)),(3,vi 0),(4,vi v2)],[(1,ro 0 92 2 (([]:List Piece).length) (rf wO ([]:List Piece)))]⟩ (o1 (And.intro (show 0=([]:List Piece).length from rfl) (show 0=([]:List Piece).length from rfl))) ?_;obtain rfl:=oi hm;refine qW 1 0 (by kernel_rfl) ?_;refine q_rt ?_;exact q_rm
 ·refine q_sk ?_;obtain⟨v5,h6,hm⟩:=qA hm;refine s_vu [qc 1 [15] 1 (qF7 a1 v5 h6)] 1 [5,13] [(6,vo 1 0 3 v5.length)] [] [(1,ro 0 207 3 v5.length (rf e_Cutting_choice v5))] ?_;refine s_vu [] 2 [] [(7,vc (.emp))] [] [] ?_;refine q_sq ?_;refine s_vu [] 2 [] [(8,vi 0)] [] [] ?_;refine q_fn [.own 7 2 92 2 (rf wO ([]:List Piece))] ⟨[(1,vp 0 0),(6,vo 1 0 3 v5.length),(7,vo 2 0 2 0),(8,vi 0)],[(0,bx 84 (zT a1)),(1,ro 0 207 3 v5.length (rf e_Cutting_choice v5)),(2,ro 0 92 2 0 (rf wO ([]:List Piece)))]⟩ o0 ?_;obtain⟨o17,h18,hm⟩:=qA hm
  refine zD (nd Tryz.f87 500) 0 (by kernel_rfl) FUEL (λo=>qAM v5 o) o17 (q_hl (FF a1 v5 ([]:List Piece) 0 0) (qGo E a1 v5 FUEL ([]:List Piece) 0 0 o17 rfl h18)) ?_;obtain⟨g19,hm⟩:=qG hm;refine s_du [qd 2 (Dir.none) (inb_of g19),qd 4 (Dir.none) (toNat_lt (inb_of g19))] [0,0,2,6,14,1,63,127] 3 [6,7] [(2,vo 2 0 2 o17.length),(3,vi ((v5.getD ((0:Int).toNat) default).value)),(4,vi 0)] [1] [] ?_;obtain rfl:=oi hm;refine qW 2 0 (by kernel_rfl) ?_;refine q_rt ?_;exact q_rm
def WL (a1:List Node) (a2:Int) (a3:List Node) (r:Int×(List Node)):V:= .undef
def pattern_Row_1_s1_o (a1:List Node) (a2:Int) (a3:List Node) (r:Int×(List Node)):List (Nat×(Nat×O)):=[(0,bx 3 [ci r.1]),(1,bx 44 [.own 2 0 2 r.2.length]),(2,ro 0 65 2 r.2.length (rf e_Node r.2))]
theorem BR (a1:List Node) (a2:Int) (a3:List Node) (r:Int×(List Node)):jU (pattern_Row_1_s1_o a1 a2 a3 r):=by
 intro i k o h;unfold pattern_Row_1_s1_o at h;rw[look_cons] at h;split at h
 ·cases h;rfl
 ·rw[look_cons] at h;split at h
  ·cases h;rfl
  ·rw[look_cons] at h;split at h
   ·cases h;exact λ_ _=>rfl
   ·cases h
theorem XJ (a1:List Node) (a2:Int) (a3:List Node) (r:Int×(List Node)) (hm:jK a1 a2 a3=some r):CtX Tryz.prog globs 154 3 2 [.one (tl e_Node default a1),.one (.bptr 0 0 0),.one (.bptr 1 0 0)] [(0,bx 3 [ci a2]),(1,bx 44 [.own 2 0 2 a3.length]),(2,ro 0 65 2 a3.length (rf e_Node a3))] (WL a1 a2 a3 r) (pattern_Row_1_s1_o a1 a2 a3 r):=by
 unfold jK at hm;refine q_E Tryz.f154 13 λE=>?_;refine s_vn [] 3 ⟨[(0,vc (tl e_Node default a1)),(1,vp 0 0),(2,vp 1 0)],[(0,bx 3 [ci (w64 (a2+((a1.length:Nat):Int)))]),(1,bx 44 [.own 2 0 2 a3.length]),(2,ro 0 65 2 a3.length (rf e_Node a3))]⟩ ?_;refine s_vu [] 3 [1] [(9,vb (decide ((w64 (a2+((a1.length:Nat):Int)))<=127)))] [] [] ?_;refine q_cm hm (λb4 hm=>?_) (λb4 hm=>?_)
 ·obtain⟨g5,hm⟩:=qG hm;refine q_wu [qd 2 (drw 2 1 (rf e_Node (a3++a1))) (apP e_Node default a3 a1 a3.length a1.length 2 16 (True) trivial rfl rfl (λ_=>rfl) (zL g5))] [.len 2 ((a3++a1).length)] (o1 (And.intro (Eq.symm (show(a3++a1).length=(a3.length+a1.length) from(len_app rfl rfl))) (And.intro (Eq.symm (show(a3++a1).length=(a3.length+a1.length) from(len_app rfl rfl))) (Eq.symm (show(a3++a1).length=(a3.length+a1.length) from(len_app rfl rfl)))))) 3 [0,2,9] [] [1,2] [(1,bx 44 [.own 2 1 2 ((a3++a1).length)]),(2,ro 1 65 2 ((a3++a1).length) (rf e_Node (a3++a1)))] ?_;obtain rfl:=oi hm;exact q_rm
 ·refine q_sk ?_;obtain rfl:=oi hm;exact q_rm
def qJB (r:Bool):V:=vb r
def qIt (r:Bool):List (Nat×(Nat×O)):=[]
def OD (x3:Bool):St:=
 ⟨[(2,vb x3)],[]⟩
theorem qHw (a1:Int) (r:Bool) (hm:wE a1=some r):CtX Tryz.prog globs 153 0 0 [.one (ci a1)] [] (qJB r) (qIt r):=by
 unfold wE at hm;refine q_E Tryz.f153 9 λE=>?_;refine s_vn [] 0 ⟨[(0,vi a1)],[]⟩ ?_;refine q_jn (ι:=Bool) (λp=>OD p) (λp=>TQ p=some r) ?_ ?_
 ·rintro x3 hm;show H _ (OD x3) _ _;obtain rfl:=oi hm;refine q_rt ?_;exact q_rm
 ·rcases bif_c hm with⟨b2,hm⟩|⟨b2,hm⟩
  ·refine q_vn [qf 2 b2] 0 ⟨[(2,vb true)],[]⟩ ?_;exact q_J (true) hm
  ·refine q_vn [qf 2 b2] 0 ⟨[(2,vb (a1==3))],[]⟩ ?_;exact q_J (a1==3) hm
def qI7 (r:Span):V:=va (e_Span r)
def qJg (r:Span):List (Nat×(Nat×O)):=[]
theorem qHD (a1:Rect) (a2:Int) (r:Span) (hm:QZ a1 a2=some r):CtX Tryz.prog globs 155 0 0 [.agg (qH a1),.one (ci a2)] [] (qI7 r) (qJg r):=by
 unfold QZ at hm;refine q_E Tryz.f155 11 λE=>?_;refine s_vn [] 0 ⟨[(1,vi a2),(2,vp 0 0),(4,vp 1 0)],[(0,bx 33 (qH a1)),(1,bx 31 [ci 0,ci 0])]⟩ ?_;refine q_sq ?_;refine s_vu [] 2 [1] [(6,vb (a2==2))] [] [] ?_;refine q_cm hm (λb3 hm=>?_) (λb3 hm=>?_)
 ·refine s_vn [] 2 ⟨[(4,vp 1 0)],[(1,bx 31 (e_Span a1.X))]⟩ ?_;obtain rfl:=oi hm;refine q_rt ?_;exact q_rm
 ·refine q_sk ?_;refine s_vn [] 2 ⟨[(4,vp 1 0)],[(1,bx 31 (e_Span a1.Y))]⟩ ?_;obtain rfl:=oi hm;refine q_rt ?_;exact q_rm
def FO (r:Bool):V:=vb r
def FZ (r:Bool):List (Nat×(Nat×O)):=[]
def EK (a1:Rect) (x2:Int) (x7:Bool):St:=
 ⟨[(9,va (qH a1)),(10,vi x2),(27,vb x7)],[]⟩
def TS (a1:Rect) (x2:Int):St:=
 ⟨[(9,va (qH a1)),(10,vi x2)],[]⟩
def EC :St:=
 ⟨[],[]⟩
theorem qDI (E:Env 0) (a1:Rect):∀(n:Nat) (x2:Int) (res:Bool⊕Unit),qY a1 n x2=some res->HL (kx E 29 0) (nd Tryz.f115 52) (zV 0 (λo=>EC) (λv st=>RetQ Tryz.prog Tryz.f115 (FO v) (FZ v) .ret st) res) n (TS a1 x2):=by
 intro n
 induction n with
 |zero=>
  intro x2 res hm;cases hm
 |succ n ih=>
  intro x2 res hm;refine qM ?_;refine s_vu [] 1 [] [(11,vb (decide (x2<2)))] [] [] ?_;refine q_sq ?_;refine q_cm hm (λb3 hm=>?_) (λb3 hm=>?_)
  ·refine q_sk ?_;refine q_sq ?_;refine q_bk 1 ?_;obtain⟨g4,hm⟩:=qG hm;refine s_vu [qd 0 (Dir.none) (inb_of g4)] 1 [11] [(4,vp 1 0)] [] [(1,bx 31 [ci (([a1.X.A,a1.X.B,a1.Y.A,a1.Y.B]:List Int).getD (x2.toNat*2+0) 0),ci (([a1.X.A,a1.X.B,a1.Y.A,a1.Y.B]:List Int).getD (x2.toNat*2+1) 0)])] ?_;refine q_jn (ι:=Bool) (λp=>EK a1 x2 p) (λp=>wH x2 (qY a1 n) p=some res) ?_ ?_
   ·rintro x7 hm;show H _ (EK a1 x2 x7) _ _;refine q_cm hm (λb8 hm=>?_) (λb8 hm=>?_)
    ·refine s_vn [] 2 ⟨[(2,vb false)],[]⟩ ?_;obtain rfl:=oi hm;refine q_rt ?_;refine qT false ?_;exact q_rm
    ·refine q_sk ?_;refine q_vu [] 2 [10,27] [(10,vi (w64 (x2+1)))] [] [] ?_;exact q_hl (TS a1 (w64 (x2+1))) (ih (w64 (x2+1)) _ hm)
   ·rcases bif_c hm with⟨b5,hm⟩|⟨b5,hm⟩
    ·refine q_vu [qf 3 b5] 2 [4] [(27,vb true)] [1] [] ?_;exact q_J (true) hm
    ·rcases bif_c hm with⟨b6,hm⟩|⟨b6,hm⟩
     ·refine q_vu [qf 3 b5,qf 8 b6] 2 [4] [(27,vb true)] [1] [] ?_;exact q_J (true) hm
     ·refine q_vu [qf 3 b5,qf 8 b6] 2 [4] [(27,vb (decide ((([a1.X.A,a1.X.B,a1.Y.A,a1.Y.B]:List Int).getD (x2.toNat*2+0) 0)≥(([a1.X.A,a1.X.B,a1.Y.A,a1.Y.B]:List Int).getD (x2.toNat*2+1) 0))))] [1] [] ?_;exact q_J (decide ((([a1.X.A,a1.X.B,a1.Y.A,a1.Y.B]:List Int).getD (x2.toNat*2+0) 0)≥(([a1.X.A,a1.X.B,a1.Y.A,a1.Y.B]:List Int).getD (x2.toNat*2+1) 0))) hm
  ·refine q_ex 0 ?_;obtain rfl:=oi hm;exact wB () (by kernel_rfl) (by kernel_rfl)
theorem OL (a1:Rect) (r:Bool) (hm:jF a1=some r):CtX Tryz.prog globs 115 0 0 [.agg (qH a1)] [] (FO r) (FZ r):=by
 unfold jF at hm;refine q_E Tryz.f115 29 λE=>?_;refine s_vn [] 0 ⟨[(1,vp 0 0)],[(0,bx 33 (qH a1))]⟩ ?_;refine q_sq ?_;refine s_vn [] 1 ⟨[(9,va (qH a1)),(10,vi 0)],[]⟩ ?_;obtain⟨u11,h10,hm⟩:=qA hm;refine zA (nd Tryz.f115 52) 0 (by kernel_rfl) FUEL (λo=>EC) (λv st=>RetQ Tryz.prog Tryz.f115 (FO v) (FZ v) .ret st) u11 (q_hl (TS a1 0) (qDI E a1 FUEL 0 u11 h10)) ?_ ?_
 ·rintro v12 rfl st hr;obtain rfl:=oi hm;exact hr
 ·rintro o9 rfl;replace hm:_=some r:=hm;refine s_vn [] 1 ⟨[(2,vb true)],[]⟩ ?_;obtain rfl:=oi hm;refine q_rt ?_;exact q_rm
end Saw
end Go.SL

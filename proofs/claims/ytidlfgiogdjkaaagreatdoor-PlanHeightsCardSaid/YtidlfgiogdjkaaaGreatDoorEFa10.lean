import Derived.Test.YtidlfgiogdjkaaaGreatDoorEBase
import Derived.Test.YtidlfgiogdjkaaaGreatDoorEFa9
set_option linter.unusedVariables false
set_option linter.unusedSimpArgs false
namespace Go.SL
namespace Saw
open Go.Proofs
set_option maxHeartbeats 4000000
set_option maxRecDepth 100000
def UI (r:Int):V:=vi r
def UN (r:Int):List (Nat×(Nat×O)):=[]
def MC (a1:List Product) (x3:Int) (x9:Int):St:=
 ⟨[(0,vc (tl qC default a1)),(3,vi x3),(4,vp 0 0),(5,vi x9)],[(0,bx 54 [cs ((a1.getD x3.toNat default).Name),ci ((a1.getD x3.toNat default).Thick),ci ((a1.getD x3.toNat default).Width),ci ((a1.getD x3.toNat default).Allow),ci ((a1.getD x3.toNat default).Wane),tl e_i64 default ((a1.getD x3.toNat default).Lengths),tl e_i64 default ((a1.getD x3.toNat default).Prices)])]⟩
def qBG (a1:List Product) (x3:Int):St:=
 ⟨[(0,vc (tl qC default a1)),(3,vi x3),(4,vp 0 0)],[(0,bx 54 [cs ((a1.getD x3.toNat default).Name),ci ((a1.getD x3.toNat default).Thick),ci ((a1.getD x3.toNat default).Width),ci ((a1.getD x3.toNat default).Allow),ci ((a1.getD x3.toNat default).Wane),tl e_i64 default ((a1.getD x3.toNat default).Lengths),tl e_i64 default ((a1.getD x3.toNat default).Prices)])]⟩
def qBc (a1:List Product) (x3:Int) (x24:Bool):St:=
 ⟨[(0,vc (tl qC default a1)),(3,vi x3),(4,vp 0 0),(78,vb x24)],[(0,bx 54 [cs ((a1.getD x3.toNat default).Name),ci ((a1.getD x3.toNat default).Thick),ci ((a1.getD x3.toNat default).Width),ci ((a1.getD x3.toNat default).Allow),ci ((a1.getD x3.toNat default).Wane),tl e_i64 default ((a1.getD x3.toNat default).Lengths),tl e_i64 default ((a1.getD x3.toNat default).Prices)])]⟩
def MK (a1:List Product) (x3:Int):St:=
 ⟨[(0,vc (tl qC default a1)),(3,vi x3)],[]⟩
def qB9 :St:=
 ⟨[],[]⟩
theorem qG8 (E:Env 0) (a1:List Product) (x3:Int):∀(n:Nat) (x9:Int) (res:Int⊕Unit),WB a1 x3 n x9=some res->HL (kx E 91 0) (nd Tryz.f34 59700) (zV 2 (λo=>qBG a1 x3) (λv st=>RetQ Tryz.prog Tryz.f34 (UI v) (UN v) .ret st) res) n (MC a1 x3 x9):=by
 intro n
 induction n with
 |zero=>
  intro x9 res hm;cases hm
 |succ n ih=>
  intro x9 res hm;refine qM ?_;refine q_sq ?_;refine s_vu [] 1 [] [(28,vb (decide (x9<x3)))] [] [] ?_;refine q_cm hm (λb10 hm=>?_) (λb10 hm=>?_)
  ·refine q_sk ?_;refine q_sq ?_;refine q_bk 3 ?_;obtain⟨g11,hm⟩:=qG hm;refine s_du [qd 2 (Dir.none) (inb_of g11)] [0,0,3,7,15,0,32,127] 1 [28] [(38,vb (strEq ((a1.getD x9.toNat default).Name) ((a1.getD x3.toNat default).Name)))] [] [] ?_;refine q_cm hm (λb12 hm=>?_) (λb12 hm=>?_)
   ·refine s_vn [] 1 ⟨[(2,vi 7)],[]⟩ ?_;obtain rfl:=oi hm;refine q_rt ?_;refine qT 7 ?_;exact q_rm
   ·refine q_sk ?_;refine q_vu [] 1 [5,38] [(5,vi (w64 (x9+1)))] [] [] ?_;exact q_hl (MC a1 x3 (w64 (x9+1))) (ih (w64 (x9+1)) _ hm)
  ·refine q_ex 2 ?_;obtain rfl:=oi hm;exact wB () (by kernel_rfl) (by kernel_rfl)
theorem qG5 (E:Env 0) (a1:List Product):∀(n:Nat) (x3:Int) (res:Int⊕Unit),zM a1 n x3=some res->HL (kx E 91 0) (nd Tryz.f34 116) (zV 0 (λo=>qB9) (λv st=>RetQ Tryz.prog Tryz.f34 (UI v) (UN v) .ret st) res) n (MK a1 x3):=by
 intro n
 induction n with
 |zero=>
  intro x3 res hm;cases hm
 |succ n ih=>
  intro x3 res hm;refine qM ?_;refine q_sq ?_;refine s_vu [] 0 [] [(15,vb (decide (x3<((a1.length:Nat):Int))))] [] [] ?_;refine q_cm hm (λb4 hm=>?_) (λb4 hm=>?_)
  ·refine q_sk ?_;refine q_sq ?_;refine q_bk 1 ?_;obtain⟨g5,hm⟩:=qG hm;refine s_vu [qd 2 (Dir.none) (inb_of g5)] 0 [15] [(4,vp 0 0)] [] [(0,bx 54 [cs ((a1.getD x3.toNat default).Name),ci ((a1.getD x3.toNat default).Thick),ci ((a1.getD x3.toNat default).Width),ci ((a1.getD x3.toNat default).Allow),ci ((a1.getD x3.toNat default).Wane),tl e_i64 default ((a1.getD x3.toNat default).Lengths),tl e_i64 default ((a1.getD x3.toNat default).Prices)])] ?_;refine q_sq ?_;obtain⟨v6,h7,hm⟩:=qA hm;refine s_vu [qc 2 [23] 1 (qIm ((a1.getD x3.toNat default).Name) v6 h7)] 1 [] [(25,vb (!v6))] [] [] ?_
   refine q_cm hm (λb8 hm=>?_) (λb8 hm=>?_)
   ·refine s_vn [] 1 ⟨[(2,vi 6)],[]⟩ ?_;obtain rfl:=oi hm;refine q_rt ?_;refine qT 6 ?_;exact q_rm
   ·refine q_sk ?_;refine q_sq ?_;refine s_vu [] 1 [25] [(5,vi 0)] [] [] ?_;obtain⟨u15,h14,hm⟩:=qA hm;refine zA (nd Tryz.f34 59700) 2 (by kernel_rfl) FUEL (λo=>qBG a1 x3) (λv st=>RetQ Tryz.prog Tryz.f34 (UI v) (UN v) .ret st) u15 (q_hl (MC a1 x3 0) (qG8 E a1 x3 FUEL 0 u15 h14)) ?_ ?_
    ·rintro v16 rfl st hr;obtain rfl:=oi hm;exact qT v16 hr
    ·rintro o13 rfl;replace hm:_=some res:=hm;refine q_sq ?_;refine q_jn (ι:=Bool) (λp=>qBc a1 x3 p) (λp=>jC a1 x3 (zM a1 n) p=some res) ?_ ?_
     ·rintro x24 hm;show H _ (qBc a1 x3 x24) _ _;refine q_cm hm (λb25 hm=>?_) (λb25 hm=>?_)
      ·refine s_vn [] 1 ⟨[(2,vi 9)],[]⟩ ?_;obtain rfl:=oi hm;refine q_rt ?_;refine qT 9 ?_;exact q_rm
      ·refine q_sk ?_;refine q_sq ?_;obtain⟨v26,h27,hm⟩:=qA hm;refine s_vu [qc 1 [80] 1 (qDv (a1.getD x3.toNat default) v26 h27)] 1 [78] [(7,vi v26.2)] [] [] ?_;refine s_vu [] 1 [7] [(85,vb (decide (v26.2>600)))] [] [] ?_;refine q_cm hm (λb28 hm=>?_) (λb28 hm=>?_)
       ·refine s_vn [] 1 ⟨[(2,vi 9)],[]⟩ ?_;obtain rfl:=oi hm;refine q_rt ?_;refine qT 9 ?_;exact q_rm
       ·refine q_sk ?_;obtain⟨v29,h30,hm⟩:=qA hm;refine s_vu [qc 1 [86] 1 (qDw (a1.getD x3.toNat default) v29 h30)] 1 [4,85] [(8,vi v29)] [0] [] ?_;refine s_vu [] 1 [] [(89,vb (v29 !=0))] [] [] ?_;refine q_cm hm (λb31 hm=>?_) (λb31 hm=>?_)
        ·refine s_vn [] 1 ⟨[(2,vi v29)],[]⟩ ?_;obtain rfl:=oi hm;refine q_rt ?_;refine qT v29 ?_;exact q_rm
        ·refine q_sk ?_;refine q_vu [] 1 [3,8,89] [(3,vi (w64 (x3+1)))] [] [] ?_;exact q_hl (MK a1 (w64 (x3+1))) (ih (w64 (x3+1)) _ hm)
     ·rcases bif_c hm with⟨b17,hm⟩|⟨b17,hm⟩
      ·refine q_vu [qf 3 b17] 1 [] [(78,vb true)] [] [] ?_;exact q_J (true) hm
      ·rcases bif_c hm with⟨b18,hm⟩|⟨b18,hm⟩
       ·refine q_vu [qf 3 b17,qf 8 b18] 1 [] [(78,vb true)] [] [] ?_;exact q_J (true) hm
       ·rcases bif_c hm with⟨b19,hm⟩|⟨b19,hm⟩
        ·refine q_vu [qf 3 b17,qf 8 b18,qf 15 b19] 1 [] [(78,vb true)] [] [] ?_;exact q_J (true) hm
        ·rcases bif_c hm with⟨b20,hm⟩|⟨b20,hm⟩
         ·refine q_vu [qf 3 b17,qf 8 b18,qf 15 b19,qf 20 b20] 1 [] [(78,vb true)] [] [] ?_;exact q_J (true) hm
         ·rcases bif_c hm with⟨b21,hm⟩|⟨b21,hm⟩
          ·refine q_vu [qf 3 b17,qf 8 b18,qf 15 b19,qf 20 b20,qf 25 b21] 1 [] [(78,vb true)] [] [] ?_;exact q_J (true) hm
          ·rcases bif_c hm with⟨b22,hm⟩|⟨b22,hm⟩
           ·refine q_vu [qf 3 b17,qf 8 b18,qf 15 b19,qf 20 b20,qf 25 b21,qf 30 b22] 1 [] [(78,vb true)] [] [] ?_;exact q_J (true) hm
           ·rcases bif_c hm with⟨b23,hm⟩|⟨b23,hm⟩
            ·refine q_vu [qf 3 b17,qf 8 b18,qf 15 b19,qf 20 b20,qf 25 b21,qf 30 b22,qf 35 b23] 1 [] [(78,vb true)] [] [] ?_;exact q_J (true) hm
            ·refine q_vu [qf 3 b17,qf 8 b18,qf 15 b19,qf 20 b20,qf 25 b21,qf 30 b22,qf 35 b23] 1 [] [(78,vb (decide (((a1.getD x3.toNat default).Wane)>1000)))] [] [] ?_;exact q_J (decide (((a1.getD x3.toNat default).Wane)>1000)) hm
  ·refine q_ex 0 ?_;obtain rfl:=oi hm;exact wB () (by kernel_rfl) (by kernel_rfl)
theorem qKs (a1:List Product) (r:Int) (hm:UU a1=some r):CtX Tryz.prog globs 34 0 0 [.one (tl qC default a1)] [] (UI r) (UN r):=by
 unfold UU at hm;refine q_E Tryz.f34 91 λE=>?_;refine s_vn [] 0 ⟨[(0,vc (tl qC default a1))],[]⟩ ?_;refine q_sq ?_;refine s_vu [] 0 [] [(11,vb (decide (((a1.length:Nat):Int)>16)))] [] [] ?_;refine q_cm hm (λb2 hm=>?_) (λb2 hm=>?_)
 ·refine s_vn [] 0 ⟨[(2,vi 4)],[]⟩ ?_;obtain rfl:=oi hm;refine q_rt ?_;exact q_rm
 ·refine q_sk ?_;refine q_sq ?_;refine s_vu [] 0 [11] [(3,vi 0)] [] [] ?_;obtain⟨u34,h33,hm⟩:=qA hm;refine zA (nd Tryz.f34 116) 0 (by kernel_rfl) FUEL (λo=>qB9) (λv st=>RetQ Tryz.prog Tryz.f34 (UI v) (UN v) .ret st) u34 (q_hl (MK a1 0) (qG5 E a1 FUEL 0 u34 h33)) ?_ ?_
  ·rintro v35 rfl st hr;obtain rfl:=oi hm;exact hr
  ·rintro o32 rfl;replace hm:_=some r:=hm;refine s_vn [] 0 ⟨[(2,vi 0)],[]⟩ ?_;obtain rfl:=oi hm;refine q_rt ?_;exact q_rm
def qIT (r:(List Int)):V:=vo 0 0 1 r.length
def qJb (r:(List Int)):List (Nat×(Nat×O)):=[(0,ro 0 3 1 r.length (rf e_i64 r))]
def DQ (a1:List Product) (l5:List Int) (l5n:Nat) (x6:Int):St:=
 ⟨[(0,vc (tl qC default a1)),(3,vo 0 0 1 l5n),(4,vi x6)],[(0,ro 0 3 1 l5n (rf e_i64 l5))]⟩
def CH (l15:List Int):St:=
 ⟨[(3,vo 0 0 1 l15.length)],[(0,ro 0 3 1 l15.length (rf e_i64 l15))]⟩
theorem qFd (E:Env 0) (a1:List Product):∀(n:Nat) (l5:List Int) (l5n:Nat) (x6:Int) (res:(List Int)),l5.length=l5n->ZP a1 n l5 x6=some res->HL (kx E 30 0) (nd Tryz.f15 244) (zI 0 (λo=>CH o) res) n (DQ a1 l5 l5n x6):=by
 intro n
 induction n with
 |zero=>
  intro l5 l5n x6 res hl0 hm;cases hm
 |succ n ih=>
  intro l5 l5n x6 res hl0 hm;subst hl0;refine qM ?_;refine q_sq ?_;refine s_vu [] 1 [] [(13,vb (decide (x6<((a1.length:Nat):Int))))] [] [] ?_;refine q_cm hm (λb7 hm=>?_) (λb7 hm=>?_)
  ·refine q_sk ?_;refine q_sq ?_;refine q_bk 1 ?_;obtain⟨g8,hm⟩:=qG hm;obtain⟨v9,h10,hm⟩:=qA hm;refine s_vu [qd 2 (Dir.none) (inb_of g8),qc 4 [20] 1 (qDv (a1.getD x6.toNat default) v9 h10)] 1 [13] [(5,vi v9.1),(6,vi v9.2)] [] [] ?_;obtain⟨v11,h12,hm⟩:=qA hm;obtain⟨v13,h14,hm⟩:=qA hm
   refine q_vu [qd 2 (dex (cen [] [] 1 0 (qDh v11) (LN v11) [24,25] [0])) (wJ (K:=(kx E 30 0)) (b:=false) ⟨[(24,vo 0 0 1 l5.length),(25,vi v9.1)],[(0,ro 0 3 1 l5.length (rf e_i64 l5))]⟩ (opAt (rg Tryz.f15 3913) 2) [] [] 1 (o1 (Nat.le_refl l5.length)) rfl (qFp l5 v9.1 v11 h12) (.inr ⟨(by kernel_rfl),qHf v11⟩) (by kernel_rfl)),qd 4 (dex (cen [] [] 2 0 (qDh v13) (LN v13) [26,27] [1])) (wJ (K:=(kx E 30 0)) (b:=false) ⟨[(26,vo 1 0 1 v11.length),(27,vi v9.2)],[(1,ro 0 3 1 v11.length (rf e_i64 v11))]⟩ (opAt (rg Tryz.f15 3913) 4) [] [] 2 (o1 (Nat.le_refl v11.length)) rfl (qFp v11 v9.2 v13 h14) (.inr ⟨(by kernel_rfl),qHf v13⟩) (by kernel_rfl))] 1 [3,5,6] [(3,vo 2 0 1 v13.length)] [0] [(2,ro 0 3 1 v13.length (rf e_i64 v13))] ?_
   refine q_wu [] [.swp 2 0] o0 3 [3,4] [(3,vo 0 0 1 v13.length),(4,vi (w64 (x6+1)))] [2] [(0,ro 0 3 1 v13.length (rf e_i64 v13))] ?_;exact q_hl (DQ a1 v13 v13.length (w64 (x6+1))) (ih v13 v13.length (w64 (x6+1)) _ rfl hm)
  ·refine q_ex 0 ?_;obtain rfl:=oi hm;exact wD (by kernel_rfl) (by kernel_rfl)
theorem MV (a1:List Product) (r:(List Int)) (hm:XW a1=some r):CtX Tryz.prog globs 15 0 0 [.one (tl qC default a1)] [] (qIT r) (qJb r):=by
 unfold XW at hm;refine q_E Tryz.f15 30 λE=>?_;refine s_vn [] 0 ⟨[(0,vc (tl qC default a1))],[]⟩ ?_;refine q_sq ?_;obtain⟨v2,h3,hm⟩:=qA hm;refine s_vu [qc 1 [7] 0 (qKs a1 v2 h3)] 0 [] [(9,vb (v2 !=0))] [] [] ?_;refine q_cm hm (λb4 hm=>?_) (λb4 hm=>?_)
 ·refine s_vn [] 0 ⟨[(2,vc (.emp))],[]⟩ ?_;refine q_fn [.own 2 0 3 1 (rf e_i64 ([]:List Int))] ⟨[(2,vo 0 0 1 0)],[(0,ro 0 3 1 0 (rf e_i64 ([]:List Int)))]⟩ o0 ?_;refine q_fn [.len 0 (([]:List Int).length)] ⟨[(2,vo 0 0 1 (([]:List Int).length))],[(0,ro 0 3 1 (([]:List Int).length) (rf e_i64 ([]:List Int)))]⟩ (o1 (And.intro (show 0=([]:List Int).length from rfl) (show 0=([]:List Int).length from rfl))) ?_;obtain rfl:=oi hm;refine q_rt ?_;exact q_rm
 ·refine q_sk ?_;refine s_vu [] 0 [9] [(3,vc (.emp))] [] [] ?_;refine q_sq ?_;refine s_vu [] 0 [] [(4,vi 0)] [] [] ?_;refine q_fn [.own 3 0 3 1 (rf e_i64 ([]:List Int))] ⟨[(0,vc (tl qC default a1)),(3,vo 0 0 1 0),(4,vi 0)],[(0,ro 0 3 1 0 (rf e_i64 ([]:List Int)))]⟩ o0 ?_;obtain⟨o16,h17,hm⟩:=qA hm;refine zD (nd Tryz.f15 244) 0 (by kernel_rfl) FUEL (λo=>CH o) o16 (q_hl (DQ a1 ([]:List Int) 0 0) (qFd E a1 FUEL ([]:List Int) 0 0 o16 rfl h17)) ?_;refine s_vu [] 1 [3] [(2,vo 0 0 1 o16.length)] [] [] ?_;obtain rfl:=oi hm;refine q_rt ?_;exact q_rm
def qMa (r:Bool):V:=vb r
def qLN (r:Bool):List (Nat×(Nat×O)):=[]
theorem YR (a1:Span) (r:Bool) (hm:PA a1=some r):CtX Tryz.prog globs 147 0 0 [.agg (e_Span a1)] [] (qMa r) (qLN r):=by
 unfold PA at hm;refine q_E Tryz.f147 8 λE=>?_;refine s_vn [] 0 ⟨[(1,vp 0 0)],[(0,bx 31 (e_Span a1))]⟩ ?_;refine s_vn [] 1 ⟨[(2,vb (decide (a1.A≥a1.B)))],[]⟩ ?_;obtain rfl:=oi hm;refine q_rt ?_;exact q_rm
def qKg (r:Bool):V:=vb r
def qKh (r:Bool):List (Nat×(Nat×O)):=[]
def qAu (x3:Bool):St:=
 ⟨[(2,vb x3)],[]⟩
theorem EI (a1:Int) (r:Bool) (hm:RC a1=some r):CtX Tryz.prog globs 185 0 0 [.one (ci a1)] [] (qKg r) (qKh r):=by
 unfold RC at hm;refine q_E Tryz.f185 9 λE=>?_;refine s_vn [] 0 ⟨[(0,vi a1)],[]⟩ ?_;refine q_jn (ι:=Bool) (λp=>qAu p) (λp=>GH p=some r) ?_ ?_
 ·rintro x3 hm;show H _ (qAu x3) _ _;obtain rfl:=oi hm;refine q_rt ?_;exact q_rm
 ·rcases bif_c hm with⟨b2,hm⟩|⟨b2,hm⟩
  ·refine q_vn [qf 2 b2] 0 ⟨[(2,vb true)],[]⟩ ?_;exact q_J (true) hm
  ·refine q_vn [qf 2 b2] 0 ⟨[(2,vb (decide (a1>600)))],[]⟩ ?_;exact q_J (decide (a1>600)) hm
def UQ (r:Int):V:=vi r
def UM (r:Int):List (Nat×(Nat×O)):=[]
def qBv (a1:qF) (x6:Int) (x14:Bool):St:=
 ⟨[(1,vp 0 0),(3,vi ((a1.Rows.length:Nat):Int)),(4,vi x6),(41,vb x14)],[(0,bx 70 (qO a1))]⟩
def MH (a1:qF) (x6:Int):St:=
 ⟨[(1,vp 0 0),(3,vi ((a1.Rows.length:Nat):Int)),(4,vi x6)],[(0,bx 70 (qO a1))]⟩
def qBH (a1:qF):St:=
 ⟨[(1,vp 0 0),(3,vi ((a1.Rows.length:Nat):Int))],[(0,bx 70 (qO a1))]⟩
def qBj (a1:qF) (x31:Int) (x37:Bool):St:=
 ⟨[(1,vp 0 0),(3,vi ((a1.Rows.length:Nat):Int)),(5,vi x31),(80,vb x37)],[(0,bx 70 (qO a1))]⟩
def MB (a1:qF) (x31:Int):St:=
 ⟨[(1,vp 0 0),(3,vi ((a1.Rows.length:Nat):Int)),(5,vi x31)],[(0,bx 70 (qO a1))]⟩
def qB0 :St:=
 ⟨[],[]⟩
def qBD (a1:qF) (x29:Bool):St:=
 ⟨[(1,vp 0 0),(3,vi ((a1.Rows.length:Nat):Int)),(60,vb x29)],[(0,bx 70 (qO a1))]⟩
def qBP (a1:qF) (x4:Bool):St:=
 ⟨[(1,vp 0 0),(3,vi ((a1.Rows.length:Nat):Int)),(20,vb x4)],[(0,bx 70 (qO a1))]⟩
theorem qGN (E:Env 0) (a1:qF):∀(n:Nat) (x6:Int) (res:Int⊕Unit),jR a1 n x6=some res->HL (kx E 81 0) (nd Tryz.f145 500) (zV 0 (λo=>qBH a1) (λv st=>RetQ Tryz.prog Tryz.f145 (UQ v) (UM v) .ret st) res) n (MH a1 x6):=by
 intro n
 induction n with
 |zero=>
  intro x6 res hm;cases hm
 |succ n ih=>
  intro x6 res hm;refine qM ?_;refine q_sq ?_;refine s_vu [] 1 [] [(23,vb (decide (x6<((a1.Rows.length:Nat):Int))))] [] [] ?_;refine q_cm hm (λb7 hm=>?_) (λb7 hm=>?_)
  ·refine q_sk ?_;refine q_sq ?_;refine q_bk 1 ?_;refine q_jn (ι:=Bool) (λp=>qBv a1 x6 p) (λp=>NR x6 (jR a1 n) p=some res) ?_ ?_
   ·rintro x14 hm;show H _ (qBv a1 x6 x14) _ _;refine q_cm hm (λb15 hm=>?_) (λb15 hm=>?_)
    ·refine s_vn [] 1 ⟨[(2,vi 9)],[]⟩ ?_;obtain rfl:=oi hm;refine q_rt ?_;refine qT 9 ?_;exact q_rm
    ·refine q_sk ?_;refine q_vu [] 1 [4,41] [(4,vi (w64 (x6+1)))] [] [] ?_;exact q_hl (MH a1 (w64 (x6+1))) (ih (w64 (x6+1)) _ hm)
   ·obtain⟨g8,hm⟩:=qG hm;obtain⟨v9,h10,hm⟩:=qA hm;rcases bif_c hm with⟨b11,hm⟩|⟨b11,hm⟩
    ·refine q_vu [qd 3 (Dir.none) (inb_of g8),qc 6 [31] 1 (EI ((a1.Rows.getD x6.toNat default).A) v9 h10),qf 7 b11] 1 [23] [(41,vb true)] [] [] ?_;exact q_J (true) hm
    ·obtain⟨v12,h13,hm⟩:=qA hm;refine q_vu [qd 3 (Dir.none) (inb_of g8),qc 6 [31] 1 (EI ((a1.Rows.getD x6.toNat default).A) v9 h10),qf 7 b11,qd 11 (Dir.none) (inb_of g8),qk 14 [33,39] 1 ⟨[(33,vb false),(39,vi ((a1.Rows.getD x6.toNat default).B))],[]⟩ (EI ((a1.Rows.getD x6.toNat default).B) v12 h13)] 1 [23] [(41,vb v12)] [] [] ?_;exact q_J (v12) hm
  ·refine q_ex 0 ?_;obtain rfl:=oi hm;exact wB () (by kernel_rfl) (by kernel_rfl)
theorem qGP (E:Env 0) (a1:qF):∀(n:Nat) (x31:Int) (res:Int⊕Unit),jQ a1 n x31=some res->HL (kx E 81 0) (nd Tryz.f145 4084) (zV 2 (λo=>qB0) (λv st=>RetQ Tryz.prog Tryz.f145 (UQ v) (UM v) .ret st) res) n (MB a1 x31):=by
 intro n
 induction n with
 |zero=>
  intro x31 res hm;cases hm
 |succ n ih=>
  intro x31 res hm;refine qM ?_;refine q_sq ?_;refine s_vu [] 1 [] [(63,vb (decide (x31<((a1.Rows.length:Nat):Int))))] [] [] ?_;refine q_cm hm (λb32 hm=>?_) (λb32 hm=>?_)
  ·refine q_sk ?_;refine q_sq ?_;refine q_bk 3 ?_;refine q_jn (ι:=Bool) (λp=>qBj a1 x31 p) (λp=>ND x31 (jQ a1 n) p=some res) ?_ ?_
   ·rintro x37 hm;show H _ (qBj a1 x31 x37) _ _;refine q_cm hm (λb38 hm=>?_) (λb38 hm=>?_)
    ·refine s_vn [] 1 ⟨[(2,vi 19)],[]⟩ ?_;obtain rfl:=oi hm;refine q_rt ?_;refine qT 19 ?_;exact q_rm
    ·refine q_sk ?_;refine q_vu [] 1 [5,80] [(5,vi (w64 (x31+1)))] [] [] ?_;exact q_hl (MB a1 (w64 (x31+1))) (ih (w64 (x31+1)) _ hm)
   ·obtain⟨g33,hm⟩:=qG hm;obtain⟨v34,h35,hm⟩:=qA hm;rcases bif_c hm with⟨b36,hm⟩|⟨b36,hm⟩
    ·refine q_vu [qd 3 (Dir.none) (inb_of g33),qc 5 [70] 1 (YR (a1.Rows.getD x31.toNat default) v34 h35),qf 6 b36,qd 10 (Dir.none) (inb_of g33)] 1 [63] [(80,vb (!((((a1.Rows.getD x31.toNat default).A)==0)&&((((a1.Rows.getD x31.toNat default).B)==0)&&true))))] [] [] ?_;exact q_J (!((((a1.Rows.getD x31.toNat default).A)==0)&&((((a1.Rows.getD x31.toNat default).B)==0)&&true))) hm
    ·refine q_vu [qd 3 (Dir.none) (inb_of g33),qc 5 [70] 1 (YR (a1.Rows.getD x31.toNat default) v34 h35),qf 6 b36] 1 [63] [(80,vb false)] [] [] ?_;exact q_J (false) hm
  ·refine q_ex 2 ?_;obtain rfl:=oi hm;exact wB () (by kernel_rfl) (by kernel_rfl)
theorem qD2 (a1:qF) (r:Int) (hm:UV a1=some r):CtX Tryz.prog globs 145 0 0 [.agg (qO a1)] [] (UQ r) (UM r):=by
 unfold UV at hm;refine q_E Tryz.f145 81 λE=>?_;refine s_vn [] 0 ⟨[(1,vp 0 0)],[(0,bx 70 (qO a1))]⟩ ?_;refine s_vu [] 1 [] [(3,vi ((a1.Rows.length:Nat):Int))] [] [] ?_;refine q_sq ?_;refine s_vu [] 1 [] [(10,vb (decide (((a1.Rows.length:Nat):Int)>120)))] [] [] ?_;refine q_cm hm (λb2 hm=>?_) (λb2 hm=>?_)
 ·refine s_vn [] 1 ⟨[(2,vi 4)],[]⟩ ?_;obtain rfl:=oi hm;refine q_rt ?_;exact q_rm
 ·refine q_sk ?_;refine q_sq ?_;refine q_jn (ι:=Bool) (λp=>qBP a1 p) (λp=>BZ a1 p=some r) ?_ ?_
  ·rintro x4 hm;show H _ (qBP a1 x4) _ _;refine q_cm hm (λb5 hm=>?_) (λb5 hm=>?_)
   ·refine s_vn [] 1 ⟨[(2,vi 9)],[]⟩ ?_;obtain rfl:=oi hm;refine q_rt ?_;exact q_rm
   ·refine q_sk ?_;refine q_sq ?_;refine s_vu [] 1 [20] [(4,vi 0)] [] [] ?_;obtain⟨u18,h17,hm⟩:=qA hm;refine zA (nd Tryz.f145 500) 0 (by kernel_rfl) FUEL (λo=>qBH a1) (λv st=>RetQ Tryz.prog Tryz.f145 (UQ v) (UM v) .ret st) u18 (q_hl (MH a1 0) (qGN E a1 FUEL 0 u18 h17)) ?_ ?_
    ·rintro v19 rfl st hr;obtain rfl:=oi hm;exact hr
    ·rintro o16 rfl;replace hm:_=some r:=hm;refine q_sq ?_;refine s_vu [] 1 [] [(43,vb (((a1.Rows.length:Nat):Int)==0))] [] [] ?_;refine q_cm hm (λb20 hm=>?_) (λb20 hm=>?_)
     ·refine q_sq ?_;refine s_vn [] 1 ⟨[(46,vb (a1.Low !=0))],[]⟩ ?_;refine q_cm hm (λb21 hm=>?_) (λb21 hm=>?_)
      ·refine s_vn [] 1 ⟨[(2,vi 19)],[]⟩ ?_;obtain rfl:=oi hm;refine q_rt ?_;exact q_rm
      ·refine q_sk ?_;refine s_vn [] 1 ⟨[(2,vi 0)],[]⟩ ?_;obtain rfl:=oi hm;refine q_rt ?_;exact q_rm
     ·refine q_sk ?_;refine q_sq ?_;refine q_jn (ι:=Bool) (λp=>qBD a1 p) (λp=>NK a1 p=some r) ?_ ?_
      ·rintro x29 hm;show H _ (qBD a1 x29) _ _;refine q_cm hm (λb30 hm=>?_) (λb30 hm=>?_)
       ·refine s_vn [] 1 ⟨[(2,vi 19)],[]⟩ ?_;obtain rfl:=oi hm;refine q_rt ?_;exact q_rm
       ·refine q_sk ?_;refine q_sq ?_;refine s_vu [] 1 [60] [(5,vi 0)] [] [] ?_;obtain⟨u41,h40,hm⟩:=qA hm;refine zA (nd Tryz.f145 4084) 2 (by kernel_rfl) FUEL (λo=>qB0) (λv st=>RetQ Tryz.prog Tryz.f145 (UQ v) (UM v) .ret st) u41 (q_hl (MB a1 0) (qGP E a1 FUEL 0 u41 h40)) ?_ ?_
        ·rintro v42 rfl st hr;obtain rfl:=oi hm;exact hr
        ·rintro o39 rfl;replace hm:_=some r:=hm;refine s_vn [] 1 ⟨[(2,vi 0)],[]⟩ ?_;obtain rfl:=oi hm;refine q_rt ?_;exact q_rm
      ·obtain⟨g22,hm⟩:=qG hm;obtain⟨v23,h24,hm⟩:=qA hm;rcases bif_c hm with⟨b25,hm⟩|⟨b25,hm⟩
       ·refine q_vu [qd 2 (Dir.none) (inb_of g22),qc 4 [50] 1 (YR (a1.Rows.getD (0:Int).toNat default) v23 h24),qf 5 b25] 1 [43] [(60,vb true)] [] [] ?_;exact q_J (true) hm
       ·obtain⟨g26,hm⟩:=qG hm;obtain⟨v27,h28,hm⟩:=qA hm;refine q_vu [qd 2 (Dir.none) (inb_of g22),qc 4 [50] 1 (YR (a1.Rows.getD (0:Int).toNat default) v23 h24),qf 5 b25,qd 10 (Dir.none) (inb_of g26),qk 12 [52,58] 1 ⟨[(52,vb false),(58,va [ci ((a1.Rows.getD (w64 (((a1.Rows.length:Nat):Int)-1)).toNat default).A),ci ((a1.Rows.getD (w64 (((a1.Rows.length:Nat):Int)-1)).toNat default).B)])],[]⟩ (YR (a1.Rows.getD (w64 (((a1.Rows.length:Nat):Int)-1)).toNat default) v27 h28)] 1 [43] [(60,vb v27)] [] [] ?_;exact q_J (v27) hm
  ·rcases bif_c hm with⟨b3,hm⟩|⟨b3,hm⟩
   ·refine q_vu [qf 3 b3] 1 [10] [(20,vb true)] [] [] ?_;exact q_J (true) hm
   ·refine q_vu [qf 3 b3] 1 [10] [(20,vb (decide (a1.Low>(w64 (60-((a1.Rows.length:Nat):Int))))))] [] [] ?_;exact q_J (decide (a1.Low>(w64 (60-((a1.Rows.length:Nat):Int))))) hm
def qLJ (r:qF):V:=va (qO r)
def qLX (r:qF):List (Nat×(Nat×O)):=[]
theorem qKo (a1:qF) (r:qF) (hm:LE a1=some r):CtX Tryz.prog globs 146 0 0 [.agg (qO a1)] [] (qLJ r) (qLX r):=by
 unfold LE at hm;refine q_E Tryz.f146 8 λE=>?_;refine s_vn [] 0 ⟨[(1,vp 0 0),(2,vp 1 0)],[(0,bx 70 (qO a1)),(1,bx 70 [ci 0,.emp])]⟩ ?_;refine q_sq ?_;obtain⟨v2,h3,hm⟩:=qA hm;refine s_vu [qc 1 [3] 2 (qD2 a1 v2 h3)] 2 [] [(5,vb (v2 !=0))] [] [] ?_;refine q_cm hm (λb4 hm=>?_) (λb4 hm=>?_)
 ·refine s_vu [] 2 [1,5] [] [0] [] ?_;refine q_fn [.ownB 1 1 2 31 2 (rf e_Span ([]:List Span))] ⟨[(2,vp 1 0)],[(1,bx 70 [ci 0,.own 2 0 2 0]),(2,ro 0 31 2 0 (rf e_Span ([]:List Span)))]⟩ o0 ?_;refine q_fn [.len 2 (([]:List Span).length),.frz 2] ⟨[(2,vp 1 0)],[(1,bx 70 [ci 0,tl e_Span default ([]:List Span)])]⟩ (o1 (And.intro (And.intro (show 0=([]:List Span).length from rfl) (show 0=([]:List Span).length from rfl)) (Nat.le_refl (([]:List Span).length)))) ?_;obtain rfl:=oi hm;refine q_rt ?_;exact q_rm
 ·refine q_sk ?_;refine s_vn [] 2 ⟨[(2,vp 1 0)],[(1,bx 70 (qO a1))]⟩ ?_;obtain rfl:=oi hm;refine q_rt ?_;exact q_rm
def qJ3 (r:Rect):V:=va (qH r)
def qKP (r:Rect):List (Nat×(Nat×O)):=[]
def qAw (v2:qF) (x6:Int) (x13:Span):St:=
 ⟨[(1,vp 0 0),(2,vp 1 0),(3,vp 2 0),(4,vi x6)],[(0,bx 70 (qO v2)),(1,bx 33 [ci 0,ci 0,ci 0,ci 0]),(2,bx 31 (e_Span x13))]⟩
def FN (v2:qF) (x6:Int) (x7:Span):St:=
 ⟨[(1,vp 0 0),(2,vp 1 0),(3,vp 2 0),(4,vi x6)],[(0,bx 70 (qO v2)),(1,bx 33 [ci 0,ci 0,ci 0,ci 0]),(2,bx 31 (e_Span x7))]⟩
def qAI (v2:qF) (x14:Span):St:=
 ⟨[(1,vp 0 0),(2,vp 1 0),(3,vp 2 0)],[(0,bx 70 (qO v2)),(1,bx 33 [ci 0,ci 0,ci 0,ci 0]),(2,bx 31 (e_Span x14))]⟩
theorem ref10_Bounds_L1_ok (E:Env 0) (v2:qF):∀(n:Nat) (x6:Int) (x7:Span) (res:Span),jZ v2 n x6 x7=some res->HL (kx E 62 0) (nd Tryz.f84 500) (zI 0 (λo=>qAI v2 o) res) n (FN v2 x6 x7):=by
 intro n
 induction n with
 |zero=>
  intro x6 x7 res hm;cases hm
 |succ n ih=>
  intro x6 x7 res hm;refine qM ?_;refine q_sq ?_;refine s_vu [] 3 [] [(20,vb (decide (x6<((v2.Rows.length:Nat):Int))))] [] [] ?_;refine q_cm hm (λb8 hm=>?_) (λb8 hm=>?_)
  ·refine q_sk ?_;refine q_jn (ι:=Span) (λp=>qAw v2 x6 p) (λp=>VX x6 (jZ v2 n) p=some res) ?_ ?_
   ·rintro x13 hm;show H _ (qAw v2 x6 x13) _ _;refine q_vu [] 3 [4] [(4,vi (w64 (x6+1)))] [] [] ?_;exact q_hl (FN v2 (w64 (x6+1)) x13) (ih (w64 (x6+1)) x13 _ hm)
   ·refine q_bk 1 ?_;obtain⟨g9,hm⟩:=qG hm;obtain⟨v10,h11,hm⟩:=qA hm;refine s_vu [qd 3 (Dir.none) (inb_of g9),qc 5 [27] 3 (YR (v2.Rows.getD x6.toNat default) v10 h11)] 3 [20] [(29,vb (!v10))] [] [] ?_;refine q_cm hm (λb12 hm=>?_) (λb12 hm=>?_)
    ·refine q_du [qd 5 (Dir.none) (inb_of g9),qd 14 (Dir.none) (inb_of g9)] [0,1,0,4,0,28,60,124,255,0,512,0,2048,0,14336,30720,63488,130560,262143,524287] 3 [29] [] [2] [(2,bx 31 [ci (imin x7.A ((v2.Rows.getD x6.toNat default).A)),ci (imax x7.B ((v2.Rows.getD x6.toNat default).B))])] ?_;exact q_J ((Span.mk (imin x7.A ((v2.Rows.getD x6.toNat default).A)) (imax x7.B ((v2.Rows.getD x6.toNat default).B)))) hm
    ·refine q_sk ?_;exact q_J (x7) hm
  ·refine q_ex 0 ?_;obtain rfl:=oi hm;exact wD (by kernel_rfl) (by kernel_rfl)
theorem qCG (a1:qF) (r:Rect) (hm:PV a1=some r):CtX Tryz.prog globs 84 0 0 [.agg (qO a1)] [] (qJ3 r) (qKP r):=by
 unfold PV at hm;refine q_E Tryz.f84 62 λE=>?_;refine s_vn [] 0 ⟨[(1,vp 0 0),(2,vp 1 0)],[(0,bx 70 (qO a1)),(1,bx 33 [ci 0,ci 0,ci 0,ci 0])]⟩ ?_;obtain⟨v2,h3,hm⟩:=qA hm;refine s_vu [qc 1 [5] 2 (qKo a1 v2 h3)] 2 [] [] [0] [(0,bx 70 (qO v2))] ?_;refine q_sq ?_;refine s_vu [] 2 [] [(10,vb (((v2.Rows.length:Nat):Int)==0))] [] [] ?_;refine q_cm hm (λb4 hm=>?_) (λb4 hm=>?_)
 ·refine s_vu [] 2 [1,10] [] [0] [] ?_;obtain rfl:=oi hm;refine q_rt ?_;exact q_rm
 ·refine q_sk ?_;obtain⟨g5,hm⟩:=qG hm;refine s_vu [qd 2 (Dir.none) (inb_of g5)] 2 [10] [(3,vp 2 0)] [] [(2,bx 31 [ci ((v2.Rows.getD (0:Int).toNat default).A),ci ((v2.Rows.getD (0:Int).toNat default).B)])] ?_;refine q_sq ?_;refine s_vu [] 3 [] [(4,vi 0)] [] [] ?_;obtain⟨o15,h16,hm⟩:=qA hm;refine zD (nd Tryz.f84 500) 0 (by kernel_rfl) FUEL (λo=>qAI v2 o) o15 (q_hl (FN v2 0 (v2.Rows.getD (0:Int).toNat default)) (ref10_Bounds_L1_ok E v2 FUEL 0 (v2.Rows.getD (0:Int).toNat default) o15 h16)) ?_
  refine s_vn [] 3 ⟨[(2,vp 1 0)],[(1,bx 33 [ci o15.A,ci o15.B,ci (w64 (10*v2.Low)),ci (w64 (10*(w64 (v2.Low+((v2.Rows.length:Nat):Int)))))])]⟩ ?_;obtain rfl:=oi hm;refine q_rt ?_;exact q_rm
def qAc (r:Int):V:=vi r
def CT (r:Int):List (Nat×(Nat×O)):=[]
def qBi (a1:List qB) (x4:Int) (x5:Int) (x13:Bool):St:=
 ⟨[(0,vc (tl qE default a1)),(3,vi x4),(4,vi x5),(50,vb x13)],[]⟩
def MF (a1:List qB) (x4:Int) (x5:Int):St:=
 ⟨[(0,vc (tl qE default a1)),(3,vi x4),(4,vi x5)],[]⟩
def qB1 :St:=
 ⟨[],[]⟩
theorem qGS (E:Env 0) (a1:List qB):∀(n:Nat) (x4:Int) (x5:Int) (res:Int⊕Unit),jP a1 n x4 x5=some res->HL (kx E 58 0) (nd Tryz.f83 500) (zV 0 (λo=>qB1) (λv st=>RetQ Tryz.prog Tryz.f83 (qAc v) (CT v) .ret st) res) n (MF a1 x4 x5):=by
 intro n
 induction n with
 |zero=>
  intro x4 x5 res hm;cases hm
 |succ n ih=>
  intro x4 x5 res hm;refine qM ?_;refine q_sq ?_;refine s_vu [] 0 [] [(15,vb (decide (x5<((a1.length:Nat):Int))))] [] [] ?_;refine q_cm hm (λb6 hm=>?_) (λb6 hm=>?_)
  ·refine q_sk ?_;refine q_sq ?_;refine q_bk 1 ?_;refine q_sq ?_;obtain⟨g7,hm⟩:=qG hm;obtain⟨v8,h9,hm⟩:=qA hm;refine s_vu [qd 2 (Dir.none) (inb_of g7),qc 5 [22] 0 (qD2 ((a1.getD x5.toNat default).Sec) v8 h9)] 0 [15] [(5,vi v8)] [] [] ?_;refine s_vu [] 0 [] [(25,vb (v8 !=0))] [] [] ?_;refine q_cm hm (λb10 hm=>?_) (λb10 hm=>?_)
   ·refine s_vn [] 0 ⟨[(2,vi v8)],[]⟩ ?_;obtain rfl:=oi hm;refine q_rt ?_;refine qT v8 ?_;exact q_rm
   ·refine q_sk ?_;refine q_sq ?_;refine s_vu [qd 2 (Dir.none) (inb_of g7)] 0 [5,25] [(34,vb ((((((a1.getD x5.toNat default).Sec).Rows).length:Nat):Int)==0))] [] [] ?_;refine q_cm hm (λb11 hm=>?_) (λb11 hm=>?_)
    ·refine s_vn [] 0 ⟨[(2,vi 18)],[]⟩ ?_;obtain rfl:=oi hm;refine q_rt ?_;refine qT 18 ?_;exact q_rm
    ·refine q_sk ?_;refine q_sq ?_;refine q_jn (ι:=Bool) (λp=>qBi a1 x4 x5 p) (λp=>BX a1 x4 x5 (jP a1 n) p=some res) ?_ ?_
     ·rintro x13 hm;show H _ (qBi a1 x4 x5 x13) _ _;refine q_cm hm (λb14 hm=>?_) (λb14 hm=>?_)
      ·refine s_vn [] 0 ⟨[(2,vi 9)],[]⟩ ?_;obtain rfl:=oi hm;refine q_rt ?_;refine qT 9 ?_;exact q_rm
      ·refine q_sk ?_;refine q_vu [qd 3 (Dir.none) (inb_of g7)] 0 [3,50] [(3,vi (w64 (x4+((a1.getD x5.toNat default).Len))))] [] [] ?_;refine q_vu [] 0 [4] [(4,vi (w64 (x5+1)))] [] [] ?_;exact q_hl (MF a1 (w64 (x4+((a1.getD x5.toNat default).Len))) (w64 (x5+1))) (ih (w64 (x4+((a1.getD x5.toNat default).Len))) (w64 (x5+1)) _ hm)
     ·rcases bif_c hm with⟨b12,hm⟩|⟨b12,hm⟩
      ·refine q_vu [qd 2 (Dir.none) (inb_of g7),qf 6 b12] 0 [34] [(50,vb true)] [] [] ?_;exact q_J (true) hm
      ·refine q_vu [qd 2 (Dir.none) (inb_of g7),qf 6 b12,qd 9 (Dir.none) (inb_of g7)] 0 [34] [(50,vb (decide (((a1.getD x5.toNat default).Len)>(w64 (20000-x4)))))] [] [] ?_;exact q_J (decide (((a1.getD x5.toNat default).Len)>(w64 (20000-x4)))) hm
  ·refine q_ex 0 ?_;obtain rfl:=oi hm;exact wB () (by kernel_rfl) (by kernel_rfl)
theorem qKO (a1:List qB) (r:Int) (hm:UX a1=some r):CtX Tryz.prog globs 83 0 0 [.one (tl qE default a1)] [] (qAc r) (CT r):=by
 unfold UX at hm;refine q_E Tryz.f83 58 λE=>?_;refine s_vn [] 0 ⟨[(0,vc (tl qE default a1))],[]⟩ ?_;refine q_sq ?_;refine s_vu [] 0 [] [(8,vb (((a1.length:Nat):Int)==0))] [] [] ?_;refine q_cm hm (λb2 hm=>?_) (λb2 hm=>?_)
 ·refine s_vn [] 0 ⟨[(2,vi 3)],[]⟩ ?_;obtain rfl:=oi hm;refine q_rt ?_;exact q_rm
 ·refine q_sk ?_;refine q_sq ?_;refine s_vu [] 0 [8] [(11,vb (decide (((a1.length:Nat):Int)>24)))] [] [] ?_;refine q_cm hm (λb3 hm=>?_) (λb3 hm=>?_)
  ·refine s_vn [] 0 ⟨[(2,vi 4)],[]⟩ ?_;obtain rfl:=oi hm;refine q_rt ?_;exact q_rm
  ·refine q_sk ?_;refine s_vu [] 0 [11] [(3,vi 0)] [] [] ?_;refine q_sq ?_;refine s_vu [] 0 [] [(4,vi 0)] [] [] ?_;obtain⟨u17,h16,hm⟩:=qA hm;refine zA (nd Tryz.f83 500) 0 (by kernel_rfl) FUEL (λo=>qB1) (λv st=>RetQ Tryz.prog Tryz.f83 (qAc v) (CT v) .ret st) u17 (q_hl (MF a1 0 0) (qGS E a1 FUEL 0 0 u17 h16)) ?_ ?_
   ·rintro v18 rfl st hr;obtain rfl:=oi hm;exact hr
   ·rintro o15 rfl;replace hm:_=some r:=hm;refine s_vn [] 0 ⟨[(2,vi 0)],[]⟩ ?_;obtain rfl:=oi hm;refine q_rt ?_;exact q_rm
def qKk (r:Rect):V:=va (qH r)
def qKE (r:Rect):List (Nat×(Nat×O)):=[]
def FD (a1:List qB) (x8:Int) (x9:Rect):St:=
 ⟨[(0,vc (tl qE default a1)),(2,vp 0 0),(3,vp 1 0),(4,vi x8)],[(0,bx 33 [ci 0,ci 0,ci 0,ci 0]),(1,bx 33 (qH x9))]⟩
def qAr (x14:Rect):St:=
 ⟨[(2,vp 0 0),(3,vp 1 0)],[(0,bx 33 [ci 0,ci 0,ci 0,ci 0]),(1,bx 33 (qH x14))]⟩
theorem qF6 (E:Env 0) (a1:List qB):∀(n:Nat) (x8:Int) (x9:Rect) (res:Rect),JI a1 n x8 x9=some res->HL (kx E 60 0) (nd Tryz.f38 244) (zI 0 (λo=>qAr o) res) n (FD a1 x8 x9):=by
 intro n
 induction n with
 |zero=>
  intro x8 x9 res hm;cases hm
 |succ n ih=>
  intro x8 x9 res hm;refine qM ?_;refine q_sq ?_;refine s_vu [] 2 [] [(18,vb (decide (x8<((a1.length:Nat):Int))))] [] [] ?_;refine q_cm hm (λb10 hm=>?_) (λb10 hm=>?_)
  ·refine q_sk ?_;refine q_sq ?_;refine q_bk 1 ?_;obtain⟨g11,hm⟩:=qG hm;obtain⟨v12,h13,hm⟩:=qA hm;refine s_vu [qd 2 (Dir.none) (inb_of g11),qc 5 [25] 2 (qCG ((a1.getD x8.toNat default).Sec) v12 h13)] 2 [18] [(5,vp 2 0)] [] [(2,bx 33 (qH v12))] ?_;refine s_vu [] 3 [] [] [1] [(1,bx 33 [ci (imin x9.X.A v12.X.A),ci (imax x9.X.B v12.X.B),ci x9.Y.A,ci x9.Y.B])] ?_;refine q_vu [] 3 [5] [] [1,2] [(1,bx 33 [ci (imin x9.X.A v12.X.A),ci (imax x9.X.B v12.X.B),ci (imin x9.Y.A v12.Y.A),ci (imax x9.Y.B v12.Y.B)])] ?_;refine q_vu [] 3 [4] [(4,vi (w64 (x8+1)))] [] [] ?_
   exact q_hl (FD a1 (w64 (x8+1)) (Rect.mk (Span.mk (imin x9.X.A v12.X.A) (imax x9.X.B v12.X.B)) (Span.mk (imin x9.Y.A v12.Y.A) (imax x9.Y.B v12.Y.B)))) (ih (w64 (x8+1)) (Rect.mk (Span.mk (imin x9.X.A v12.X.A) (imax x9.X.B v12.X.B)) (Span.mk (imin x9.Y.A v12.Y.A) (imax x9.Y.B v12.Y.B))) _ hm)
  ·refine q_ex 0 ?_;obtain rfl:=oi hm;exact wD (by kernel_rfl) (by kernel_rfl)
theorem qI3 (a1:List qB) (r:Rect) (hm:EG a1=some r):CtX Tryz.prog globs 38 0 0 [.one (tl qE default a1)] [] (qKk r) (qKE r):=by
 unfold EG at hm;refine q_E Tryz.f38 60 λE=>?_;refine s_vn [] 0 ⟨[(0,vc (tl qE default a1)),(2,vp 0 0)],[(0,bx 33 [ci 0,ci 0,ci 0,ci 0])]⟩ ?_;refine q_sq ?_;obtain⟨v2,h3,hm⟩:=qA hm;refine s_vu [qc 1 [6] 1 (qKO a1 v2 h3)] 1 [] [(8,vb (v2 !=0))] [] [] ?_;refine q_cm hm (λb4 hm=>?_) (λb4 hm=>?_)
 ·refine s_vu [] 1 [0,8] [] [] [] ?_;obtain rfl:=oi hm;refine q_rt ?_;exact q_rm
 ·refine q_sk ?_;obtain⟨g5,hm⟩:=qG hm;obtain⟨v6,h7,hm⟩:=qA hm;refine s_vu [qd 1 (Dir.none) (inb_of g5),qc 4 [13] 1 (qCG ((a1.getD (0:Int).toNat default).Sec) v6 h7)] 1 [8] [(3,vp 1 0)] [] [(1,bx 33 (qH v6))] ?_;refine q_sq ?_;refine s_vu [] 2 [] [(4,vi 1)] [] [] ?_;obtain⟨o15,h16,hm⟩:=qA hm;refine zD (nd Tryz.f38 244) 0 (by kernel_rfl) FUEL (λo=>qAr o) o15 (q_hl (FD a1 1 v6) (qF6 E a1 FUEL 1 v6 o15 h16)) ?_;refine s_vu [] 2 [3] [] [0,1] [(0,bx 33 (qH o15))] ?_;obtain rfl:=oi hm;refine q_rt ?_;exact q_rm
def qMb (r:Rect):V:=va (qH r)
def qLR (r:Rect):List (Nat×(Nat×O)):=[]
theorem qDF (a1:List qB) (r:Rect) (hm:UZ a1=some r):CtX Tryz.prog globs 17 0 0 [.one (tl qE default a1)] [] (qMb r) (qLR r):=by
 unfold UZ at hm;refine q_E Tryz.f17 5 λE=>?_;refine s_vn [] 0 ⟨[(0,vc (tl qE default a1)),(2,vp 0 0)],[(0,bx 33 [ci 0,ci 0,ci 0,ci 0])]⟩ ?_;obtain⟨v2,h3,hm⟩:=qA hm;refine s_vu [qc 1 [3] 1 (qI3 a1 v2 h3)] 1 [0] [] [0] [(0,bx 33 (qH v2))] ?_;obtain rfl:=oi hm;refine q_rt ?_;exact q_rm
end Saw
end Go.SL

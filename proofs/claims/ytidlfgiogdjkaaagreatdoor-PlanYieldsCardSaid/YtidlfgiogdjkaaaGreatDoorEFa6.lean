import Derived.Test.YtidlfgiogdjkaaaGreatDoorEBase
import Derived.Test.YtidlfgiogdjkaaaGreatDoorEFa5
set_option linter.unusedVariables false
set_option linter.unusedSimpArgs false
namespace Go.SL
namespace Saw
open Go.Proofs
set_option maxHeartbeats 4000000
set_option maxRecDepth 100000
def qHs (r:(List Cutting_choice)):V:=vo 0 0 3 r.length
def qHD (r:(List Cutting_choice)):List (Nat×(Nat×O)):=[(0,ro 0 207 3 r.length (rf e_Cutting_choice r))]
def AL (a1:Line) (v2:(List Int)) (v4:(List Int)) (l7:List Cutting_choice) (l8:List Cutting_choice) (x9:Int) (v11:Cutting_choice) (x20:Int) (x31:Cutting_choice):St:=
 ⟨[(1,vp 0 0),(3,vo 1 0 1 v2.length),(4,vo 2 0 1 v4.length),(5,vo 3 0 3 l7.length),(6,vo 4 0 3 l8.length),(7,vi x9),(8,vp 5 0),(10,vi x20)],[(0,bx 84 (wA a1)),(1,ro 0 3 1 v2.length (rf e_i64 v2)),(2,ro 0 3 1 v4.length (rf e_i64 v4)),(3,ro 0 207 3 l7.length (rf e_Cutting_choice l7)),(4,ro 0 207 3 l8.length (rf e_Cutting_choice (l8.set x9.toNat v11))),(5,bx 207 (e_Cutting_choice x31))]⟩
def EG (a1:Line) (v2:(List Int)) (v4:(List Int)) (l7:List Cutting_choice) (l8:List Cutting_choice) (x9:Int) (v11:Cutting_choice) (x20:Int) (x21:Cutting_choice) (x29:Bool):St:=
 ⟨[(1,vp 0 0),(3,vo 1 0 1 v2.length),(4,vo 2 0 1 v4.length),(5,vo 3 0 3 l7.length),(6,vo 4 0 3 l8.length),(7,vi x9),(8,vp 5 0),(10,vi x20),(11,vp 7 0),(125,vb x29)],[(0,bx 84 (wA a1)),(1,ro 0 3 1 v2.length (rf e_i64 v2)),(2,ro 0 3 1 v4.length (rf e_i64 v4)),(3,ro 0 207 3 l7.length (rf e_Cutting_choice l7)),(4,ro 0 207 3 l8.length (rf e_Cutting_choice (l8.set x9.toNat v11))),(5,bx 207 (e_Cutting_choice x21)),(7,bx 207 [ci ((((l8.set x9.toNat v11).getD x20.toNat default).piece).Size),ci ((((l8.set x9.toNat v11).getD x20.toNat default).piece).At),ci (w64 ((((l8.set x9.toNat v11).getD x20.toNat default).value)+(w64 ((w64 ((w64 ((v2.getD ((w64 (x20-a1.Kerf)).toNat) default)-(v2.getD x9.toNat default)))+(v4.getD x20.toNat default)))-(v4.getD ((w64 (x20-a1.Kerf)).toNat) default)))))])]⟩
def GE (a1:Line) (v2:(List Int)) (v4:(List Int)) (l7:List Cutting_choice) (l8:List Cutting_choice) (x9:Int) (v11:Cutting_choice) (x20:Int) (x21:Cutting_choice):St:=
 ⟨[(1,vp 0 0),(3,vo 1 0 1 v2.length),(4,vo 2 0 1 v4.length),(5,vo 3 0 3 l7.length),(6,vo 4 0 3 l8.length),(7,vi x9),(8,vp 5 0),(10,vi x20)],[(0,bx 84 (wA a1)),(1,ro 0 3 1 v2.length (rf e_i64 v2)),(2,ro 0 3 1 v4.length (rf e_i64 v4)),(3,ro 0 207 3 l7.length (rf e_Cutting_choice l7)),(4,ro 0 207 3 l8.length (rf e_Cutting_choice (l8.set x9.toNat v11))),(5,bx 207 (e_Cutting_choice x21))]⟩
def EI (a1:Line) (v2:(List Int)) (v4:(List Int)) (l7:List Cutting_choice) (l8:List Cutting_choice) (x9:Int) (v11:Cutting_choice) (x32:Cutting_choice):St:=
 ⟨[(1,vp 0 0),(3,vo 1 0 1 v2.length),(4,vo 2 0 1 v4.length),(5,vo 3 0 3 l7.length),(6,vo 4 0 3 l8.length),(7,vi x9),(8,vp 5 0)],[(0,bx 84 (wA a1)),(1,ro 0 3 1 v2.length (rf e_i64 v2)),(2,ro 0 3 1 v4.length (rf e_i64 v4)),(3,ro 0 207 3 l7.length (rf e_Cutting_choice l7)),(4,ro 0 207 3 l8.length (rf e_Cutting_choice (l8.set x9.toNat v11))),(5,bx 207 (e_Cutting_choice x32))]⟩
def AP (a1:Line) (v2:(List Int)) (v4:(List Int)) (l7:List Cutting_choice) (l8:List Cutting_choice) (x9:Int) (v11:Cutting_choice) (x19:Cutting_choice):St:=
 ⟨[(1,vp 0 0),(3,vo 1 0 1 v2.length),(4,vo 2 0 1 v4.length),(5,vo 3 0 3 l7.length),(6,vo 4 0 3 l8.length),(7,vi x9),(8,vp 5 0)],[(0,bx 84 (wA a1)),(1,ro 0 3 1 v2.length (rf e_i64 v2)),(2,ro 0 3 1 v4.length (rf e_i64 v4)),(3,ro 0 207 3 l7.length (rf e_Cutting_choice l7)),(4,ro 0 207 3 l8.length (rf e_Cutting_choice (l8.set x9.toNat v11))),(5,bx 207 (e_Cutting_choice x19))]⟩
def EC (a1:Line) (v2:(List Int)) (v4:(List Int)) (l7:List Cutting_choice) (l8:List Cutting_choice) (x9:Int) (v11:Cutting_choice) (x17:Bool):St:=
 ⟨[(1,vp 0 0),(3,vo 1 0 1 v2.length),(4,vo 2 0 1 v4.length),(5,vo 3 0 3 l7.length),(6,vo 4 0 3 l8.length),(7,vi x9),(8,vp 5 0),(9,vp 6 0),(67,vb x17)],[(0,bx 84 (wA a1)),(1,ro 0 3 1 v2.length (rf e_i64 v2)),(2,ro 0 3 1 v4.length (rf e_i64 v4)),(3,ro 0 207 3 l7.length (rf e_Cutting_choice l7)),(4,ro 0 207 3 l8.length (rf e_Cutting_choice (l8.set x9.toNat v11))),(5,bx 207 [ci (-1),ci (-1),ci (w64 ((v2.getD a1.Len.toNat default)-(v2.getD x9.toNat default)))]),(6,bx 207 [ci ((((l8.set x9.toNat v11).getD x9.toNat default).piece).Size),ci ((((l8.set x9.toNat v11).getD x9.toNat default).piece).At),ci (((l8.set x9.toNat v11).getD x9.toNat default).value)])]⟩
def VK (a1:Line) (v2:(List Int)) (v4:(List Int)) (l7:List Cutting_choice) (l7n:Nat) (l8:List Cutting_choice) (l8n:Nat) (x9:Int):St:=
 ⟨[(1,vp 0 0),(3,vo 1 0 1 v2.length),(4,vo 2 0 1 v4.length),(5,vo 3 0 3 l7n),(6,vo 4 0 3 l8n),(7,vi x9)],[(0,bx 84 (wA a1)),(1,ro 0 3 1 v2.length (rf e_i64 v2)),(2,ro 0 3 1 v4.length (rf e_i64 v4)),(3,ro 0 207 3 l7n (rf e_Cutting_choice l7)),(4,ro 0 207 3 l8n (rf e_Cutting_choice l8))]⟩
def SZ (l36:List Cutting_choice):St:=
 ⟨[(5,vo 3 0 3 l36.length)],[(3,ro 0 207 3 l36.length (rf e_Cutting_choice l36))]⟩
theorem qEb (E:Env 0) (a1:Line) (v2:(List Int)) (v4:(List Int)) (l7:List Cutting_choice) (l8:List Cutting_choice) (x9:Int) (v11:Cutting_choice):∀(n:Nat) (x20:Int) (x21:Cutting_choice) (res:Cutting_choice),wC a1 v2 v4 l8 x9 v11 n x20 x21=some res->HL (kx E 132 0) (nd Tryz.f151 512628) (zR 2 (λo=>EI a1 v2 v4 l7 l8 x9 v11 o) res) n (GE a1 v2 v4 l7 l8 x9 v11 x20 x21):=by
 intro n
 induction n with
 |zero=>
  intro x20 x21 res hm;cases hm
 |succ n ih=>
  intro x20 x21 res hm;refine qO ?_;refine q_sq ?_;refine s_vu [] 7 [] [(79,vb (decide (x20<=a1.Len)))] [] [] ?_;refine q_cm hm (λb22 hm=>?_) (λb22 hm=>?_)
  ·refine q_sk ?_;refine q_jn (ι:=Cutting_choice) (λp=>AL a1 v2 v4 l7 l8 x9 v11 x20 p) (λp=>RB a1 x20 (wC a1 v2 v4 l8 x9 v11 n) p=some res) ?_ ?_
   ·rintro x31 hm;show H _ (AL a1 v2 v4 l7 l8 x9 v11 x20 x31) _ _;refine q_vu [] 8 [10] [(10,vi (w64 (x20+a1.Pitch)))] [] [] ?_;exact q_hl (GE a1 v2 v4 l7 l8 x9 v11 (w64 (x20+a1.Pitch)) x31) (ih (w64 (x20+a1.Pitch)) x31 _ hm)
   ·refine q_bk 3 ?_;obtain⟨g23,hm⟩:=qI hm;refine s_vu [qd 2 (Dir.none) (inb_of g23),qd 3 (Dir.none) (toNat_lt (inb_of g23))] 7 [79] [(11,vp 7 0)] [] [(7,bx 207 [ci ((((l8.set x9.toNat v11).getD x20.toNat default).piece).Size),ci ((((l8.set x9.toNat v11).getD x20.toNat default).piece).At),ci (((l8.set x9.toNat v11).getD x20.toNat default).value)])] ?_;refine s_vu [] 8 [] [(12,vi (w64 (x20-a1.Kerf)))] [] [] ?_;obtain⟨g24,hm⟩:=qI hm;obtain⟨g25,hm⟩:=qI hm;obtain⟨g26,hm⟩:=qI hm;obtain⟨g27,hm⟩:=qI hm
    refine s_du [qd 4 (Dir.none) (inb_of g24),qd 5 (Dir.none) (toNat_lt (inb_of g24)),qd 8 (Dir.none) (inb_of g25),qd 9 (Dir.none) (toNat_lt (inb_of g25)),qd 13 (Dir.none) (inb_of g26),qd 14 (Dir.none) (toNat_lt (inb_of g26)),qd 18 (Dir.none) (inb_of g27),qd 19 (Dir.none) (toNat_lt (inb_of g27))] [0,1,0,0,12,28,0,0,192,448,1020,0,0,6144,14336,32764,0,0,196608,458752,1048572,2097151,4194303,8388607] 8 [12] [] [7] [(7,bx 207 [ci ((((l8.set x9.toNat v11).getD x20.toNat default).piece).Size),ci ((((l8.set x9.toNat v11).getD x20.toNat default).piece).At),ci (w64 ((((l8.set x9.toNat v11).getD x20.toNat default).value)+(w64 ((w64 ((w64 ((v2.getD ((w64 (x20-a1.Kerf)).toNat) default)-(v2.getD x9.toNat default)))+(v4.getD x20.toNat default)))-(v4.getD ((w64 (x20-a1.Kerf)).toNat) default)))))])] ?_
    refine q_jn (ι:=Bool) (λp=>EG a1 v2 v4 l7 l8 x9 v11 x20 x21 p) (λp=>PZ a1 v2 v4 l8 x9 v11 x20 x21 (wC a1 v2 v4 l8 x9 v11 n) p=some res) ?_ ?_
    ·rintro x29 hm;show H _ (EG a1 v2 v4 l7 l8 x9 v11 x20 x21 x29) _ _;refine q_cm hm (λb30 hm=>?_) (λb30 hm=>?_)
     ·refine q_vu [] 8 [11,125] [] [5,7] [(5,bx 207 [ci ((((l8.set x9.toNat v11).getD x20.toNat default).piece).Size),ci ((((l8.set x9.toNat v11).getD x20.toNat default).piece).At),ci (w64 ((((l8.set x9.toNat v11).getD x20.toNat default).value)+(w64 ((w64 ((w64 ((v2.getD ((w64 (x20-a1.Kerf)).toNat) default)-(v2.getD x9.toNat default)))+(v4.getD x20.toNat default)))-(v4.getD ((w64 (x20-a1.Kerf)).toNat) default)))))])] ?_
      exact q_J ((Cutting_choice.mk (((l8.set x9.toNat v11).getD x20.toNat default).piece) (w64 ((((l8.set x9.toNat v11).getD x20.toNat default).value)+(w64 ((w64 ((w64 ((v2.getD ((w64 (x20-a1.Kerf)).toNat) default)-(v2.getD x9.toNat default)))+(v4.getD x20.toNat default)))-(v4.getD ((w64 (x20-a1.Kerf)).toNat) default))))))) hm
     ·refine q_sk ?_;exact q_J (x21) hm
    ·rcases bif_c hm with⟨b28,hm⟩|⟨b28,hm⟩
     ·refine q_vu [qf 4 b28] 8 [] [(125,vb (decide ((w64 ((((l8.set x9.toNat v11).getD x20.toNat default).value)+(w64 ((w64 ((w64 ((v2.getD ((w64 (x20-a1.Kerf)).toNat) default)-(v2.getD x9.toNat default)))+(v4.getD x20.toNat default)))-(v4.getD ((w64 (x20-a1.Kerf)).toNat) default)))))>x21.value)))] [] [] ?_;exact q_J (decide ((w64 ((((l8.set x9.toNat v11).getD x20.toNat default).value)+(w64 ((w64 ((w64 ((v2.getD ((w64 (x20-a1.Kerf)).toNat) default)-(v2.getD x9.toNat default)))+(v4.getD x20.toNat default)))-(v4.getD ((w64 (x20-a1.Kerf)).toNat) default)))))>x21.value)) hm
     ·refine q_vu [qf 4 b28] 8 [] [(125,vb false)] [] [] ?_;exact q_J (false) hm
  ·refine q_ex 2 ?_;obtain rfl:=oi hm;exact wJ (by kernel_rfl) (by kernel_rfl)
theorem qEO (E:Env 0) (a1:Line) (v2:(List Int)) (v4:(List Int)):∀(n:Nat) (l7:List Cutting_choice) (l7n:Nat) (l8:List Cutting_choice) (l8n:Nat) (x9:Int) (res:(List Cutting_choice)),l7.length=l7n->l8.length=l8n->wL a1 v2 v4 n l7 l8 x9=some res->HL (kx E 132 0) (nd Tryz.f151 500) (zR 0 (λo=>SZ o) res) n (VK a1 v2 v4 l7 l7n l8 l8n x9):=by
 intro n
 induction n with
 |zero=>
  intro l7 l7n l8 l8n x9 res hl0 hl1 hm;cases hm
 |succ n ih=>
  intro l7 l7n l8 l8n x9 res hl0 hl1 hm;subst hl0;subst hl1;refine qO ?_;refine q_sq ?_;refine s_vu [] 5 [] [(30,vb (decide (x9≥0)))] [] [] ?_;refine q_cm hm (λb10 hm=>?_) (λb10 hm=>?_)
  ·refine q_sk ?_;refine q_sq ?_;refine q_bk 1 ?_;obtain⟨v11,h12,hm⟩:=qA hm;obtain⟨g13,hm⟩:=qI hm
   refine s_vu [qd 6 (dex (cen [] [] 5 0 (qC9 v11) (DP v11) [35,36,37,38] [2,3])) (wM (K:=(kx E 132 0)) (b:=false) ⟨[(35,va (wA a1)),(36,vi x9),(37,vo 2 0 1 v4.length),(38,vo 3 0 3 l7.length)],[(2,ro 0 3 1 v4.length (rf e_i64 v4)),(3,ro 0 207 3 l7.length (rf e_Cutting_choice l7))]⟩ (opAt (rg Tryz.f151 8008) 6) [] [] 5 (o1 (And.intro (Nat.le_refl v4.length) (Nat.le_refl l7.length))) rfl (cutting_start_ok a1 x9 v4 l7 v11 h12) (.inr ⟨(by kernel_rfl),qJF v11⟩) (by kernel_rfl)),qd 7 (Dir.none) (inb_of g13),qd 8 (drw 0 0 (rf e_Cutting_choice (l8.set x9.toNat v11))) (stP e_Cutting_choice default v11 l8 l8.length x9.toNat 0 (e_Cutting_choice v11) rfl (toNat_lt (inb_of g13)) rfl)] 5 [30] [] [4] [(4,ro 0 207 3 l8.length (rf e_Cutting_choice (l8.set x9.toNat v11)))] ?_
   obtain⟨g14,hm⟩:=qI hm;obtain⟨g15,hm⟩:=qI hm;refine s_du [qd 4 (Dir.none) (inb_of g14),qd 5 (Dir.none) (toNat_lt (inb_of g14)),qd 8 (Dir.none) (inb_of g15),qd 9 (Dir.none) (toNat_lt (inb_of g15))] [0,0,0,4,14,30,0,0,192,448,1022,2047,0,8191] 5 [] [(8,vp 5 0)] [] [(5,bx 207 [ci (-1),ci (-1),ci (w64 ((v2.getD a1.Len.toNat default)-(v2.getD x9.toNat default)))])] ?_;refine q_jn (ι:=Cutting_choice) (λp=>AP a1 v2 v4 l7 l8 x9 v11 p) (λp=>RD a1 v2 v4 l7 l8 x9 (wL a1 v2 v4 n) v11 p=some res) ?_ ?_
   ·rintro x19 hm;show H _ (AP a1 v2 v4 l7 l8 x9 v11 x19) _ _;refine q_sq ?_;refine s_vu [] 7 [] [(10,vi (w64 ((w64 (x9+a1.Pitch))+a1.Kerf)))] [] [] ?_;obtain⟨o33,h34,hm⟩:=qA hm;refine zL (nd Tryz.f151 512628) 2 (by kernel_rfl) FUEL (λo=>EI a1 v2 v4 l7 l8 x9 v11 o) o33 (q_hl (GE a1 v2 v4 l7 l8 x9 v11 (w64 ((w64 (x9+a1.Pitch))+a1.Kerf)) x19) (qEb E a1 v2 v4 l7 l8 x9 v11 FUEL (w64 ((w64 (x9+a1.Pitch))+a1.Kerf)) x19 o33 h34)) ?_;obtain⟨g35,hm⟩:=qI hm
    refine q_vu [qd 3 (Dir.none) (inb_of g35),qd 4 (drw 0 0 (rf e_Cutting_choice (l7.set x9.toNat o33))) (stP e_Cutting_choice default o33 l7 l7.length x9.toNat 0 (e_Cutting_choice o33) rfl (toNat_lt (inb_of g35)) rfl)] 7 [8] [] [3,5] [(3,ro 0 207 3 l7.length (rf e_Cutting_choice (l7.set x9.toNat o33)))] ?_;refine q_vu [] 7 [7] [(7,vi (w64 (x9-1)))] [] [] ?_;exact q_hl (VK a1 v2 v4 (l7.set x9.toNat o33) l7.length (l8.set x9.toNat v11) l8.length (w64 (x9-1))) (ih (l7.set x9.toNat o33) l7.length (l8.set x9.toNat v11) l8.length (w64 (x9-1)) _ (len_set rfl) (len_set rfl) hm)
   ·refine s_vu [qd 2 (Dir.none) (inb_of g13),qd 3 (Dir.none) (toNat_lt (inb_of g13))] 6 [] [(9,vp 6 0)] [] [(6,bx 207 [ci ((((l8.set x9.toNat v11).getD x9.toNat default).piece).Size),ci ((((l8.set x9.toNat v11).getD x9.toNat default).piece).At),ci (((l8.set x9.toNat v11).getD x9.toNat default).value)])] ?_;refine q_jn (ι:=Bool) (λp=>EC a1 v2 v4 l7 l8 x9 v11 p) (λp=>PH a1 v2 v4 l7 l8 x9 (wL a1 v2 v4 n) v11 p=some res) ?_ ?_
    ·rintro x17 hm;show H _ (EC a1 v2 v4 l7 l8 x9 v11 x17) _ _;refine q_cm hm (λb18 hm=>?_) (λb18 hm=>?_)
     ·refine q_vu [] 7 [9,67] [] [5,6] [(5,bx 207 [ci ((((l8.set x9.toNat v11).getD x9.toNat default).piece).Size),ci ((((l8.set x9.toNat v11).getD x9.toNat default).piece).At),ci (((l8.set x9.toNat v11).getD x9.toNat default).value)])] ?_;exact q_J (((l8.set x9.toNat v11).getD x9.toNat default)) hm
     ·refine q_sk ?_;exact q_J ((Cutting_choice.mk (Piece.mk (-1) (-1)) (w64 ((v2.getD a1.Len.toNat default)-(v2.getD x9.toNat default))))) hm
    ·rcases bif_c hm with⟨b16,hm⟩|⟨b16,hm⟩
     ·refine q_vu [qf 4 b16] 7 [] [(67,vb (decide ((((l8.set x9.toNat v11).getD x9.toNat default).value)>(w64 ((v2.getD a1.Len.toNat default)-(v2.getD x9.toNat default))))))] [] [] ?_;exact q_J (decide ((((l8.set x9.toNat v11).getD x9.toNat default).value)>(w64 ((v2.getD a1.Len.toNat default)-(v2.getD x9.toNat default))))) hm
     ·refine q_vu [qf 4 b16] 7 [] [(67,vb false)] [] [] ?_;exact q_J (false) hm
  ·refine q_ex 0 ?_;obtain rfl:=oi hm;exact wJ (by kernel_rfl) (by kernel_rfl)
theorem qGJ (a1:Line) (r:(List Cutting_choice)) (hm:PK a1=some r):CtX Tryz.prog globs 151 0 0 [.agg (wA a1)] [] (qHs r) (qHD r):=by
 unfold PK at hm;refine q_E Tryz.f151 132 λE=>?_;refine s_vn [] 0 ⟨[(1,vp 0 0)],[(0,bx 84 (wA a1))]⟩ ?_;obtain⟨v2,h3,hm⟩:=qA hm;obtain⟨v4,h5,hm⟩:=qA hm;refine s_du [qc 2 [14] 1 (qC5 a1.Chip v2 h3),qc 5 [17] 2 (qC5 a1.Dust v4 h5)] [0,1,3,0,8,31,63,127] 1 [] [(3,vo 1 0 1 v2.length),(4,vo 2 0 1 v4.length)] [] [(1,ro 0 3 1 v2.length (rf e_i64 v2)),(2,ro 0 3 1 v4.length (rf e_i64 v4))] ?_;obtain⟨g6,hm⟩:=qI hm
 refine s_vu [qd 3 (drw 3 0 (rf e_Cutting_choice (List.replicate ((w64 (a1.Len+1)).toNat) (Cutting_choice.mk (Piece.mk 0 0) 0)))) (mkP e_Cutting_choice default (Cutting_choice.mk (Piece.mk 0 0) 0) (w64 (a1.Len+1)) 24 [ci 0,ci 0,ci 0] (qHh g6) rfl)] 3 [] [(5,vo 3 0 3 ((w64 (a1.Len+1)).toNat))] [] [(3,ro 0 207 3 ((w64 (a1.Len+1)).toNat) (rf e_Cutting_choice (List.replicate ((w64 (a1.Len+1)).toNat) (Cutting_choice.mk (Piece.mk 0 0) 0))))] ?_
 refine s_vu [qd 3 (drw 4 0 (rf e_Cutting_choice (List.replicate ((w64 (a1.Len+1)).toNat) (Cutting_choice.mk (Piece.mk 0 0) 0)))) (mkP e_Cutting_choice default (Cutting_choice.mk (Piece.mk 0 0) 0) (w64 (a1.Len+1)) 24 [ci 0,ci 0,ci 0] (qHh g6) rfl)] 4 [] [(6,vo 4 0 3 ((w64 (a1.Len+1)).toNat))] [] [(4,ro 0 207 3 ((w64 (a1.Len+1)).toNat) (rf e_Cutting_choice (List.replicate ((w64 (a1.Len+1)).toNat) (Cutting_choice.mk (Piece.mk 0 0) 0))))] ?_;refine q_sq ?_;refine s_vu [] 5 [] [(7,vi a1.Len)] [] [] ?_;obtain⟨o37,h38,hm⟩:=qA hm
 refine zL (nd Tryz.f151 500) 0 (by kernel_rfl) FUEL (λo=>SZ o) o37 (q_hl (VK a1 v2 v4 (List.replicate ((w64 (a1.Len+1)).toNat) (Cutting_choice.mk (Piece.mk 0 0) 0)) ((w64 (a1.Len+1)).toNat) (List.replicate ((w64 (a1.Len+1)).toNat) (Cutting_choice.mk (Piece.mk 0 0) 0)) ((w64 (a1.Len+1)).toNat) a1.Len) (qEO E a1 v2 v4 FUEL (List.replicate ((w64 (a1.Len+1)).toNat) (Cutting_choice.mk (Piece.mk 0 0) 0)) ((w64 (a1.Len+1)).toNat) (List.replicate ((w64 (a1.Len+1)).toNat) (Cutting_choice.mk (Piece.mk 0 0) 0)) ((w64 (a1.Len+1)).toNat) a1.Len o37 qHg qHg h38)) ?_
 refine s_vu [] 5 [5] [(2,vo 3 0 3 o37.length)] [] [] ?_;obtain rfl:=oi hm;refine qV 3 0 (by kernel_rfl) ?_;refine q_rt ?_;exact q_rm
def IQ (r:(List Piece)×Int×Int):V:= .tup [.one (.own 0 0 2 r.1.length),.one (ci r.2.1),.one (ci r.2.2)]
def TD (r:(List Piece)×Int×Int):List (Nat×(Nat×O)):=[(0,ro 0 92 2 r.1.length (rf jA r.1))]
theorem qED (r:(List Piece)×Int×Int):jT (TD r):=by
 intro i k o h;unfold TD at h;rw[look_cons] at h;split at h
 ·cases h;exact λ_ _=>rfl
 ·cases h
def LL (a1:Line) (v5:(List Cutting_choice)) (l7:List Piece) (l7n:Nat) (x8:Int):St:=
 ⟨[(1,vp 0 0),(6,vo 1 0 3 v5.length),(7,vo 2 0 2 l7n),(8,vi x8)],[(0,bx 84 (wA a1)),(1,ro 0 207 3 v5.length (rf e_Cutting_choice v5)),(2,ro 0 92 2 l7n (rf jA l7))]⟩
def qBd (v5:(List Cutting_choice)) (l16:List Piece):St:=
 ⟨[(6,vo 1 0 3 v5.length),(7,vo 2 0 2 l16.length)],[(1,ro 0 207 3 v5.length (rf e_Cutting_choice v5)),(2,ro 0 92 2 l16.length (rf jA l16))]⟩
theorem qG3 (E:Env 0) (a1:Line) (v5:(List Cutting_choice)):∀(n:Nat) (l7:List Piece) (l7n:Nat) (x8:Int) (res:(List Piece)),l7.length=l7n->JV a1 v5 n l7 x8=some res->HL (kx E 47 0) (nd Tryz.f87 500) (zR 0 (λo=>qBd v5 o) res) n (LL a1 v5 l7 l7n x8):=by
 intro n
 induction n with
 |zero=>
  intro l7 l7n x8 res hl0 hm;cases hm
 |succ n ih=>
  intro l7 l7n x8 res hl0 hm;subst hl0;refine qO ?_;refine q_sq ?_;refine s_vu [] 3 [] [(18,vb (decide (x8≥0)))] [] [] ?_;refine q_cm hm (λb9 hm=>?_) (λb9 hm=>?_)
  ·refine q_sk ?_;refine q_bk 1 ?_;obtain⟨g10,hm⟩:=qI hm;refine s_vu [qd 2 (Dir.none) (inb_of g10),qd 4 (Dir.none) (toNat_lt (inb_of g10))] 3 [8,18] [(9,vp 3 0)] [] [(3,bx 92 [ci (((v5.getD x8.toNat default).piece).Size),ci (((v5.getD x8.toNat default).piece).At)])] ?_;refine q_sq ?_;refine s_vu [] 4 [] [(26,vb (((((v5.getD x8.toNat default).piece).Size)==(-1))&&(((((v5.getD x8.toNat default).piece).At)==(-1))&&true)))] [] [] ?_;refine q_cm hm (λb11 hm=>?_) (λb11 hm=>?_)
   ·refine q_ex 0 ?_;obtain rfl:=oi hm;exact wJ (by kernel_rfl) (by kernel_rfl)
   ·refine q_sk ?_;obtain⟨g12,hm⟩:=qI hm;refine s_vu [qd 2 (drw 4 0 (rf jA ([(v5.getD x8.toNat default).piece]:List Piece))) (litP jA default 2 (λ_=>rfl) ([(v5.getD x8.toNat default).piece]:List Piece) 1 rfl),qd 3 (drw 2 1 (rf jA (l7++([(v5.getD x8.toNat default).piece]:List Piece)))) (apP jA default l7 ([(v5.getD x8.toNat default).piece]:List Piece) l7.length 1 2 16 (1<=1) (Nat.le_refl _) rfl rfl (λ_=>rfl) (zG g12))] 4 [7,26] [(7,vo 2 1 2 (l7.length+1))] [2] [(2,ro 1 92 2 (l7.length+1) (rf jA (l7++([(v5.getD x8.toNat default).piece]:List Piece))))] ?_;obtain⟨g13,hm⟩:=qI hm
    obtain⟨v14,h15,hm⟩:=qA hm;refine q_du [qd 7 (Dir.none) (inb_of g13),qc 10 [31,40] 5 (qBn a1 (w64 ((((v5.getD x8.toNat default).piece).At)+(a1.Sizes.getD (((v5.getD x8.toNat default).piece).Size).toNat default))) v14 h15)] [0,0,2,0,8,0,32,120,248,510,1023,2047] 5 [9] [(8,vi v14)] [3] [] ?_;exact q_hl (LL a1 v5 (l7++([(v5.getD x8.toNat default).piece]:List Piece)) (l7.length+1) v14) (ih (l7++([(v5.getD x8.toNat default).piece]:List Piece)) (l7.length+1) v14 _ (len_app rfl rfl) hm)
  ·refine q_ex 0 ?_;obtain rfl:=oi hm;exact wJ (by kernel_rfl) (by kernel_rfl)
theorem cutting_Best_ok (a1:Line) (r:(List Piece)×Int×Int) (hm:ZH a1=some r):CtX Tryz.prog globs 87 0 0 [.agg (wA a1)] [] (IQ r) (TD r):=by
 unfold ZH at hm;refine q_E Tryz.f87 47 λE=>?_;refine s_vn [] 0 ⟨[(1,vp 0 0)],[(0,bx 84 (wA a1))]⟩ ?_;refine q_sq ?_;obtain⟨v2,h3,hm⟩:=qA hm;refine s_vu [qc 1 [10] 1 (qIa a1 v2 h3)] 1 [] [(5,vi v2)] [] [] ?_;refine s_vu [] 1 [] [(13,vb (v2 !=0))] [] [] ?_;refine q_cm hm (λb4 hm=>?_) (λb4 hm=>?_)
 ·refine s_vn [] 1 ⟨[(2,vc (.emp)),(3,vi 0),(4,vi v2)],[]⟩ ?_;refine q_fn [.own 2 1 92 2 (rf jA ([]:List Piece))] ⟨[(2,vo 1 0 2 0),(3,vi 0),(4,vi v2)],[(1,ro 0 92 2 0 (rf jA ([]:List Piece)))]⟩ o0 ?_;refine q_fn [.len 1 (([]:List Piece).length)] ⟨[(2,vo 1 0 2 (([]:List Piece).length)),(3,vi 0),(4,vi v2)],[(1,ro 0 92 2 (([]:List Piece).length) (rf jA ([]:List Piece)))]⟩ (o1 (And.intro (show 0=([]:List Piece).length from rfl) (show 0=([]:List Piece).length from rfl))) ?_;obtain rfl:=oi hm;refine qV 1 0 (by kernel_rfl) ?_;refine q_rt ?_;exact q_rm
 ·refine q_sk ?_;obtain⟨v5,h6,hm⟩:=qA hm;refine s_vu [qc 1 [15] 1 (qGJ a1 v5 h6)] 1 [5,13] [(6,vo 1 0 3 v5.length)] [] [(1,ro 0 207 3 v5.length (rf e_Cutting_choice v5))] ?_;refine s_vu [] 2 [] [(7,vc (.emp))] [] [] ?_;refine q_sq ?_;refine s_vu [] 2 [] [(8,vi 0)] [] [] ?_;refine q_fn [.own 7 2 92 2 (rf jA ([]:List Piece))] ⟨[(1,vp 0 0),(6,vo 1 0 3 v5.length),(7,vo 2 0 2 0),(8,vi 0)],[(0,bx 84 (wA a1)),(1,ro 0 207 3 v5.length (rf e_Cutting_choice v5)),(2,ro 0 92 2 0 (rf jA ([]:List Piece)))]⟩ o0 ?_;obtain⟨o17,h18,hm⟩:=qA hm
  refine zL (nd Tryz.f87 500) 0 (by kernel_rfl) FUEL (λo=>qBd v5 o) o17 (q_hl (LL a1 v5 ([]:List Piece) 0 0) (qG3 E a1 v5 FUEL ([]:List Piece) 0 0 o17 rfl h18)) ?_;obtain⟨g19,hm⟩:=qI hm;refine s_du [qd 2 (Dir.none) (inb_of g19),qd 4 (Dir.none) (toNat_lt (inb_of g19))] [0,0,2,6,14,1,63,127] 3 [6,7] [(2,vo 2 0 2 o17.length),(3,vi ((v5.getD ((0:Int).toNat) default).value)),(4,vi 0)] [1] [] ?_;obtain rfl:=oi hm;refine qV 2 0 (by kernel_rfl) ?_;refine q_rt ?_;exact q_rm
def JL (a1:List Node) (a2:Int) (a3:List Node) (r:Int×(List Node)):V:= .undef
def pattern_Row_1_s1_o (a1:List Node) (a2:Int) (a3:List Node) (r:Int×(List Node)):List (Nat×(Nat×O)):=[(0,bx 3 [ci r.1]),(1,bx 44 [.own 2 0 2 r.2.length]),(2,ro 0 65 2 r.2.length (rf e_Node r.2))]
theorem BG (a1:List Node) (a2:Int) (a3:List Node) (r:Int×(List Node)):jT (pattern_Row_1_s1_o a1 a2 a3 r):=by
 intro i k o h;unfold pattern_Row_1_s1_o at h;rw[look_cons] at h;split at h
 ·cases h;rfl
 ·rw[look_cons] at h;split at h
  ·cases h;rfl
  ·rw[look_cons] at h;split at h
   ·cases h;exact λ_ _=>rfl
   ·cases h
theorem KJ (a1:List Node) (a2:Int) (a3:List Node) (r:Int×(List Node)) (hm:yF a1 a2 a3=some r):CtX Tryz.prog globs 154 3 2 [.one (tl e_Node default a1),.one (.bptr 0 0 0),.one (.bptr 1 0 0)] [(0,bx 3 [ci a2]),(1,bx 44 [.own 2 0 2 a3.length]),(2,ro 0 65 2 a3.length (rf e_Node a3))] (JL a1 a2 a3 r) (pattern_Row_1_s1_o a1 a2 a3 r):=by
 unfold yF at hm;refine q_E Tryz.f154 13 λE=>?_;refine s_vn [] 3 ⟨[(0,vc (tl e_Node default a1)),(1,vp 0 0),(2,vp 1 0)],[(0,bx 3 [ci (w64 (a2+((a1.length:Nat):Int)))]),(1,bx 44 [.own 2 0 2 a3.length]),(2,ro 0 65 2 a3.length (rf e_Node a3))]⟩ ?_;refine s_vu [] 3 [1] [(9,vb (decide ((w64 (a2+((a1.length:Nat):Int)))<=127)))] [] [] ?_;refine q_cm hm (λb4 hm=>?_) (λb4 hm=>?_)
 ·obtain⟨g5,hm⟩:=qI hm;refine q_wu [qd 2 (drw 2 1 (rf e_Node (a3++a1))) (apP e_Node default a3 a1 a3.length a1.length 2 16 (True) trivial rfl rfl (λ_=>rfl) (zG g5))] [.len 2 ((a3++a1).length)] (o1 (And.intro (Eq.symm (show(a3++a1).length=(a3.length+a1.length) from(len_app rfl rfl))) (And.intro (Eq.symm (show(a3++a1).length=(a3.length+a1.length) from(len_app rfl rfl))) (Eq.symm (show(a3++a1).length=(a3.length+a1.length) from(len_app rfl rfl)))))) 3 [0,2,9] [] [1,2] [(1,bx 44 [.own 2 1 2 ((a3++a1).length)]),(2,ro 1 65 2 ((a3++a1).length) (rf e_Node (a3++a1)))] ?_;obtain rfl:=oi hm;exact q_rm
 ·refine q_sk ?_;obtain rfl:=oi hm;exact q_rm
def qJp (r:Bool):V:=vb r
def qKl (r:Bool):List (Nat×(Nat×O)):=[]
def qAi (x3:Bool):St:=
 ⟨[(2,vb x3)],[]⟩
theorem QG (a1:Int) (r:Bool) (hm:wK a1=some r):CtX Tryz.prog globs 153 0 0 [.one (ci a1)] [] (qJp r) (qKl r):=by
 unfold wK at hm;refine q_E Tryz.f153 9 λE=>?_;refine s_vn [] 0 ⟨[(0,vi a1)],[]⟩ ?_;refine q_jn (ι:=Bool) (λp=>qAi p) (λp=>UZ p=some r) ?_ ?_
 ·rintro x3 hm;show H _ (qAi x3) _ _;obtain rfl:=oi hm;refine q_rt ?_;exact q_rm
 ·rcases bif_c hm with⟨b2,hm⟩|⟨b2,hm⟩
  ·refine q_vn [qf 2 b2] 0 ⟨[(2,vb true)],[]⟩ ?_;exact q_J (true) hm
  ·refine q_vn [qf 2 b2] 0 ⟨[(2,vb (a1==3))],[]⟩ ?_;exact q_J (a1==3) hm
def qJl (r:Span):V:=va (e_Span r)
def qJi (r:Span):List (Nat×(Nat×O)):=[]
theorem HI (a1:Rect) (a2:Int) (r:Span) (hm:ZP a1 a2=some r):CtX Tryz.prog globs 155 0 0 [.agg (qD a1),.one (ci a2)] [] (qJl r) (qJi r):=by
 unfold ZP at hm;refine q_E Tryz.f155 11 λE=>?_;refine s_vn [] 0 ⟨[(1,vi a2),(2,vp 0 0),(4,vp 1 0)],[(0,bx 33 (qD a1)),(1,bx 31 [ci 0,ci 0])]⟩ ?_;refine q_sq ?_;refine s_vu [] 2 [1] [(6,vb (a2==2))] [] [] ?_;refine q_cm hm (λb3 hm=>?_) (λb3 hm=>?_)
 ·refine s_vn [] 2 ⟨[(4,vp 1 0)],[(1,bx 31 (e_Span a1.X))]⟩ ?_;obtain rfl:=oi hm;refine q_rt ?_;exact q_rm
 ·refine q_sk ?_;refine s_vn [] 2 ⟨[(4,vp 1 0)],[(1,bx 31 (e_Span a1.Y))]⟩ ?_;obtain rfl:=oi hm;refine q_rt ?_;exact q_rm
def LO (r:Bool):V:=vb r
def LQ (r:Bool):List (Nat×(Nat×O)):=[]
def EV (a1:Rect) (x2:Int) (x7:Bool):St:=
 ⟨[(9,va (qD a1)),(10,vi x2),(27,vb x7)],[]⟩
def VB (a1:Rect) (x2:Int):St:=
 ⟨[(9,va (qD a1)),(10,vi x2)],[]⟩
def AM :St:=
 ⟨[],[]⟩
theorem qEK (E:Env 0) (a1:Rect):∀(n:Nat) (x2:Int) (res:Bool⊕Unit),zB a1 n x2=some res->HL (kx E 29 0) (nd Tryz.f115 52) (wP 0 (λo=>AM) (λv st=>RetQ Tryz.prog Tryz.f115 (LO v) (LQ v) .ret st) res) n (VB a1 x2):=by
 intro n
 induction n with
 |zero=>
  intro x2 res hm;cases hm
 |succ n ih=>
  intro x2 res hm;refine qO ?_;refine s_vu [] 1 [] [(11,vb (decide (x2<2)))] [] [] ?_;refine q_sq ?_;refine q_cm hm (λb3 hm=>?_) (λb3 hm=>?_)
  ·refine q_sk ?_;refine q_sq ?_;refine q_bk 1 ?_;obtain⟨g4,hm⟩:=qI hm;refine s_vu [qd 0 (Dir.none) (inb_of g4)] 1 [11] [(4,vp 1 0)] [] [(1,bx 31 [ci (([a1.X.A,a1.X.B,a1.Y.A,a1.Y.B]:List Int).getD (x2.toNat*2+0) 0),ci (([a1.X.A,a1.X.B,a1.Y.A,a1.Y.B]:List Int).getD (x2.toNat*2+1) 0)])] ?_;refine q_jn (ι:=Bool) (λp=>EV a1 x2 p) (λp=>wO x2 (zB a1 n) p=some res) ?_ ?_
   ·rintro x7 hm;show H _ (EV a1 x2 x7) _ _;refine q_cm hm (λb8 hm=>?_) (λb8 hm=>?_)
    ·refine s_vn [] 2 ⟨[(2,vb false)],[]⟩ ?_;obtain rfl:=oi hm;refine q_rt ?_;refine qZ false ?_;exact q_rm
    ·refine q_sk ?_;refine q_vu [] 2 [10,27] [(10,vi (w64 (x2+1)))] [] [] ?_;exact q_hl (VB a1 (w64 (x2+1))) (ih (w64 (x2+1)) _ hm)
   ·rcases bif_c hm with⟨b5,hm⟩|⟨b5,hm⟩
    ·refine q_vu [qf 3 b5] 2 [4] [(27,vb true)] [1] [] ?_;exact q_J (true) hm
    ·rcases bif_c hm with⟨b6,hm⟩|⟨b6,hm⟩
     ·refine q_vu [qf 3 b5,qf 8 b6] 2 [4] [(27,vb true)] [1] [] ?_;exact q_J (true) hm
     ·refine q_vu [qf 3 b5,qf 8 b6] 2 [4] [(27,vb (decide ((([a1.X.A,a1.X.B,a1.Y.A,a1.Y.B]:List Int).getD (x2.toNat*2+0) 0)≥(([a1.X.A,a1.X.B,a1.Y.A,a1.Y.B]:List Int).getD (x2.toNat*2+1) 0))))] [1] [] ?_;exact q_J (decide ((([a1.X.A,a1.X.B,a1.Y.A,a1.Y.B]:List Int).getD (x2.toNat*2+0) 0)≥(([a1.X.A,a1.X.B,a1.Y.A,a1.Y.B]:List Int).getD (x2.toNat*2+1) 0))) hm
  ·refine q_ex 0 ?_;obtain rfl:=oi hm;exact wV () (by kernel_rfl) (by kernel_rfl)
theorem PD (a1:Rect) (r:Bool) (hm:jU a1=some r):CtX Tryz.prog globs 115 0 0 [.agg (qD a1)] [] (LO r) (LQ r):=by
 unfold jU at hm;refine q_E Tryz.f115 29 λE=>?_;refine s_vn [] 0 ⟨[(1,vp 0 0)],[(0,bx 33 (qD a1))]⟩ ?_;refine q_sq ?_;refine s_vn [] 1 ⟨[(9,va (qD a1)),(10,vi 0)],[]⟩ ?_;obtain⟨u11,h10,hm⟩:=qA hm;refine zO (nd Tryz.f115 52) 0 (by kernel_rfl) FUEL (λo=>AM) (λv st=>RetQ Tryz.prog Tryz.f115 (LO v) (LQ v) .ret st) u11 (q_hl (VB a1 0) (qEK E a1 FUEL 0 u11 h10)) ?_ ?_
 ·rintro v12 rfl st hr;obtain rfl:=oi hm;exact hr
 ·rintro o9 rfl;replace hm:_=some r:=hm;refine s_vn [] 1 ⟨[(2,vb true)],[]⟩ ?_;obtain rfl:=oi hm;refine q_rt ?_;exact q_rm
def KY (r:(List Node)×Int):V:= .tup [.one (.own 0 0 2 r.1.length),.one (ci r.2)]
def ZQ (r:(List Node)×Int):List (Nat×(Nat×O)):=[(0,ro 0 65 2 r.1.length (rf e_Node r.1))]
theorem qAO (r:(List Node)×Int):jT (ZQ r):=by
 intro i k o h;unfold ZQ at h;rw[look_cons] at h;split at h
 ·cases h;exact λ_ _=>rfl
 ·cases h
def qBX (a2:Int) (a3:Int) (a4:List Span) (a5:List (List Node)) (v17:Span) (x21:Int) (x40:Int) (x41:Bool) (l42:List Node) (l42n:Nat) (x43:Int):St:=
 ⟨[(1,vi a2),(2,vi a3),(4,vc (tl (qE e_Node) default a5)),(12,vp 1 0),(13,vp 2 0),(14,vc (.fn 154 [.bptr 2 0 0,.bptr 1 0 0])),(15,vp 3 0),(16,vi x40),(17,vb x41),(18,vi x21),(45,vc (tl e_Span default a4)),(46,vi ((a4.length:Nat):Int)),(47,vi x21)],[(1,bx 44 [.own 4 0 2 l42n]),(2,bx 3 [ci x43]),(3,bx 31 (e_Span v17)),(4,ro 0 65 2 l42n (rf e_Node l42))]⟩
def qCF (a2:Int) (a3:Int) (a4:List Span) (a5:List (List Node)) (v17:Span) (x19:Int) (x20:Bool) (x21:Int) (l35:List Node) (l35n:Nat) (x36:Int):St:=
 ⟨[(1,vi a2),(2,vi a3),(4,vc (tl (qE e_Node) default a5)),(12,vp 1 0),(13,vp 2 0),(14,vc (.fn 154 [.bptr 2 0 0,.bptr 1 0 0])),(15,vp 3 0),(16,vi x19),(17,vb x20),(18,vi x21),(19,vp 5 0),(45,vc (tl e_Span default a4)),(46,vi ((a4.length:Nat):Int)),(47,vi x21)],[(1,bx 44 [.own 4 0 2 l35n]),(2,bx 3 [ci x36]),(3,bx 31 (e_Span v17)),(4,ro 0 65 2 l35n (rf e_Node l35)),(5,bx 31 [ci ((a4.getD x21.toNat default).A),ci ((a4.getD x21.toNat default).B)])]⟩
def qBR (a2:Int) (a3:Int) (a4:List Span) (a5:List (List Node)) (v17:Span) (x19:Int) (x20:Bool) (x21:Int) (l22:List Node) (x23:Int) (x29:Bool):St:=
 ⟨[(1,vi a2),(2,vi a3),(4,vc (tl (qE e_Node) default a5)),(12,vp 1 0),(13,vp 2 0),(14,vc (.fn 154 [.bptr 2 0 0,.bptr 1 0 0])),(15,vp 3 0),(16,vi x19),(17,vb x20),(18,vi x21),(19,vp 5 0),(45,vc (tl e_Span default a4)),(46,vi ((a4.length:Nat):Int)),(47,vi x21),(58,vb x29)],[(1,bx 44 [.own 4 0 2 l22.length]),(2,bx 3 [ci x23]),(3,bx 31 (e_Span v17)),(4,ro 0 65 2 l22.length (rf e_Node l22)),(5,bx 31 [ci ((a4.getD x21.toNat default).A),ci ((a4.getD x21.toNat default).B)])]⟩
def HG (a2:Int) (a3:Int) (a4:List Span) (a5:List (List Node)) (v17:Span) (x19:Int) (x20:Bool) (x21:Int) (l22:List Node) (l22n:Nat) (x23:Int):St:=
 ⟨[(1,vi a2),(2,vi a3),(4,vc (tl (qE e_Node) default a5)),(12,vp 1 0),(13,vp 2 0),(14,vc (.fn 154 [.bptr 2 0 0,.bptr 1 0 0])),(15,vp 3 0),(16,vi x19),(17,vb x20),(45,vc (tl e_Span default a4)),(46,vi ((a4.length:Nat):Int)),(47,vi x21)],[(1,bx 44 [.own 4 0 2 l22n]),(2,bx 3 [ci x23]),(3,bx 31 (e_Span v17)),(4,ro 0 65 2 l22n (rf e_Node l22))]⟩
def qCD (x47:Bool) (l48:List Node) (x49:Int):St:=
 ⟨[(12,vp 1 0),(13,vp 2 0),(14,vc (.fn 154 [.bptr 2 0 0,.bptr 1 0 0])),(17,vb x47)],[(1,bx 44 [.own 4 0 2 l48.length]),(2,bx 3 [ci x49]),(4,ro 0 65 2 l48.length (rf e_Node l48))]⟩
def qB2 (x57:Int) (l58:List Node) (l58n:Nat):St:=
 ⟨[(12,vp 1 0),(13,vp 2 0)],[(1,bx 44 [.own 4 0 2 l58n]),(2,bx 3 [ci x57]),(4,ro 0 65 2 l58n (rf e_Node l58))]⟩
def qCo (a1:Rect) (a2:Int) (a3:Int) (a4:List Span) (a5:List (List Node)) (x15:Bool):St:=
 ⟨[(1,vi a2),(2,vi a3),(3,vc (tl e_Span default a4)),(4,vc (tl (qE e_Node) default a5)),(5,vp 0 0),(38,vb x15)],[(0,bx 33 (qD a1))]⟩
def qCj (a1:Rect) (a2:Int) (a3:Int) (a4:List Span) (a5:List (List Node)) (x12:Bool):St:=
 ⟨[(1,vi a2),(2,vi a3),(3,vc (tl e_Span default a4)),(4,vc (tl (qE e_Node) default a5)),(5,vp 0 0),(32,vb x12)],[(0,bx 33 (qD a1))]⟩
theorem qHy (E:Env 0) (a2:Int) (a3:Int) (a4:List Span) (a5:List (List Node)) (v17:Span):∀(n:Nat) (x19:Int) (x20:Bool) (x21:Int) (l22:List Node) (l22n:Nat) (x23:Int) (res:((List Node)×Int)⊕(Bool×(List Node)×Int)),l22.length=l22n->wF a2 a3 a4 a5 v17 n x19 x20 x21 l22 x23=some res->HL (kx E 130 0) (nd Tryz.f90 16372) (wP 0 (λo=>qCD o.1 o.2.1 o.2.2) (λv st=>RetQ Tryz.prog Tryz.f90 (KY v) (ZQ v) .ret st) res) n (HG a2 a3 a4 a5 v17 x19 x20 x21 l22 l22n x23):=by
 intro n
 induction n with
 |zero=>
  intro x19 x20 x21 l22 l22n x23 res hl0 hm;cases hm
 |succ n ih=>
  intro x19 x20 x21 l22 l22n x23 res hl0 hm;subst hl0;refine qO ?_;refine s_vu [] 5 [] [(48,vb (decide (x21<((a4.length:Nat):Int))))] [] [] ?_;refine q_sq ?_;refine q_cm hm (λb24 hm=>?_) (λb24 hm=>?_)
  ·refine q_sk ?_;refine q_sq ?_;refine q_bk 1 ?_;obtain⟨g25,hm⟩:=qI hm;refine s_vu [qd 1 (Dir.none) (inb_of g25)] 5 [48] [(18,vi x21),(19,vp 5 0)] [] [(5,bx 31 [ci ((a4.getD x21.toNat default).A),ci ((a4.getD x21.toNat default).B)])] ?_;refine q_sq ?_;refine q_bk 2 ?_;refine s_vu [] 6 [] [(52,vb (decide (((a4.getD x21.toNat default).A)≥((a4.getD x21.toNat default).B))))] [] [] ?_;refine q_cm hm (λb26 hm=>?_) (λb26 hm=>?_)
   ·refine s_vn [] 6 ⟨[(10,vc (.emp)),(11,vi 19)],[]⟩ ?_;refine q_fn [.own 10 6 65 2 (rf e_Node ([]:List Node))] ⟨[(10,vo 6 0 2 0),(11,vi 19)],[(6,ro 0 65 2 0 (rf e_Node ([]:List Node)))]⟩ o0 ?_;refine q_fn [.len 6 (([]:List Node).length)] ⟨[(10,vo 6 0 2 (([]:List Node).length)),(11,vi 19)],[(6,ro 0 65 2 (([]:List Node).length) (rf e_Node ([]:List Node)))]⟩ (o1 (And.intro (show 0=([]:List Node).length from rfl) (show 0=([]:List Node).length from rfl))) ?_;obtain rfl:=oi hm;refine qV 6 0 (by kernel_rfl) ?_;refine q_rt ?_;refine qZ (([]:List Node),19) ?_;exact q_rm
   ·refine q_jn (ι:=Bool) (λp=>qBR a2 a3 a4 a5 v17 x19 x20 x21 l22 x23 p) (λp=>RX a2 a3 a4 a5 v17 x19 x20 x21 l22 x23 (wF a2 a3 a4 a5 v17 n) p=some res) ?_ ?_
    ·rintro x29 hm;show H _ (qBR a2 a3 a4 a5 v17 x19 x20 x21 l22 x23 x29) _ _;refine q_cm hm (λb30 hm=>?_) (λb30 hm=>?_)
     ·refine s_vn [] 6 ⟨[(10,vc (.emp)),(11,vi 11)],[]⟩ ?_;refine q_fn [.own 10 6 65 2 (rf e_Node ([]:List Node))] ⟨[(10,vo 6 0 2 0),(11,vi 11)],[(6,ro 0 65 2 0 (rf e_Node ([]:List Node)))]⟩ o0 ?_;refine q_fn [.len 6 (([]:List Node).length)] ⟨[(10,vo 6 0 2 (([]:List Node).length)),(11,vi 11)],[(6,ro 0 65 2 (([]:List Node).length) (rf e_Node ([]:List Node)))]⟩ (o1 (And.intro (show 0=([]:List Node).length from rfl) (show 0=([]:List Node).length from rfl))) ?_;obtain rfl:=oi hm;refine qV 6 0 (by kernel_rfl) ?_;refine q_rt ?_;refine qZ (([]:List Node),11) ?_;exact q_rm
     ·refine s_vu [] 6 [58] [(75,vb (decide (((a4.getD x21.toNat default).B)>v17.B)))] [] [] ?_;refine q_cm hm (λb31 hm=>?_) (λb31 hm=>?_)
      ·refine s_vn [] 6 ⟨[(10,vc (.emp)),(11,vi 20)],[]⟩ ?_;refine q_fn [.own 10 6 65 2 (rf e_Node ([]:List Node))] ⟨[(10,vo 6 0 2 0),(11,vi 20)],[(6,ro 0 65 2 0 (rf e_Node ([]:List Node)))]⟩ o0 ?_;refine q_fn [.len 6 (([]:List Node).length)] ⟨[(10,vo 6 0 2 (([]:List Node).length)),(11,vi 20)],[(6,ro 0 65 2 (([]:List Node).length) (rf e_Node ([]:List Node)))]⟩ (o1 (And.intro (show 0=([]:List Node).length from rfl) (show 0=([]:List Node).length from rfl))) ?_;obtain rfl:=oi hm;refine qV 6 0 (by kernel_rfl) ?_;refine q_rt ?_;refine qZ (([]:List Node),20) ?_;exact q_rm
      ·refine q_sk ?_;refine q_jn (ι:=(List Node)×Nat×Int) (λp=>qCF a2 a3 a4 a5 v17 x19 x20 x21 p.1 p.2.1 p.2.2) (λp=>p.1.length=p.2.1/\UB a2 a3 a4 a5 v17 x19 x20 x21 (wF a2 a3 a4 a5 v17 n) p.1 p.2.2=some res) ?_ ?_
       ·rintro⟨l35,l35n,x36⟩ ⟨el35,hm⟩;replace el35:l35.length=l35n:=el35;subst el35;show H _ (qCF a2 a3 a4 a5 v17 x19 x20 x21 l35 l35.length x36) _ _;refine q_jn (ι:=Int×Bool×(List Node)×Nat×Int) (λp=>qBX a2 a3 a4 a5 v17 x21 p.1 p.2.1 p.2.2.1 p.2.2.2.1 p.2.2.2.2) (λp=>p.2.2.1.length=p.2.2.2.1/\FX a5 x21 (wF a2 a3 a4 a5 v17 n) p.1 p.2.1 p.2.2.1 p.2.2.2.2=some res) ?_ ?_
        ·rintro⟨x40,x41,l42,l42n,x43⟩ ⟨el42,hm⟩;replace el42:l42.length=l42n:=el42;subst el42;show H _ (qBX a2 a3 a4 a5 v17 x21 x40 x41 l42 l42.length x43) _ _;obtain⟨g44,hm⟩:=qI hm;obtain⟨v45,h46,hm⟩:=qA hm
         refine q_vu [qd 3 (Dir.none) (inb_of g44),qd 5 (dex (cen [(2,0),(1,0),(4,0)] [0,0,1] 5 2 (JL (a5.getD x21.toNat default) x43 l42 v45) (pattern_Row_1_s1_o (a5.getD x21.toNat default) x43 l42 v45) [114,118] [2,1,4])) (wM (K:=(kx E 130 0)) ⟨[(114,vc (.fn 154 [.bptr 2 0 0,.bptr 1 0 0])),(118,vc (tl e_Node default (a5.getD x21.toNat default)))],[(2,bx 3 [ci x43]),(1,bx 44 [.own 4 0 2 l42.length]),(4,ro 0 65 2 l42.length (rf e_Node l42))]⟩ (opAt (rg Tryz.f90 4191439) 5) [(2,0),(1,0),(4,0)] [0,0,1] 5 o0 rfl (KJ (a5.getD x21.toNat default) x43 l42 v45 h46) (.inl rfl) (by kernel_rfl))] 8 [18] [] [1,2,4] [(1,bx 44 [.own 4 1 2 v45.2.length]),(2,bx 3 [ci v45.1]),(4,ro 1 65 2 v45.2.length (rf e_Node v45.2))] ?_
         refine q_vu [] 8 [47] [(47,vi (w64 (x21+1)))] [] [] ?_;exact q_hl (HG a2 a3 a4 a5 v17 x40 x41 (w64 (x21+1)) v45.2 v45.2.length v45.1) (ih x40 x41 (w64 (x21+1)) v45.2 v45.2.length v45.1 _ rfl hm)
        ·refine s_vu [] 7 [] [(99,vb (decide (((a4.getD x21.toNat default).B)<v17.B)))] [] [] ?_;refine q_cm hm (λb37 hm=>?_) (λb37 hm=>?_)
         ·obtain⟨v38,h39,hm⟩:=qA hm
          refine s_vu [qd 5 (drw 7 0 (rf e_Node ([(Node.mk a2 ((a4.getD x21.toNat default).B))]:List Node))) (litP e_Node default 2 (λ_=>rfl) ([(Node.mk a2 ((a4.getD x21.toNat default).B))]:List Node) 1 rfl),qd 6 (dex (cen [(2,0),(1,0),(4,0)] [0,0,1] 5 2 (JL ([(Node.mk a2 ((a4.getD x21.toNat default).B))]:List Node) x36 l35 v38) (pattern_Row_1_s1_o ([(Node.mk a2 ((a4.getD x21.toNat default).B))]:List Node) x36 l35 v38) [100,105] [2,1,4,7])) (wM (K:=(kx E 130 0)) (xs':=[.one (.lst 1 (rf e_Node ([(Node.mk a2 ((a4.getD x21.toNat default).B))]:List Node))),.one (.bptr 0 0 0),.one (.bptr 1 0 0)]) (b:=false) ⟨[(100,vc (.fn 154 [.bptr 2 0 0,.bptr 1 0 0])),(105,vo 7 0 2 1)],[(2,bx 3 [ci x36]),(1,bx 44 [.own 4 0 2 l35.length]),(4,ro 0 65 2 l35.length (rf e_Node l35)),(7,ro 0 65 2 1 (rf e_Node ([(Node.mk a2 ((a4.getD x21.toNat default).B))]:List Node)))]⟩ (opAt (rg Tryz.f90 33531508) 6) [(2,0),(1,0),(4,0)] [0,0,1] 5 (o1 (Nat.le_refl 1)) (by simp only[tl,rf,show([(Node.mk a2 ((a4.getD x21.toNat default).B))]:List Node).length=1 from rfl]) (KJ ([(Node.mk a2 ((a4.getD x21.toNat default).B))]:List Node) x36 l35 v38 h39) (.inr ⟨(by kernel_rfl),BG ([(Node.mk a2 ((a4.getD x21.toNat default).B))]:List Node) x36 l35 v38⟩) (by kernel_rfl))] 7 [16,99] [] [1,2,4] [(1,bx 44 [.own 4 1 2 v38.2.length]),(2,bx 3 [ci v38.1]),(4,ro 1 65 2 v38.2.length (rf e_Node v38.2))] ?_
          refine q_vu [] 8 [19] [(16,vi (imin (w64 (((a4.getD x21.toNat default).B)+a3)) v17.B))] [5] [] ?_;exact q_J (imin (w64 (((a4.getD x21.toNat default).B)+a3)) v17.B,x20,v38.2,v38.2.length,v38.1) ⟨rfl,hm⟩
         ·refine q_vu [] 7 [17,19,99] [(17,vb true)] [5] [] ?_;exact q_J (x19,true,l35,l35.length,x36) ⟨rfl,hm⟩
       ·refine s_vu [] 6 [75] [(84,vb (decide (((a4.getD x21.toNat default).A)>x19)))] [] [] ?_;refine q_cm hm (λb32 hm=>?_) (λb32 hm=>?_)
        ·obtain⟨v33,h34,hm⟩:=qA hm
         refine q_vu [qd 8 (drw 6 0 (rf e_Node ([(Node.mk a2 (w64 (((a4.getD x21.toNat default).A)-a3))),(Node.mk 0 0)]:List Node))) (litP e_Node default 2 (λ_=>rfl) ([(Node.mk a2 (w64 (((a4.getD x21.toNat default).A)-a3))),(Node.mk 0 0)]:List Node) 2 rfl),qd 9 (dex (cen [(2,0),(1,0),(4,0)] [0,0,1] 4 2 (JL ([(Node.mk a2 (w64 (((a4.getD x21.toNat default).A)-a3))),(Node.mk 0 0)]:List Node) x23 l22 v33) (pattern_Row_1_s1_o ([(Node.mk a2 (w64 (((a4.getD x21.toNat default).A)-a3))),(Node.mk 0 0)]:List Node) x23 l22 v33) [85,93] [2,1,4,6])) (wM (K:=(kx E 130 0)) (xs':=[.one (.lst 2 (rf e_Node ([(Node.mk a2 (w64 (((a4.getD x21.toNat default).A)-a3))),(Node.mk 0 0)]:List Node))),.one (.bptr 0 0 0),.one (.bptr 1 0 0)]) (b:=false) ⟨[(85,vc (.fn 154 [.bptr 2 0 0,.bptr 1 0 0])),(93,vo 6 0 2 2)],[(2,bx 3 [ci x23]),(1,bx 44 [.own 4 0 2 l22.length]),(4,ro 0 65 2 l22.length (rf e_Node l22)),(6,ro 0 65 2 2 (rf e_Node ([(Node.mk a2 (w64 (((a4.getD x21.toNat default).A)-a3))),(Node.mk 0 0)]:List Node)))]⟩ (opAt (rg Tryz.f90 8382874) 9) [(2,0),(1,0),(4,0)] [0,0,1] 4 (o1 (Nat.le_refl 2)) (by simp only[tl,rf,show([(Node.mk a2 (w64 (((a4.getD x21.toNat default).A)-a3))),(Node.mk 0 0)]:List Node).length=2 from rfl]) (KJ ([(Node.mk a2 (w64 (((a4.getD x21.toNat default).A)-a3))),(Node.mk 0 0)]:List Node) x23 l22 v33 h34) (.inr ⟨(by kernel_rfl),BG ([(Node.mk a2 (w64 (((a4.getD x21.toNat default).A)-a3))),(Node.mk 0 0)]:List Node) x23 l22 v33⟩) (by kernel_rfl))] 6 [84] [] [1,2,4] [(1,bx 44 [.own 4 1 2 v33.2.length]),(2,bx 3 [ci v33.1]),(4,ro 1 65 2 v33.2.length (rf e_Node v33.2))] ?_
         exact q_J (v33.2,v33.2.length,v33.1) ⟨rfl,hm⟩
        ·refine q_sk ?_;exact q_J (l22,l22.length,x23) ⟨rfl,hm⟩
    ·rcases bif_c hm with⟨b27,hm⟩|⟨b27,hm⟩
     ·refine q_vu [qf 1 b27] 6 [52] [(58,vb true)] [] [] ?_;exact q_J (true) hm
     ·rcases bif_c hm with⟨b28,hm⟩|⟨b28,hm⟩
      ·refine q_vu [qf 1 b27,qf 6 b28] 6 [52] [(58,vb (decide (((a4.getD x21.toNat default).A)<(w64 ((w64 (x19+a3))+1)))))] [] [] ?_;exact q_J (decide (((a4.getD x21.toNat default).A)<(w64 ((w64 (x19+a3))+1)))) hm
      ·refine q_vu [qf 1 b27,qf 6 b28] 6 [52] [(58,vb false)] [] [] ?_;exact q_J (false) hm
  ·refine q_ex 0 ?_;obtain rfl:=oi hm;exact wV (x20,l22,x23) (by kernel_rfl) (by kernel_rfl)
theorem pattern_Row_ok (a1:Rect) (a2:Int) (a3:Int) (a4:List Span) (a5:List (List Node)) (r:(List Node)×Int) (hm:WX a1 a2 a3 a4 a5=some r):CtX Tryz.prog globs 90 0 0 [.agg (qD a1),.one (ci a2),.one (ci a3),.one (tl e_Span default a4),.one (tl (qE e_Node) default a5)] [] (KY r) (ZQ r):=by
 unfold WX at hm;refine q_E Tryz.f90 130 λE=>?_;refine s_vn [] 0 ⟨[(1,vi a2),(2,vi a3),(3,vc (tl e_Span default a4)),(4,vc (tl (qE e_Node) default a5)),(5,vp 0 0)],[(0,bx 33 (qD a1))]⟩ ?_;refine q_sq ?_;obtain⟨v6,h7,hm⟩:=qA hm;refine s_vu [qc 1 [20] 1 (QG a2 v6 h7)] 1 [] [(22,vb (!v6))] [] [] ?_;refine q_cm hm (λb8 hm=>?_) (λb8 hm=>?_)
 ·refine s_vn [] 1 ⟨[(10,vc (.emp)),(11,vi 10)],[]⟩ ?_;refine q_fn [.own 10 1 65 2 (rf e_Node ([]:List Node))] ⟨[(10,vo 1 0 2 0),(11,vi 10)],[(1,ro 0 65 2 0 (rf e_Node ([]:List Node)))]⟩ o0 ?_;refine q_fn [.len 1 (([]:List Node).length)] ⟨[(10,vo 1 0 2 (([]:List Node).length)),(11,vi 10)],[(1,ro 0 65 2 (([]:List Node).length) (rf e_Node ([]:List Node)))]⟩ (o1 (And.intro (show 0=([]:List Node).length from rfl) (show 0=([]:List Node).length from rfl))) ?_;obtain rfl:=oi hm;refine qV 1 0 (by kernel_rfl) ?_;refine q_rt ?_;exact q_rm
 ·refine q_sk ?_;refine q_sq ?_;refine q_jn (ι:=Bool) (λp=>qCj a1 a2 a3 a4 a5 p) (λp=>FV a1 a2 a3 a4 a5 p=some r) ?_ ?_
  ·rintro x12 hm;show H _ (qCj a1 a2 a3 a4 a5 x12) _ _;refine q_cm hm (λb13 hm=>?_) (λb13 hm=>?_)
   ·refine s_vn [] 1 ⟨[(10,vc (.emp)),(11,vi 19)],[]⟩ ?_;refine q_fn [.own 10 1 65 2 (rf e_Node ([]:List Node))] ⟨[(10,vo 1 0 2 0),(11,vi 19)],[(1,ro 0 65 2 0 (rf e_Node ([]:List Node)))]⟩ o0 ?_;refine q_fn [.len 1 (([]:List Node).length)] ⟨[(10,vo 1 0 2 (([]:List Node).length)),(11,vi 19)],[(1,ro 0 65 2 (([]:List Node).length) (rf e_Node ([]:List Node)))]⟩ (o1 (And.intro (show 0=([]:List Node).length from rfl) (show 0=([]:List Node).length from rfl))) ?_;obtain rfl:=oi hm;refine qV 1 0 (by kernel_rfl) ?_;refine q_rt ?_;exact q_rm
   ·refine q_sk ?_;refine q_sq ?_;refine q_jn (ι:=Bool) (λp=>qCo a1 a2 a3 a4 a5 p) (λp=>FE a1 a2 a3 a4 a5 p=some r) ?_ ?_
    ·rintro x15 hm;show H _ (qCo a1 a2 a3 a4 a5 x15) _ _;refine q_cm hm (λb16 hm=>?_) (λb16 hm=>?_)
     ·refine s_vn [] 1 ⟨[(10,vc (.emp)),(11,vi 9)],[]⟩ ?_;refine q_fn [.own 10 1 65 2 (rf e_Node ([]:List Node))] ⟨[(10,vo 1 0 2 0),(11,vi 9)],[(1,ro 0 65 2 0 (rf e_Node ([]:List Node)))]⟩ o0 ?_;refine q_fn [.len 1 (([]:List Node).length)] ⟨[(10,vo 1 0 2 (([]:List Node).length)),(11,vi 9)],[(1,ro 0 65 2 (([]:List Node).length) (rf e_Node ([]:List Node)))]⟩ (o1 (And.intro (show 0=([]:List Node).length from rfl) (show 0=([]:List Node).length from rfl))) ?_;obtain rfl:=oi hm;refine qV 1 0 (by kernel_rfl) ?_;refine q_rt ?_;exact q_rm
     ·refine q_sk ?_;refine s_vu [] 1 [38] [(12,vp 1 0)] [] [(1,bx 44 [.emp])] ?_;refine s_vu [] 2 [] [(13,vp 2 0)] [] [(2,bx 3 [ci 0])] ?_;refine s_vu [] 3 [] [(14,vc (.fn 154 [.bptr 2 0 0,.bptr 1 0 0]))] [] [] ?_;obtain⟨v17,h18,hm⟩:=qA hm;refine s_vu [qc 2 [40,41] 3 (HI a1 a2 v17 h18)] 3 [5] [(15,vp 3 0)] [0] [(3,bx 31 (e_Span v17))] ?_;refine s_vu [] 4 [] [(16,vi v17.A),(17,vb false)] [] [] ?_;refine q_sq ?_;refine s_vu [] 4 [3] [(45,vc (tl e_Span default a4)),(46,vi ((a4.length:Nat):Int)),(47,vi 0)] [] [] ?_
      refine q_fn [.ownB 1 0 4 65 2 (rf e_Node ([]:List Node))] ⟨[(1,vi a2),(2,vi a3),(4,vc (tl (qE e_Node) default a5)),(12,vp 1 0),(13,vp 2 0),(14,vc (.fn 154 [.bptr 2 0 0,.bptr 1 0 0])),(15,vp 3 0),(16,vi v17.A),(17,vb false),(45,vc (tl e_Span default a4)),(46,vi ((a4.length:Nat):Int)),(47,vi 0)],[(1,bx 44 [.own 4 0 2 0]),(2,bx 3 [ci 0]),(3,bx 31 (e_Span v17)),(4,ro 0 65 2 0 (rf e_Node ([]:List Node)))]⟩ o0 ?_;obtain⟨u52,h51,hm⟩:=qA hm
      refine zO (nd Tryz.f90 16372) 0 (by kernel_rfl) FUEL (λo=>qCD o.1 o.2.1 o.2.2) (λv st=>RetQ Tryz.prog Tryz.f90 (KY v) (ZQ v) .ret st) u52 (q_hl (HG a2 a3 a4 a5 v17 v17.A false 0 ([]:List Node) 0 0) (qHy E a2 a3 a4 a5 v17 FUEL v17.A false 0 ([]:List Node) 0 0 u52 rfl h51)) ?_ ?_
      ·rintro v53 rfl st hr;obtain rfl:=oi hm;exact hr
      ·rintro o50 rfl;replace hm:_=some r:=hm;refine q_jn (ι:=Int×(List Node)×Nat) (λp=>qB2 p.1 p.2.1 p.2.2) (λp=>p.2.1.length=p.2.2/\TE p.1 p.2.1=some r) ?_ ?_
       ·rintro⟨x57,l58,l58n⟩ ⟨el58,hm⟩;replace el58:l58.length=l58n:=el58;subst el58;show H _ (qB2 x57 l58 l58.length) _ _;refine q_sq ?_;refine s_vu [] 6 [13] [(128,vb (decide (x57>127)))] [2] [] ?_;refine q_cm hm (λb59 hm=>?_) (λb59 hm=>?_)
        ·refine s_vn [] 6 ⟨[(10,vc (.emp)),(11,vi 4)],[]⟩ ?_;refine q_fn [.own 10 6 65 2 (rf e_Node ([]:List Node))] ⟨[(10,vo 6 0 2 0),(11,vi 4)],[(6,ro 0 65 2 0 (rf e_Node ([]:List Node)))]⟩ o0 ?_;refine q_fn [.len 6 (([]:List Node).length)] ⟨[(10,vo 6 0 2 (([]:List Node).length)),(11,vi 4)],[(6,ro 0 65 2 (([]:List Node).length) (rf e_Node ([]:List Node)))]⟩ (o1 (And.intro (show 0=([]:List Node).length from rfl) (show 0=([]:List Node).length from rfl))) ?_;obtain rfl:=oi hm;refine qV 6 0 (by kernel_rfl) ?_;refine q_rt ?_;exact q_rm
        ·refine q_sk ?_;refine s_vu [] 6 [12,128] [(10,vo 4 0 2 l58.length),(11,vi 0)] [1] [] ?_;obtain rfl:=oi hm;refine qV 4 0 (by kernel_rfl) ?_;refine q_rt ?_;exact q_rm
       ·refine s_vu [] 5 [17] [(122,vb (!o50.1))] [] [] ?_;refine q_cm hm (λb54 hm=>?_) (λb54 hm=>?_)
        ·obtain⟨v55,h56,hm⟩:=qA hm
         refine q_vu [qd 2 (drw 5 0 (rf e_Node ([(Node.mk 0 0)]:List Node))) (litP e_Node default 2 (λ_=>rfl) ([(Node.mk 0 0)]:List Node) 1 rfl),qd 3 (dex (cen [(2,0),(1,0),(4,0)] [0,0,1] 3 2 (JL ([(Node.mk 0 0)]:List Node) o50.2.2 o50.2.1 v55) (pattern_Row_1_s1_o ([(Node.mk 0 0)]:List Node) o50.2.2 o50.2.1 v55) [123,125] [2,1,4,5])) (wM (K:=(kx E 130 0)) (xs':=[.one (.lst 1 (rf e_Node ([(Node.mk 0 0)]:List Node))),.one (.bptr 0 0 0),.one (.bptr 1 0 0)]) (b:=false) ⟨[(123,vc (.fn 154 [.bptr 2 0 0,.bptr 1 0 0])),(125,vo 5 0 2 1)],[(2,bx 3 [ci o50.2.2]),(1,bx 44 [.own 4 0 2 o50.2.1.length]),(4,ro 0 65 2 o50.2.1.length (rf e_Node o50.2.1)),(5,ro 0 65 2 1 (rf e_Node ([(Node.mk 0 0)]:List Node)))]⟩ (opAt (rg Tryz.f90 16378) 3) [(2,0),(1,0),(4,0)] [0,0,1] 3 (o1 (Nat.le_refl 1)) (by simp only[tl,rf,show([(Node.mk 0 0)]:List Node).length=1 from rfl]) (KJ ([(Node.mk 0 0)]:List Node) o50.2.2 o50.2.1 v55 h56) (.inr ⟨(by kernel_rfl),BG ([(Node.mk 0 0)]:List Node) o50.2.2 o50.2.1 v55⟩) (by kernel_rfl))] 5 [14,122] [] [1,2,4] [(1,bx 44 [.own 4 1 2 v55.2.length]),(2,bx 3 [ci v55.1]),(4,ro 1 65 2 v55.2.length (rf e_Node v55.2))] ?_
         exact q_J (v55.1,v55.2,v55.2.length) ⟨rfl,hm⟩
        ·refine q_sk ?_;exact q_J (o50.2.2,o50.2.1,o50.2.1.length) ⟨rfl,hm⟩
    ·rcases bif_c hm with⟨b14,hm⟩|⟨b14,hm⟩
     ·refine q_vu [qf 2 b14] 1 [32] [(38,vb true)] [] [] ?_;exact q_J (true) hm
     ·refine q_vu [qf 2 b14] 1 [32] [(38,vb (decide (a3>20)))] [] [] ?_;exact q_J (decide (a3>20)) hm
  ·obtain⟨v9,h10,hm⟩:=qA hm;rcases bif_c hm with⟨b11,hm⟩|⟨b11,hm⟩
   ·refine q_vu [qc 1 [23] 1 (PD a1 v9 h10),qf 3 b11] 1 [22] [(32,vb true)] [] [] ?_;exact q_J (true) hm
   ·refine q_vu [qc 1 [23] 1 (PD a1 v9 h10),qf 3 b11] 1 [22] [(32,vb (((a4.length:Nat):Int) !=((a5.length:Nat):Int)))] [] [] ?_;exact q_J (((a4.length:Nat):Int) !=((a5.length:Nat):Int)) hm
end Saw
end Go.SL

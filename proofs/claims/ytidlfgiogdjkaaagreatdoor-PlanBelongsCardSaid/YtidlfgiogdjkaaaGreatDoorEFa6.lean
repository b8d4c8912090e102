import Derived.Test.YtidlfgiogdjkaaaGreatDoorEBase
import Derived.Test.YtidlfgiogdjkaaaGreatDoorEFa5
set_option linter.unusedVariables false
set_option linter.unusedSimpArgs false
namespace Go.SL
namespace Saw
open Go.Proofs
set_option maxHeartbeats 4000000
set_option maxRecDepth 100000
def qGi (r:(List Cutting_choice)):V:=vo 0 0 3 r.length
def qGw (r:(List Cutting_choice)):List (Nat×(Nat×O)):=[(0,ro 0 207 3 r.length (rf e_Cutting_choice r))]
def ED (a1:Line) (v2:(List Int)) (v4:(List Int)) (l7:List Cutting_choice) (l8:List Cutting_choice) (x9:Int) (v11:Cutting_choice) (x20:Int) (x31:Cutting_choice):St:=
 ⟨[(1,vp 0 0),(3,vo 1 0 1 v2.length),(4,vo 2 0 1 v4.length),(5,vo 3 0 3 l7.length),(6,vo 4 0 3 l8.length),(7,vi x9),(8,vp 5 0),(10,vi x20)],[(0,bx 84 (zV a1)),(1,ro 0 3 1 v2.length (rf e_i64 v2)),(2,ro 0 3 1 v4.length (rf e_i64 v4)),(3,ro 0 207 3 l7.length (rf e_Cutting_choice l7)),(4,ro 0 207 3 l8.length (rf e_Cutting_choice (l8.set x9.toNat v11))),(5,bx 207 (e_Cutting_choice x31))]⟩
def SB (a1:Line) (v2:(List Int)) (v4:(List Int)) (l7:List Cutting_choice) (l8:List Cutting_choice) (x9:Int) (v11:Cutting_choice) (x20:Int) (x21:Cutting_choice) (x29:Bool):St:=
 ⟨[(1,vp 0 0),(3,vo 1 0 1 v2.length),(4,vo 2 0 1 v4.length),(5,vo 3 0 3 l7.length),(6,vo 4 0 3 l8.length),(7,vi x9),(8,vp 5 0),(10,vi x20),(11,vp 7 0),(125,vb x29)],[(0,bx 84 (zV a1)),(1,ro 0 3 1 v2.length (rf e_i64 v2)),(2,ro 0 3 1 v4.length (rf e_i64 v4)),(3,ro 0 207 3 l7.length (rf e_Cutting_choice l7)),(4,ro 0 207 3 l8.length (rf e_Cutting_choice (l8.set x9.toNat v11))),(5,bx 207 (e_Cutting_choice x21)),(7,bx 207 [ci ((((l8.set x9.toNat v11).getD x20.toNat default).piece).Size),ci ((((l8.set x9.toNat v11).getD x20.toNat default).piece).At),ci (w64 ((((l8.set x9.toNat v11).getD x20.toNat default).value)+(w64 ((w64 ((w64 ((v2.getD ((w64 (x20-a1.Kerf)).toNat) default)-(v2.getD x9.toNat default)))+(v4.getD x20.toNat default)))-(v4.getD ((w64 (x20-a1.Kerf)).toNat) default)))))])]⟩
def UG (a1:Line) (v2:(List Int)) (v4:(List Int)) (l7:List Cutting_choice) (l8:List Cutting_choice) (x9:Int) (v11:Cutting_choice) (x20:Int) (x21:Cutting_choice):St:=
 ⟨[(1,vp 0 0),(3,vo 1 0 1 v2.length),(4,vo 2 0 1 v4.length),(5,vo 3 0 3 l7.length),(6,vo 4 0 3 l8.length),(7,vi x9),(8,vp 5 0),(10,vi x20)],[(0,bx 84 (zV a1)),(1,ro 0 3 1 v2.length (rf e_i64 v2)),(2,ro 0 3 1 v4.length (rf e_i64 v4)),(3,ro 0 207 3 l7.length (rf e_Cutting_choice l7)),(4,ro 0 207 3 l8.length (rf e_Cutting_choice (l8.set x9.toNat v11))),(5,bx 207 (e_Cutting_choice x21))]⟩
def HW (a1:Line) (v2:(List Int)) (v4:(List Int)) (l7:List Cutting_choice) (l8:List Cutting_choice) (x9:Int) (v11:Cutting_choice) (x32:Cutting_choice):St:=
 ⟨[(1,vp 0 0),(3,vo 1 0 1 v2.length),(4,vo 2 0 1 v4.length),(5,vo 3 0 3 l7.length),(6,vo 4 0 3 l8.length),(7,vi x9),(8,vp 5 0)],[(0,bx 84 (zV a1)),(1,ro 0 3 1 v2.length (rf e_i64 v2)),(2,ro 0 3 1 v4.length (rf e_i64 v4)),(3,ro 0 207 3 l7.length (rf e_Cutting_choice l7)),(4,ro 0 207 3 l8.length (rf e_Cutting_choice (l8.set x9.toNat v11))),(5,bx 207 (e_Cutting_choice x32))]⟩
def SO (a1:Line) (v2:(List Int)) (v4:(List Int)) (l7:List Cutting_choice) (l8:List Cutting_choice) (x9:Int) (v11:Cutting_choice) (x19:Cutting_choice):St:=
 ⟨[(1,vp 0 0),(3,vo 1 0 1 v2.length),(4,vo 2 0 1 v4.length),(5,vo 3 0 3 l7.length),(6,vo 4 0 3 l8.length),(7,vi x9),(8,vp 5 0)],[(0,bx 84 (zV a1)),(1,ro 0 3 1 v2.length (rf e_i64 v2)),(2,ro 0 3 1 v4.length (rf e_i64 v4)),(3,ro 0 207 3 l7.length (rf e_Cutting_choice l7)),(4,ro 0 207 3 l8.length (rf e_Cutting_choice (l8.set x9.toNat v11))),(5,bx 207 (e_Cutting_choice x19))]⟩
def EF (a1:Line) (v2:(List Int)) (v4:(List Int)) (l7:List Cutting_choice) (l8:List Cutting_choice) (x9:Int) (v11:Cutting_choice) (x17:Bool):St:=
 ⟨[(1,vp 0 0),(3,vo 1 0 1 v2.length),(4,vo 2 0 1 v4.length),(5,vo 3 0 3 l7.length),(6,vo 4 0 3 l8.length),(7,vi x9),(8,vp 5 0),(9,vp 6 0),(67,vb x17)],[(0,bx 84 (zV a1)),(1,ro 0 3 1 v2.length (rf e_i64 v2)),(2,ro 0 3 1 v4.length (rf e_i64 v4)),(3,ro 0 207 3 l7.length (rf e_Cutting_choice l7)),(4,ro 0 207 3 l8.length (rf e_Cutting_choice (l8.set x9.toNat v11))),(5,bx 207 [ci (-1),ci (-1),ci (w64 ((v2.getD a1.Len.toNat default)-(v2.getD x9.toNat default)))]),(6,bx 207 [ci ((((l8.set x9.toNat v11).getD x9.toNat default).piece).Size),ci ((((l8.set x9.toNat v11).getD x9.toNat default).piece).At),ci (((l8.set x9.toNat v11).getD x9.toNat default).value)])]⟩
def TZ (a1:Line) (v2:(List Int)) (v4:(List Int)) (l7:List Cutting_choice) (l7n:Nat) (l8:List Cutting_choice) (l8n:Nat) (x9:Int):St:=
 ⟨[(1,vp 0 0),(3,vo 1 0 1 v2.length),(4,vo 2 0 1 v4.length),(5,vo 3 0 3 l7n),(6,vo 4 0 3 l8n),(7,vi x9)],[(0,bx 84 (zV a1)),(1,ro 0 3 1 v2.length (rf e_i64 v2)),(2,ro 0 3 1 v4.length (rf e_i64 v4)),(3,ro 0 207 3 l7n (rf e_Cutting_choice l7)),(4,ro 0 207 3 l8n (rf e_Cutting_choice l8))]⟩
def SP (l36:List Cutting_choice):St:=
 ⟨[(5,vo 3 0 3 l36.length)],[(3,ro 0 207 3 l36.length (rf e_Cutting_choice l36))]⟩
theorem qDK (E:Env 0) (a1:Line) (v2:(List Int)) (v4:(List Int)) (l7:List Cutting_choice) (l8:List Cutting_choice) (x9:Int) (v11:Cutting_choice):∀(n:Nat) (x20:Int) (x21:Cutting_choice) (res:Cutting_choice),wA a1 v2 v4 l8 x9 v11 n x20 x21=some res->HL (kx E 132 0) (nd Tryz.f151 512628) (zS 2 (λo=>HW a1 v2 v4 l7 l8 x9 v11 o) res) n (UG a1 v2 v4 l7 l8 x9 v11 x20 x21):=by
 intro n
 induction n with
 |zero=>
  intro x20 x21 res hm;cases hm
 |succ n ih=>
  intro x20 x21 res hm;refine qM ?_;refine q_sq ?_;refine s_vu [] 7 [] [(79,vb (decide (x20<=a1.Len)))] [] [] ?_;refine q_cm hm (λb22 hm=>?_) (λb22 hm=>?_)
  ·refine q_sk ?_;refine q_jn (ι:=Cutting_choice) (λp=>ED a1 v2 v4 l7 l8 x9 v11 x20 p) (λp=>PG a1 x20 (wA a1 v2 v4 l8 x9 v11 n) p=some res) ?_ ?_
   ·rintro x31 hm;show H _ (ED a1 v2 v4 l7 l8 x9 v11 x20 x31) _ _;refine q_vu [] 8 [10] [(10,vi (w64 (x20+a1.Pitch)))] [] [] ?_;exact q_hl (UG a1 v2 v4 l7 l8 x9 v11 (w64 (x20+a1.Pitch)) x31) (ih (w64 (x20+a1.Pitch)) x31 _ hm)
   ·refine q_bk 3 ?_;obtain⟨g23,hm⟩:=qI hm;refine s_vu [qd 2 (Dir.none) (inb_of g23),qd 3 (Dir.none) (toNat_lt (inb_of g23))] 7 [79] [(11,vp 7 0)] [] [(7,bx 207 [ci ((((l8.set x9.toNat v11).getD x20.toNat default).piece).Size),ci ((((l8.set x9.toNat v11).getD x20.toNat default).piece).At),ci (((l8.set x9.toNat v11).getD x20.toNat default).value)])] ?_;refine s_vu [] 8 [] [(12,vi (w64 (x20-a1.Kerf)))] [] [] ?_;obtain⟨g24,hm⟩:=qI hm;obtain⟨g25,hm⟩:=qI hm;obtain⟨g26,hm⟩:=qI hm;obtain⟨g27,hm⟩:=qI hm
    refine s_du [qd 4 (Dir.none) (inb_of g24),qd 5 (Dir.none) (toNat_lt (inb_of g24)),qd 8 (Dir.none) (inb_of g25),qd 9 (Dir.none) (toNat_lt (inb_of g25)),qd 13 (Dir.none) (inb_of g26),qd 14 (Dir.none) (toNat_lt (inb_of g26)),qd 18 (Dir.none) (inb_of g27),qd 19 (Dir.none) (toNat_lt (inb_of g27))] [0,1,0,0,12,28,0,0,192,448,1020,0,0,6144,14336,32764,0,0,196608,458752,1048572,2097151,4194303,8388607] 8 [12] [] [7] [(7,bx 207 [ci ((((l8.set x9.toNat v11).getD x20.toNat default).piece).Size),ci ((((l8.set x9.toNat v11).getD x20.toNat default).piece).At),ci (w64 ((((l8.set x9.toNat v11).getD x20.toNat default).value)+(w64 ((w64 ((w64 ((v2.getD ((w64 (x20-a1.Kerf)).toNat) default)-(v2.getD x9.toNat default)))+(v4.getD x20.toNat default)))-(v4.getD ((w64 (x20-a1.Kerf)).toNat) default)))))])] ?_
    refine q_jn (ι:=Bool) (λp=>SB a1 v2 v4 l7 l8 x9 v11 x20 x21 p) (λp=>PJ a1 v2 v4 l8 x9 v11 x20 x21 (wA a1 v2 v4 l8 x9 v11 n) p=some res) ?_ ?_
    ·rintro x29 hm;show H _ (SB a1 v2 v4 l7 l8 x9 v11 x20 x21 x29) _ _;refine q_cm hm (λb30 hm=>?_) (λb30 hm=>?_)
     ·refine q_vu [] 8 [11,125] [] [5,7] [(5,bx 207 [ci ((((l8.set x9.toNat v11).getD x20.toNat default).piece).Size),ci ((((l8.set x9.toNat v11).getD x20.toNat default).piece).At),ci (w64 ((((l8.set x9.toNat v11).getD x20.toNat default).value)+(w64 ((w64 ((w64 ((v2.getD ((w64 (x20-a1.Kerf)).toNat) default)-(v2.getD x9.toNat default)))+(v4.getD x20.toNat default)))-(v4.getD ((w64 (x20-a1.Kerf)).toNat) default)))))])] ?_
      exact q_J ((Cutting_choice.mk (((l8.set x9.toNat v11).getD x20.toNat default).piece) (w64 ((((l8.set x9.toNat v11).getD x20.toNat default).value)+(w64 ((w64 ((w64 ((v2.getD ((w64 (x20-a1.Kerf)).toNat) default)-(v2.getD x9.toNat default)))+(v4.getD x20.toNat default)))-(v4.getD ((w64 (x20-a1.Kerf)).toNat) default))))))) hm
     ·refine q_sk ?_;exact q_J (x21) hm
    ·rcases bif_c hm with⟨b28,hm⟩|⟨b28,hm⟩
     ·refine q_vu [qf 4 b28] 8 [] [(125,vb (decide ((w64 ((((l8.set x9.toNat v11).getD x20.toNat default).value)+(w64 ((w64 ((w64 ((v2.getD ((w64 (x20-a1.Kerf)).toNat) default)-(v2.getD x9.toNat default)))+(v4.getD x20.toNat default)))-(v4.getD ((w64 (x20-a1.Kerf)).toNat) default)))))>x21.value)))] [] [] ?_;exact q_J (decide ((w64 ((((l8.set x9.toNat v11).getD x20.toNat default).value)+(w64 ((w64 ((w64 ((v2.getD ((w64 (x20-a1.Kerf)).toNat) default)-(v2.getD x9.toNat default)))+(v4.getD x20.toNat default)))-(v4.getD ((w64 (x20-a1.Kerf)).toNat) default)))))>x21.value)) hm
     ·refine q_vu [qf 4 b28] 8 [] [(125,vb false)] [] [] ?_;exact q_J (false) hm
  ·refine q_ex 2 ?_;obtain rfl:=oi hm;exact wO (by kernel_rfl) (by kernel_rfl)
theorem qDD (E:Env 0) (a1:Line) (v2:(List Int)) (v4:(List Int)):∀(n:Nat) (l7:List Cutting_choice) (l7n:Nat) (l8:List Cutting_choice) (l8n:Nat) (x9:Int) (res:(List Cutting_choice)),l7.length=l7n->l8.length=l8n->wJ a1 v2 v4 n l7 l8 x9=some res->HL (kx E 132 0) (nd Tryz.f151 500) (zS 0 (λo=>SP o) res) n (TZ a1 v2 v4 l7 l7n l8 l8n x9):=by
 intro n
 induction n with
 |zero=>
  intro l7 l7n l8 l8n x9 res hl0 hl1 hm;cases hm
 |succ n ih=>
  intro l7 l7n l8 l8n x9 res hl0 hl1 hm;subst hl0;subst hl1;refine qM ?_;refine q_sq ?_;refine s_vu [] 5 [] [(30,vb (decide (x9≥0)))] [] [] ?_;refine q_cm hm (λb10 hm=>?_) (λb10 hm=>?_)
  ·refine q_sk ?_;refine q_sq ?_;refine q_bk 1 ?_;obtain⟨v11,h12,hm⟩:=qB hm;obtain⟨g13,hm⟩:=qI hm
   refine s_vu [qd 6 (dex (cen [] [] 5 0 (qCm v11) (GV v11) [35,36,37,38] [2,3])) (wF (K:=(kx E 132 0)) (b:=false) ⟨[(35,va (zV a1)),(36,vi x9),(37,vo 2 0 1 v4.length),(38,vo 3 0 3 l7.length)],[(2,ro 0 3 1 v4.length (rf e_i64 v4)),(3,ro 0 207 3 l7.length (rf e_Cutting_choice l7))]⟩ (opAt (rg Tryz.f151 8008) 6) [] [] 5 (o1 (And.intro (Nat.le_refl v4.length) (Nat.le_refl l7.length))) rfl (cutting_start_ok a1 x9 v4 l7 v11 h12) (.inr ⟨(by kernel_rfl),qI8 v11⟩) (by kernel_rfl)),qd 7 (Dir.none) (inb_of g13),qd 8 (drw 0 0 (rf e_Cutting_choice (l8.set x9.toNat v11))) (stP e_Cutting_choice default v11 l8 l8.length x9.toNat 0 (e_Cutting_choice v11) rfl (toNat_lt (inb_of g13)) rfl)] 5 [30] [] [4] [(4,ro 0 207 3 l8.length (rf e_Cutting_choice (l8.set x9.toNat v11)))] ?_
   obtain⟨g14,hm⟩:=qI hm;obtain⟨g15,hm⟩:=qI hm;refine s_du [qd 4 (Dir.none) (inb_of g14),qd 5 (Dir.none) (toNat_lt (inb_of g14)),qd 8 (Dir.none) (inb_of g15),qd 9 (Dir.none) (toNat_lt (inb_of g15))] [0,0,0,4,14,30,0,0,192,448,1022,2047,0,8191] 5 [] [(8,vp 5 0)] [] [(5,bx 207 [ci (-1),ci (-1),ci (w64 ((v2.getD a1.Len.toNat default)-(v2.getD x9.toNat default)))])] ?_;refine q_jn (ι:=Cutting_choice) (λp=>SO a1 v2 v4 l7 l8 x9 v11 p) (λp=>KU a1 v2 v4 l7 l8 x9 (wJ a1 v2 v4 n) v11 p=some res) ?_ ?_
   ·rintro x19 hm;show H _ (SO a1 v2 v4 l7 l8 x9 v11 x19) _ _;refine q_sq ?_;refine s_vu [] 7 [] [(10,vi (w64 ((w64 (x9+a1.Pitch))+a1.Kerf)))] [] [] ?_;obtain⟨o33,h34,hm⟩:=qB hm;refine zL (nd Tryz.f151 512628) 2 (by kernel_rfl) FUEL (λo=>HW a1 v2 v4 l7 l8 x9 v11 o) o33 (q_hl (UG a1 v2 v4 l7 l8 x9 v11 (w64 ((w64 (x9+a1.Pitch))+a1.Kerf)) x19) (qDK E a1 v2 v4 l7 l8 x9 v11 FUEL (w64 ((w64 (x9+a1.Pitch))+a1.Kerf)) x19 o33 h34)) ?_;obtain⟨g35,hm⟩:=qI hm
    refine q_vu [qd 3 (Dir.none) (inb_of g35),qd 4 (drw 0 0 (rf e_Cutting_choice (l7.set x9.toNat o33))) (stP e_Cutting_choice default o33 l7 l7.length x9.toNat 0 (e_Cutting_choice o33) rfl (toNat_lt (inb_of g35)) rfl)] 7 [8] [] [3,5] [(3,ro 0 207 3 l7.length (rf e_Cutting_choice (l7.set x9.toNat o33)))] ?_;refine q_vu [] 7 [7] [(7,vi (w64 (x9-1)))] [] [] ?_;exact q_hl (TZ a1 v2 v4 (l7.set x9.toNat o33) l7.length (l8.set x9.toNat v11) l8.length (w64 (x9-1))) (ih (l7.set x9.toNat o33) l7.length (l8.set x9.toNat v11) l8.length (w64 (x9-1)) _ (len_set rfl) (len_set rfl) hm)
   ·refine s_vu [qd 2 (Dir.none) (inb_of g13),qd 3 (Dir.none) (toNat_lt (inb_of g13))] 6 [] [(9,vp 6 0)] [] [(6,bx 207 [ci ((((l8.set x9.toNat v11).getD x9.toNat default).piece).Size),ci ((((l8.set x9.toNat v11).getD x9.toNat default).piece).At),ci (((l8.set x9.toNat v11).getD x9.toNat default).value)])] ?_;refine q_jn (ι:=Bool) (λp=>EF a1 v2 v4 l7 l8 x9 v11 p) (λp=>KV a1 v2 v4 l7 l8 x9 (wJ a1 v2 v4 n) v11 p=some res) ?_ ?_
    ·rintro x17 hm;show H _ (EF a1 v2 v4 l7 l8 x9 v11 x17) _ _;refine q_cm hm (λb18 hm=>?_) (λb18 hm=>?_)
     ·refine q_vu [] 7 [9,67] [] [5,6] [(5,bx 207 [ci ((((l8.set x9.toNat v11).getD x9.toNat default).piece).Size),ci ((((l8.set x9.toNat v11).getD x9.toNat default).piece).At),ci (((l8.set x9.toNat v11).getD x9.toNat default).value)])] ?_;exact q_J (((l8.set x9.toNat v11).getD x9.toNat default)) hm
     ·refine q_sk ?_;exact q_J ((Cutting_choice.mk (Piece.mk (-1) (-1)) (w64 ((v2.getD a1.Len.toNat default)-(v2.getD x9.toNat default))))) hm
    ·rcases bif_c hm with⟨b16,hm⟩|⟨b16,hm⟩
     ·refine q_vu [qf 4 b16] 7 [] [(67,vb (decide ((((l8.set x9.toNat v11).getD x9.toNat default).value)>(w64 ((v2.getD a1.Len.toNat default)-(v2.getD x9.toNat default))))))] [] [] ?_;exact q_J (decide ((((l8.set x9.toNat v11).getD x9.toNat default).value)>(w64 ((v2.getD a1.Len.toNat default)-(v2.getD x9.toNat default))))) hm
     ·refine q_vu [qf 4 b16] 7 [] [(67,vb false)] [] [] ?_;exact q_J (false) hm
  ·refine q_ex 0 ?_;obtain rfl:=oi hm;exact wO (by kernel_rfl) (by kernel_rfl)
theorem qFR (a1:Line) (r:(List Cutting_choice)) (hm:PC a1=some r):CtX Tryz.prog globs 151 0 0 [.agg (zV a1)] [] (qGi r) (qGw r):=by
 unfold PC at hm;refine q_E Tryz.f151 132 λE=>?_;refine s_vn [] 0 ⟨[(1,vp 0 0)],[(0,bx 84 (zV a1))]⟩ ?_;obtain⟨v2,h3,hm⟩:=qB hm;obtain⟨v4,h5,hm⟩:=qB hm;refine s_du [qc 2 [14] 1 (qCs a1.Chip v2 h3),qc 5 [17] 2 (qCs a1.Dust v4 h5)] [0,1,3,0,8,31,63,127] 1 [] [(3,vo 1 0 1 v2.length),(4,vo 2 0 1 v4.length)] [] [(1,ro 0 3 1 v2.length (rf e_i64 v2)),(2,ro 0 3 1 v4.length (rf e_i64 v4))] ?_;obtain⟨g6,hm⟩:=qI hm
 refine s_vu [qd 3 (drw 3 0 (rf e_Cutting_choice (List.replicate ((w64 (a1.Len+1)).toNat) (Cutting_choice.mk (Piece.mk 0 0) 0)))) (mkP e_Cutting_choice default (Cutting_choice.mk (Piece.mk 0 0) 0) (w64 (a1.Len+1)) 24 [ci 0,ci 0,ci 0] (qF3 g6) rfl)] 3 [] [(5,vo 3 0 3 ((w64 (a1.Len+1)).toNat))] [] [(3,ro 0 207 3 ((w64 (a1.Len+1)).toNat) (rf e_Cutting_choice (List.replicate ((w64 (a1.Len+1)).toNat) (Cutting_choice.mk (Piece.mk 0 0) 0))))] ?_
 refine s_vu [qd 3 (drw 4 0 (rf e_Cutting_choice (List.replicate ((w64 (a1.Len+1)).toNat) (Cutting_choice.mk (Piece.mk 0 0) 0)))) (mkP e_Cutting_choice default (Cutting_choice.mk (Piece.mk 0 0) 0) (w64 (a1.Len+1)) 24 [ci 0,ci 0,ci 0] (qF3 g6) rfl)] 4 [] [(6,vo 4 0 3 ((w64 (a1.Len+1)).toNat))] [] [(4,ro 0 207 3 ((w64 (a1.Len+1)).toNat) (rf e_Cutting_choice (List.replicate ((w64 (a1.Len+1)).toNat) (Cutting_choice.mk (Piece.mk 0 0) 0))))] ?_;refine q_sq ?_;refine s_vu [] 5 [] [(7,vi a1.Len)] [] [] ?_;obtain⟨o37,h38,hm⟩:=qB hm
 refine zL (nd Tryz.f151 500) 0 (by kernel_rfl) FUEL (λo=>SP o) o37 (q_hl (TZ a1 v2 v4 (List.replicate ((w64 (a1.Len+1)).toNat) (Cutting_choice.mk (Piece.mk 0 0) 0)) ((w64 (a1.Len+1)).toNat) (List.replicate ((w64 (a1.Len+1)).toNat) (Cutting_choice.mk (Piece.mk 0 0) 0)) ((w64 (a1.Len+1)).toNat) a1.Len) (qDD E a1 v2 v4 FUEL (List.replicate ((w64 (a1.Len+1)).toNat) (Cutting_choice.mk (Piece.mk 0 0) 0)) ((w64 (a1.Len+1)).toNat) (List.replicate ((w64 (a1.Len+1)).toNat) (Cutting_choice.mk (Piece.mk 0 0) 0)) ((w64 (a1.Len+1)).toNat) a1.Len o37 qGd qGd h38)) ?_
 refine s_vu [] 5 [5] [(2,vo 3 0 3 o37.length)] [] [] ?_;obtain rfl:=oi hm;refine qW 3 0 (by kernel_rfl) ?_;refine q_rt ?_;exact q_rm
def AT (r:(List Piece)×Int×Int):V:= .tup [.one (.own 0 0 2 r.1.length),.one (ci r.2.1),.one (ci r.2.2)]
def RL (r:(List Piece)×Int×Int):List (Nat×(Nat×O)):=[(0,ro 0 92 2 r.1.length (rf wQ r.1))]
theorem qDe (r:(List Piece)×Int×Int):jW (RL r):=by
 intro i k o h;unfold RL at h;rw[look_cons] at h;split at h
 ·cases h;exact λ_ _=>rfl
 ·cases h
def FJ (a1:Line) (v5:(List Cutting_choice)) (l7:List Piece) (l7n:Nat) (x8:Int):St:=
 ⟨[(1,vp 0 0),(6,vo 1 0 3 v5.length),(7,vo 2 0 2 l7n),(8,vi x8)],[(0,bx 84 (zV a1)),(1,ro 0 207 3 v5.length (rf e_Cutting_choice v5)),(2,ro 0 92 2 l7n (rf wQ l7))]⟩
def qAo (v5:(List Cutting_choice)) (l16:List Piece):St:=
 ⟨[(6,vo 1 0 3 v5.length),(7,vo 2 0 2 l16.length)],[(1,ro 0 207 3 v5.length (rf e_Cutting_choice v5)),(2,ro 0 92 2 l16.length (rf wQ l16))]⟩
theorem qFp (E:Env 0) (a1:Line) (v5:(List Cutting_choice)):∀(n:Nat) (l7:List Piece) (l7n:Nat) (x8:Int) (res:(List Piece)),l7.length=l7n->JX a1 v5 n l7 x8=some res->HL (kx E 47 0) (nd Tryz.f87 500) (zS 0 (λo=>qAo v5 o) res) n (FJ a1 v5 l7 l7n x8):=by
 intro n
 induction n with
 |zero=>
  intro l7 l7n x8 res hl0 hm;cases hm
 |succ n ih=>
  intro l7 l7n x8 res hl0 hm;subst hl0;refine qM ?_;refine q_sq ?_;refine s_vu [] 3 [] [(18,vb (decide (x8≥0)))] [] [] ?_;refine q_cm hm (λb9 hm=>?_) (λb9 hm=>?_)
  ·refine q_sk ?_;refine q_bk 1 ?_;obtain⟨g10,hm⟩:=qI hm;refine s_vu [qd 2 (Dir.none) (inb_of g10),qd 4 (Dir.none) (toNat_lt (inb_of g10))] 3 [8,18] [(9,vp 3 0)] [] [(3,bx 92 [ci (((v5.getD x8.toNat default).piece).Size),ci (((v5.getD x8.toNat default).piece).At)])] ?_;refine q_sq ?_;refine s_vu [] 4 [] [(26,vb (((((v5.getD x8.toNat default).piece).Size)==(-1))&&(((((v5.getD x8.toNat default).piece).At)==(-1))&&true)))] [] [] ?_;refine q_cm hm (λb11 hm=>?_) (λb11 hm=>?_)
   ·refine q_ex 0 ?_;obtain rfl:=oi hm;exact wO (by kernel_rfl) (by kernel_rfl)
   ·refine q_sk ?_;obtain⟨g12,hm⟩:=qI hm;refine s_vu [qd 2 (drw 4 0 (rf wQ ([(v5.getD x8.toNat default).piece]:List Piece))) (litP wQ default 2 (λ_=>rfl) ([(v5.getD x8.toNat default).piece]:List Piece) 1 rfl),qd 3 (drw 2 1 (rf wQ (l7++([(v5.getD x8.toNat default).piece]:List Piece)))) (apP wQ default l7 ([(v5.getD x8.toNat default).piece]:List Piece) l7.length 1 2 16 (1<=1) (Nat.le_refl _) rfl rfl (λ_=>rfl) (zU g12))] 4 [7,26] [(7,vo 2 1 2 (l7.length+1))] [2] [(2,ro 1 92 2 (l7.length+1) (rf wQ (l7++([(v5.getD x8.toNat default).piece]:List Piece))))] ?_;obtain⟨g13,hm⟩:=qI hm
    obtain⟨v14,h15,hm⟩:=qB hm;refine q_du [qd 7 (Dir.none) (inb_of g13),qc 10 [31,40] 5 (qAR a1 (w64 ((((v5.getD x8.toNat default).piece).At)+(a1.Sizes.getD (((v5.getD x8.toNat default).piece).Size).toNat default))) v14 h15)] [0,0,2,0,8,0,32,120,248,510,1023,2047] 5 [9] [(8,vi v14)] [3] [] ?_;exact q_hl (FJ a1 v5 (l7++([(v5.getD x8.toNat default).piece]:List Piece)) (l7.length+1) v14) (ih (l7++([(v5.getD x8.toNat default).piece]:List Piece)) (l7.length+1) v14 _ (len_app rfl rfl) hm)
  ·refine q_ex 0 ?_;obtain rfl:=oi hm;exact wO (by kernel_rfl) (by kernel_rfl)
theorem cutting_Best_ok (a1:Line) (r:(List Piece)×Int×Int) (hm:ZG a1=some r):CtX Tryz.prog globs 87 0 0 [.agg (zV a1)] [] (AT r) (RL r):=by
 unfold ZG at hm;refine q_E Tryz.f87 47 λE=>?_;refine s_vn [] 0 ⟨[(1,vp 0 0)],[(0,bx 84 (zV a1))]⟩ ?_;refine q_sq ?_;obtain⟨v2,h3,hm⟩:=qB hm;refine s_vu [qc 1 [10] 1 (qHw a1 v2 h3)] 1 [] [(5,vi v2)] [] [] ?_;refine s_vu [] 1 [] [(13,vb (v2 !=0))] [] [] ?_;refine q_cm hm (λb4 hm=>?_) (λb4 hm=>?_)
 ·refine s_vn [] 1 ⟨[(2,vc (.emp)),(3,vi 0),(4,vi v2)],[]⟩ ?_;refine q_fn [.own 2 1 92 2 (rf wQ ([]:List Piece))] ⟨[(2,vo 1 0 2 0),(3,vi 0),(4,vi v2)],[(1,ro 0 92 2 0 (rf wQ ([]:List Piece)))]⟩ o0 ?_;refine q_fn [.len 1 (([]:List Piece).length)] ⟨[(2,vo 1 0 2 (([]:List Piece).length)),(3,vi 0),(4,vi v2)],[(1,ro 0 92 2 (([]:List Piece).length) (rf wQ ([]:List Piece)))]⟩ (o1 (And.intro (show 0=([]:List Piece).length from rfl) (show 0=([]:List Piece).length from rfl))) ?_;obtain rfl:=oi hm;refine qW 1 0 (by kernel_rfl) ?_;refine q_rt ?_;exact q_rm
 ·refine q_sk ?_;obtain⟨v5,h6,hm⟩:=qB hm;refine s_vu [qc 1 [15] 1 (qFR a1 v5 h6)] 1 [5,13] [(6,vo 1 0 3 v5.length)] [] [(1,ro 0 207 3 v5.length (rf e_Cutting_choice v5))] ?_;refine s_vu [] 2 [] [(7,vc (.emp))] [] [] ?_;refine q_sq ?_;refine s_vu [] 2 [] [(8,vi 0)] [] [] ?_;refine q_fn [.own 7 2 92 2 (rf wQ ([]:List Piece))] ⟨[(1,vp 0 0),(6,vo 1 0 3 v5.length),(7,vo 2 0 2 0),(8,vi 0)],[(0,bx 84 (zV a1)),(1,ro 0 207 3 v5.length (rf e_Cutting_choice v5)),(2,ro 0 92 2 0 (rf wQ ([]:List Piece)))]⟩ o0 ?_;obtain⟨o17,h18,hm⟩:=qB hm
  refine zL (nd Tryz.f87 500) 0 (by kernel_rfl) FUEL (λo=>qAo v5 o) o17 (q_hl (FJ a1 v5 ([]:List Piece) 0 0) (qFp E a1 v5 FUEL ([]:List Piece) 0 0 o17 rfl h18)) ?_;obtain⟨g19,hm⟩:=qI hm;refine s_du [qd 2 (Dir.none) (inb_of g19),qd 4 (Dir.none) (toNat_lt (inb_of g19))] [0,0,2,6,14,1,63,127] 3 [6,7] [(2,vo 2 0 2 o17.length),(3,vi ((v5.getD ((0:Int).toNat) default).value)),(4,vi 0)] [1] [] ?_;obtain rfl:=oi hm;refine qW 2 0 (by kernel_rfl) ?_;refine q_rt ?_;exact q_rm
def JF (a1:List Node) (a2:Int) (a3:List Node) (r:Int×(List Node)):V:= .undef
def pattern_Row_1_s1_o (a1:List Node) (a2:Int) (a3:List Node) (r:Int×(List Node)):List (Nat×(Nat×O)):=[(0,bx 3 [ci r.1]),(1,bx 44 [.own 2 0 2 r.2.length]),(2,ro 0 65 2 r.2.length (rf e_Node r.2))]
theorem DY (a1:List Node) (a2:Int) (a3:List Node) (r:Int×(List Node)):jW (pattern_Row_1_s1_o a1 a2 a3 r):=by
 intro i k o h;unfold pattern_Row_1_s1_o at h;rw[look_cons] at h;split at h
 ·cases h;rfl
 ·rw[look_cons] at h;split at h
  ·cases h;rfl
  ·rw[look_cons] at h;split at h
   ·cases h;exact λ_ _=>rfl
   ·cases h
theorem KA (a1:List Node) (a2:Int) (a3:List Node) (r:Int×(List Node)) (hm:jR a1 a2 a3=some r):CtX Tryz.prog globs 154 3 2 [.one (tl e_Node default a1),.one (.bptr 0 0 0),.one (.bptr 1 0 0)] [(0,bx 3 [ci a2]),(1,bx 44 [.own 2 0 2 a3.length]),(2,ro 0 65 2 a3.length (rf e_Node a3))] (JF a1 a2 a3 r) (pattern_Row_1_s1_o a1 a2 a3 r):=by
 unfold jR at hm;refine q_E Tryz.f154 13 λE=>?_;refine s_vn [] 3 ⟨[(0,vc (tl e_Node default a1)),(1,vp 0 0),(2,vp 1 0)],[(0,bx 3 [ci (w64 (a2+((a1.length:Nat):Int)))]),(1,bx 44 [.own 2 0 2 a3.length]),(2,ro 0 65 2 a3.length (rf e_Node a3))]⟩ ?_;refine s_vu [] 3 [1] [(9,vb (decide ((w64 (a2+((a1.length:Nat):Int)))<=127)))] [] [] ?_;refine q_cm hm (λb4 hm=>?_) (λb4 hm=>?_)
 ·obtain⟨g5,hm⟩:=qI hm;refine q_wu [qd 2 (drw 2 1 (rf e_Node (a3++a1))) (apP e_Node default a3 a1 a3.length a1.length 2 16 (True) trivial rfl rfl (λ_=>rfl) (zU g5))] [.len 2 ((a3++a1).length)] (o1 (And.intro (Eq.symm (show(a3++a1).length=(a3.length+a1.length) from(len_app rfl rfl))) (And.intro (Eq.symm (show(a3++a1).length=(a3.length+a1.length) from(len_app rfl rfl))) (Eq.symm (show(a3++a1).length=(a3.length+a1.length) from(len_app rfl rfl)))))) 3 [0,2,9] [] [1,2] [(1,bx 44 [.own 2 1 2 ((a3++a1).length)]),(2,ro 1 65 2 ((a3++a1).length) (rf e_Node (a3++a1)))] ?_;obtain rfl:=oi hm;exact q_rm
 ·refine q_sk ?_;obtain rfl:=oi hm;exact q_rm
def qJh (r:Bool):V:=vb r
def qH5 (r:Bool):List (Nat×(Nat×O)):=[]
def CF (x3:Bool):St:=
 ⟨[(2,vb x3)],[]⟩
theorem MI (a1:Int) (r:Bool) (hm:wC a1=some r):CtX Tryz.prog globs 153 0 0 [.one (ci a1)] [] (qJh r) (qH5 r):=by
 unfold wC at hm;refine q_E Tryz.f153 9 λE=>?_;refine s_vn [] 0 ⟨[(0,vi a1)],[]⟩ ?_;refine q_jn (ι:=Bool) (λp=>CF p) (λp=>UN p=some r) ?_ ?_
 ·rintro x3 hm;show H _ (CF x3) _ _;obtain rfl:=oi hm;refine q_rt ?_;exact q_rm
 ·rcases bif_c hm with⟨b2,hm⟩|⟨b2,hm⟩
  ·refine q_vn [qf 2 b2] 0 ⟨[(2,vb true)],[]⟩ ?_;exact q_J (true) hm
  ·refine q_vn [qf 2 b2] 0 ⟨[(2,vb (a1==3))],[]⟩ ?_;exact q_J (a1==3) hm
def qH9 (r:Span):V:=va (e_Span r)
def qII (r:Span):List (Nat×(Nat×O)):=[]
theorem MF (a1:Rect) (a2:Int) (r:Span) (hm:QE a1 a2=some r):CtX Tryz.prog globs 155 0 0 [.agg (qE a1),.one (ci a2)] [] (qH9 r) (qII r):=by
 unfold QE at hm;refine q_E Tryz.f155 11 λE=>?_;refine s_vn [] 0 ⟨[(1,vi a2),(2,vp 0 0),(4,vp 1 0)],[(0,bx 33 (qE a1)),(1,bx 31 [ci 0,ci 0])]⟩ ?_;refine q_sq ?_;refine s_vu [] 2 [1] [(6,vb (a2==2))] [] [] ?_;refine q_cm hm (λb3 hm=>?_) (λb3 hm=>?_)
 ·refine s_vn [] 2 ⟨[(4,vp 1 0)],[(1,bx 31 (e_Span a1.X))]⟩ ?_;obtain rfl:=oi hm;refine q_rt ?_;exact q_rm
 ·refine q_sk ?_;refine s_vn [] 2 ⟨[(4,vp 1 0)],[(1,bx 31 (e_Span a1.Y))]⟩ ?_;obtain rfl:=oi hm;refine q_rt ?_;exact q_rm
def NZ (r:Bool):V:=vb r
def FD (r:Bool):List (Nat×(Nat×O)):=[]
def SQ (a1:Rect) (x2:Int) (x7:Bool):St:=
 ⟨[(9,va (qE a1)),(10,vi x2),(27,vb x7)],[]⟩
def TT (a1:Rect) (x2:Int):St:=
 ⟨[(9,va (qE a1)),(10,vi x2)],[]⟩
def EI :St:=
 ⟨[],[]⟩
theorem qDJ (E:Env 0) (a1:Rect):∀(n:Nat) (x2:Int) (res:Bool⊕Unit),qY a1 n x2=some res->HL (kx E 29 0) (nd Tryz.f115 52) (wY 0 (λo=>EI) (λv st=>RetQ Tryz.prog Tryz.f115 (NZ v) (FD v) .ret st) res) n (TT a1 x2):=by
 intro n
 induction n with
 |zero=>
  intro x2 res hm;cases hm
 |succ n ih=>
  intro x2 res hm;refine qM ?_;refine s_vu [] 1 [] [(11,vb (decide (x2<2)))] [] [] ?_;refine q_sq ?_;refine q_cm hm (λb3 hm=>?_) (λb3 hm=>?_)
  ·refine q_sk ?_;refine q_sq ?_;refine q_bk 1 ?_;obtain⟨g4,hm⟩:=qI hm;refine s_vu [qd 0 (Dir.none) (inb_of g4)] 1 [11] [(4,vp 1 0)] [] [(1,bx 31 [ci (([a1.X.A,a1.X.B,a1.Y.A,a1.Y.B]:List Int).getD (x2.toNat*2+0) 0),ci (([a1.X.A,a1.X.B,a1.Y.A,a1.Y.B]:List Int).getD (x2.toNat*2+1) 0)])] ?_;refine q_jn (ι:=Bool) (λp=>SQ a1 x2 p) (λp=>wH x2 (qY a1 n) p=some res) ?_ ?_
   ·rintro x7 hm;show H _ (SQ a1 x2 x7) _ _;refine q_cm hm (λb8 hm=>?_) (λb8 hm=>?_)
    ·refine s_vn [] 2 ⟨[(2,vb false)],[]⟩ ?_;obtain rfl:=oi hm;refine q_rt ?_;refine zH false ?_;exact q_rm
    ·refine q_sk ?_;refine q_vu [] 2 [10,27] [(10,vi (w64 (x2+1)))] [] [] ?_;exact q_hl (TT a1 (w64 (x2+1))) (ih (w64 (x2+1)) _ hm)
   ·rcases bif_c hm with⟨b5,hm⟩|⟨b5,hm⟩
    ·refine q_vu [qf 3 b5] 2 [4] [(27,vb true)] [1] [] ?_;exact q_J (true) hm
    ·rcases bif_c hm with⟨b6,hm⟩|⟨b6,hm⟩
     ·refine q_vu [qf 3 b5,qf 8 b6] 2 [4] [(27,vb true)] [1] [] ?_;exact q_J (true) hm
     ·refine q_vu [qf 3 b5,qf 8 b6] 2 [4] [(27,vb (decide ((([a1.X.A,a1.X.B,a1.Y.A,a1.Y.B]:List Int).getD (x2.toNat*2+0) 0)≥(([a1.X.A,a1.X.B,a1.Y.A,a1.Y.B]:List Int).getD (x2.toNat*2+1) 0))))] [1] [] ?_;exact q_J (decide ((([a1.X.A,a1.X.B,a1.Y.A,a1.Y.B]:List Int).getD (x2.toNat*2+0) 0)≥(([a1.X.A,a1.X.B,a1.Y.A,a1.Y.B]:List Int).getD (x2.toNat*2+1) 0))) hm
  ·refine q_ex 0 ?_;obtain rfl:=oi hm;exact jI () (by kernel_rfl) (by kernel_rfl)
theorem BT (a1:Rect) (r:Bool) (hm:jO a1=some r):CtX Tryz.prog globs 115 0 0 [.agg (qE a1)] [] (NZ r) (FD r):=by
 unfold jO at hm;refine q_E Tryz.f115 29 λE=>?_;refine s_vn [] 0 ⟨[(1,vp 0 0)],[(0,bx 33 (qE a1))]⟩ ?_;refine q_sq ?_;refine s_vn [] 1 ⟨[(9,va (qE a1)),(10,vi 0)],[]⟩ ?_;obtain⟨u11,h10,hm⟩:=qB hm;refine zP (nd Tryz.f115 52) 0 (by kernel_rfl) FUEL (λo=>EI) (λv st=>RetQ Tryz.prog Tryz.f115 (NZ v) (FD v) .ret st) u11 (q_hl (TT a1 0) (qDJ E a1 FUEL 0 u11 h10)) ?_ ?_
 ·rintro v12 rfl st hr;obtain rfl:=oi hm;exact hr
 ·rintro o9 rfl;replace hm:_=some r:=hm;refine s_vn [] 1 ⟨[(2,vb true)],[]⟩ ?_;obtain rfl:=oi hm;refine q_rt ?_;exact q_rm
def KH (r:(List Node)×Int):V:= .tup [.one (.own 0 0 2 r.1.length),.one (ci r.2)]
def ZO (r:(List Node)×Int):List (Nat×(Nat×O)):=[(0,ro 0 65 2 r.1.length (rf e_Node r.1))]
theorem qAb (r:(List Node)×Int):jW (ZO r):=by
 intro i k o h;unfold ZO at h;rw[look_cons] at h;split at h
 ·cases h;exact λ_ _=>rfl
 ·cases h
def qBn (a2:Int) (a3:Int) (a4:List Span) (a5:List (List Node)) (v17:Span) (x21:Int) (x40:Int) (x41:Bool) (l42:List Node) (l42n:Nat) (x43:Int):St:=
 ⟨[(1,vi a2),(2,vi a3),(4,vc (tl (qD e_Node) default a5)),(12,vp 1 0),(13,vp 2 0),(14,vc (.fn 154 [.bptr 2 0 0,.bptr 1 0 0])),(15,vp 3 0),(16,vi x40),(17,vb x41),(18,vi x21),(45,vc (tl e_Span default a4)),(46,vi ((a4.length:Nat):Int)),(47,vi x21)],[(1,bx 44 [.own 4 0 2 l42n]),(2,bx 3 [ci x43]),(3,bx 31 (e_Span v17)),(4,ro 0 65 2 l42n (rf e_Node l42))]⟩
def qBm (a2:Int) (a3:Int) (a4:List Span) (a5:List (List Node)) (v17:Span) (x19:Int) (x20:Bool) (x21:Int) (l35:List Node) (l35n:Nat) (x36:Int):St:=
 ⟨[(1,vi a2),(2,vi a3),(4,vc (tl (qD e_Node) default a5)),(12,vp 1 0),(13,vp 2 0),(14,vc (.fn 154 [.bptr 2 0 0,.bptr 1 0 0])),(15,vp 3 0),(16,vi x19),(17,vb x20),(18,vi x21),(19,vp 5 0),(45,vc (tl e_Span default a4)),(46,vi ((a4.length:Nat):Int)),(47,vi x21)],[(1,bx 44 [.own 4 0 2 l35n]),(2,bx 3 [ci x36]),(3,bx 31 (e_Span v17)),(4,ro 0 65 2 l35n (rf e_Node l35)),(5,bx 31 [ci ((a4.getD x21.toNat default).A),ci ((a4.getD x21.toNat default).B)])]⟩
def qBD (a2:Int) (a3:Int) (a4:List Span) (a5:List (List Node)) (v17:Span) (x19:Int) (x20:Bool) (x21:Int) (l22:List Node) (x23:Int) (x29:Bool):St:=
 ⟨[(1,vi a2),(2,vi a3),(4,vc (tl (qD e_Node) default a5)),(12,vp 1 0),(13,vp 2 0),(14,vc (.fn 154 [.bptr 2 0 0,.bptr 1 0 0])),(15,vp 3 0),(16,vi x19),(17,vb x20),(18,vi x21),(19,vp 5 0),(45,vc (tl e_Span default a4)),(46,vi ((a4.length:Nat):Int)),(47,vi x21),(58,vb x29)],[(1,bx 44 [.own 4 0 2 l22.length]),(2,bx 3 [ci x23]),(3,bx 31 (e_Span v17)),(4,ro 0 65 2 l22.length (rf e_Node l22)),(5,bx 31 [ci ((a4.getD x21.toNat default).A),ci ((a4.getD x21.toNat default).B)])]⟩
def LY (a2:Int) (a3:Int) (a4:List Span) (a5:List (List Node)) (v17:Span) (x19:Int) (x20:Bool) (x21:Int) (l22:List Node) (l22n:Nat) (x23:Int):St:=
 ⟨[(1,vi a2),(2,vi a3),(4,vc (tl (qD e_Node) default a5)),(12,vp 1 0),(13,vp 2 0),(14,vc (.fn 154 [.bptr 2 0 0,.bptr 1 0 0])),(15,vp 3 0),(16,vi x19),(17,vb x20),(45,vc (tl e_Span default a4)),(46,vi ((a4.length:Nat):Int)),(47,vi x21)],[(1,bx 44 [.own 4 0 2 l22n]),(2,bx 3 [ci x23]),(3,bx 31 (e_Span v17)),(4,ro 0 65 2 l22n (rf e_Node l22))]⟩
def qA6 (x47:Bool) (l48:List Node) (x49:Int):St:=
 ⟨[(12,vp 1 0),(13,vp 2 0),(14,vc (.fn 154 [.bptr 2 0 0,.bptr 1 0 0])),(17,vb x47)],[(1,bx 44 [.own 4 0 2 l48.length]),(2,bx 3 [ci x49]),(4,ro 0 65 2 l48.length (rf e_Node l48))]⟩
def qBG (x57:Int) (l58:List Node) (l58n:Nat):St:=
 ⟨[(12,vp 1 0),(13,vp 2 0)],[(1,bx 44 [.own 4 0 2 l58n]),(2,bx 3 [ci x57]),(4,ro 0 65 2 l58n (rf e_Node l58))]⟩
def qBI (a1:Rect) (a2:Int) (a3:Int) (a4:List Span) (a5:List (List Node)) (x15:Bool):St:=
 ⟨[(1,vi a2),(2,vi a3),(3,vc (tl e_Span default a4)),(4,vc (tl (qD e_Node) default a5)),(5,vp 0 0),(38,vb x15)],[(0,bx 33 (qE a1))]⟩
def qBw (a1:Rect) (a2:Int) (a3:Int) (a4:List Span) (a5:List (List Node)) (x12:Bool):St:=
 ⟨[(1,vi a2),(2,vi a3),(3,vc (tl e_Span default a4)),(4,vc (tl (qD e_Node) default a5)),(5,vp 0 0),(32,vb x12)],[(0,bx 33 (qE a1))]⟩
theorem qGq (E:Env 0) (a2:Int) (a3:Int) (a4:List Span) (a5:List (List Node)) (v17:Span):∀(n:Nat) (x19:Int) (x20:Bool) (x21:Int) (l22:List Node) (l22n:Nat) (x23:Int) (res:((List Node)×Int)⊕(Bool×(List Node)×Int)),l22.length=l22n->zF a2 a3 a4 a5 v17 n x19 x20 x21 l22 x23=some res->HL (kx E 130 0) (nd Tryz.f90 16372) (wY 0 (λo=>qA6 o.1 o.2.1 o.2.2) (λv st=>RetQ Tryz.prog Tryz.f90 (KH v) (ZO v) .ret st) res) n (LY a2 a3 a4 a5 v17 x19 x20 x21 l22 l22n x23):=by
 intro n
 induction n with
 |zero=>
  intro x19 x20 x21 l22 l22n x23 res hl0 hm;cases hm
 |succ n ih=>
  intro x19 x20 x21 l22 l22n x23 res hl0 hm;subst hl0;refine qM ?_;refine s_vu [] 5 [] [(48,vb (decide (x21<((a4.length:Nat):Int))))] [] [] ?_;refine q_sq ?_;refine q_cm hm (λb24 hm=>?_) (λb24 hm=>?_)
  ·refine q_sk ?_;refine q_sq ?_;refine q_bk 1 ?_;obtain⟨g25,hm⟩:=qI hm;refine s_vu [qd 1 (Dir.none) (inb_of g25)] 5 [48] [(18,vi x21),(19,vp 5 0)] [] [(5,bx 31 [ci ((a4.getD x21.toNat default).A),ci ((a4.getD x21.toNat default).B)])] ?_;refine q_sq ?_;refine q_bk 2 ?_;refine s_vu [] 6 [] [(52,vb (decide (((a4.getD x21.toNat default).A)≥((a4.getD x21.toNat default).B))))] [] [] ?_;refine q_cm hm (λb26 hm=>?_) (λb26 hm=>?_)
   ·refine s_vn [] 6 ⟨[(10,vc (.emp)),(11,vi 19)],[]⟩ ?_;refine q_fn [.own 10 6 65 2 (rf e_Node ([]:List Node))] ⟨[(10,vo 6 0 2 0),(11,vi 19)],[(6,ro 0 65 2 0 (rf e_Node ([]:List Node)))]⟩ o0 ?_;refine q_fn [.len 6 (([]:List Node).length)] ⟨[(10,vo 6 0 2 (([]:List Node).length)),(11,vi 19)],[(6,ro 0 65 2 (([]:List Node).length) (rf e_Node ([]:List Node)))]⟩ (o1 (And.intro (show 0=([]:List Node).length from rfl) (show 0=([]:List Node).length from rfl))) ?_;obtain rfl:=oi hm;refine qW 6 0 (by kernel_rfl) ?_;refine q_rt ?_;refine zH (([]:List Node),19) ?_;exact q_rm
   ·refine q_jn (ι:=Bool) (λp=>qBD a2 a3 a4 a5 v17 x19 x20 x21 l22 x23 p) (λp=>WQ a2 a3 a4 a5 v17 x19 x20 x21 l22 x23 (zF a2 a3 a4 a5 v17 n) p=some res) ?_ ?_
    ·rintro x29 hm;show H _ (qBD a2 a3 a4 a5 v17 x19 x20 x21 l22 x23 x29) _ _;refine q_cm hm (λb30 hm=>?_) (λb30 hm=>?_)
     ·refine s_vn [] 6 ⟨[(10,vc (.emp)),(11,vi 11)],[]⟩ ?_;refine q_fn [.own 10 6 65 2 (rf e_Node ([]:List Node))] ⟨[(10,vo 6 0 2 0),(11,vi 11)],[(6,ro 0 65 2 0 (rf e_Node ([]:List Node)))]⟩ o0 ?_;refine q_fn [.len 6 (([]:List Node).length)] ⟨[(10,vo 6 0 2 (([]:List Node).length)),(11,vi 11)],[(6,ro 0 65 2 (([]:List Node).length) (rf e_Node ([]:List Node)))]⟩ (o1 (And.intro (show 0=([]:List Node).length from rfl) (show 0=([]:List Node).length from rfl))) ?_;obtain rfl:=oi hm;refine qW 6 0 (by kernel_rfl) ?_;refine q_rt ?_;refine zH (([]:List Node),11) ?_;exact q_rm
     ·refine s_vu [] 6 [58] [(75,vb (decide (((a4.getD x21.toNat default).B)>v17.B)))] [] [] ?_;refine q_cm hm (λb31 hm=>?_) (λb31 hm=>?_)
      ·refine s_vn [] 6 ⟨[(10,vc (.emp)),(11,vi 20)],[]⟩ ?_;refine q_fn [.own 10 6 65 2 (rf e_Node ([]:List Node))] ⟨[(10,vo 6 0 2 0),(11,vi 20)],[(6,ro 0 65 2 0 (rf e_Node ([]:List Node)))]⟩ o0 ?_;refine q_fn [.len 6 (([]:List Node).length)] ⟨[(10,vo 6 0 2 (([]:List Node).length)),(11,vi 20)],[(6,ro 0 65 2 (([]:List Node).length) (rf e_Node ([]:List Node)))]⟩ (o1 (And.intro (show 0=([]:List Node).length from rfl) (show 0=([]:List Node).length from rfl))) ?_;obtain rfl:=oi hm;refine qW 6 0 (by kernel_rfl) ?_;refine q_rt ?_;refine zH (([]:List Node),20) ?_;exact q_rm
      ·refine q_sk ?_;refine q_jn (ι:=(List Node)×Nat×Int) (λp=>qBm a2 a3 a4 a5 v17 x19 x20 x21 p.1 p.2.1 p.2.2) (λp=>p.1.length=p.2.1/\WM a2 a3 a4 a5 v17 x19 x20 x21 (zF a2 a3 a4 a5 v17 n) p.1 p.2.2=some res) ?_ ?_
       ·rintro⟨l35,l35n,x36⟩ ⟨el35,hm⟩;replace el35:l35.length=l35n:=el35;subst el35;show H _ (qBm a2 a3 a4 a5 v17 x19 x20 x21 l35 l35.length x36) _ _;refine q_jn (ι:=Int×Bool×(List Node)×Nat×Int) (λp=>qBn a2 a3 a4 a5 v17 x21 p.1 p.2.1 p.2.2.1 p.2.2.2.1 p.2.2.2.2) (λp=>p.2.2.1.length=p.2.2.2.1/\RX a5 x21 (zF a2 a3 a4 a5 v17 n) p.1 p.2.1 p.2.2.1 p.2.2.2.2=some res) ?_ ?_
        ·rintro⟨x40,x41,l42,l42n,x43⟩ ⟨el42,hm⟩;replace el42:l42.length=l42n:=el42;subst el42;show H _ (qBn a2 a3 a4 a5 v17 x21 x40 x41 l42 l42.length x43) _ _;obtain⟨g44,hm⟩:=qI hm;obtain⟨v45,h46,hm⟩:=qB hm
         refine q_vu [qd 3 (Dir.none) (inb_of g44),qd 5 (dex (cen [(2,0),(1,0),(4,0)] [0,0,1] 5 2 (JF (a5.getD x21.toNat default) x43 l42 v45) (pattern_Row_1_s1_o (a5.getD x21.toNat default) x43 l42 v45) [114,118] [2,1,4])) (wF (K:=(kx E 130 0)) ⟨[(114,vc (.fn 154 [.bptr 2 0 0,.bptr 1 0 0])),(118,vc (tl e_Node default (a5.getD x21.toNat default)))],[(2,bx 3 [ci x43]),(1,bx 44 [.own 4 0 2 l42.length]),(4,ro 0 65 2 l42.length (rf e_Node l42))]⟩ (opAt (rg Tryz.f90 4191439) 5) [(2,0),(1,0),(4,0)] [0,0,1] 5 o0 rfl (KA (a5.getD x21.toNat default) x43 l42 v45 h46) (.inl rfl) (by kernel_rfl))] 8 [18] [] [1,2,4] [(1,bx 44 [.own 4 1 2 v45.2.length]),(2,bx 3 [ci v45.1]),(4,ro 1 65 2 v45.2.length (rf e_Node v45.2))] ?_
         refine q_vu [] 8 [47] [(47,vi (w64 (x21+1)))] [] [] ?_;exact q_hl (LY a2 a3 a4 a5 v17 x40 x41 (w64 (x21+1)) v45.2 v45.2.length v45.1) (ih x40 x41 (w64 (x21+1)) v45.2 v45.2.length v45.1 _ rfl hm)
        ·refine s_vu [] 7 [] [(99,vb (decide (((a4.getD x21.toNat default).B)<v17.B)))] [] [] ?_;refine q_cm hm (λb37 hm=>?_) (λb37 hm=>?_)
         ·obtain⟨v38,h39,hm⟩:=qB hm
          refine s_vu [qd 5 (drw 7 0 (rf e_Node ([(Node.mk a2 ((a4.getD x21.toNat default).B))]:List Node))) (litP e_Node default 2 (λ_=>rfl) ([(Node.mk a2 ((a4.getD x21.toNat default).B))]:List Node) 1 rfl),qd 6 (dex (cen [(2,0),(1,0),(4,0)] [0,0,1] 5 2 (JF ([(Node.mk a2 ((a4.getD x21.toNat default).B))]:List Node) x36 l35 v38) (pattern_Row_1_s1_o ([(Node.mk a2 ((a4.getD x21.toNat default).B))]:List Node) x36 l35 v38) [100,105] [2,1,4,7])) (wF (K:=(kx E 130 0)) (xs':=[.one (.lst 1 (rf e_Node ([(Node.mk a2 ((a4.getD x21.toNat default).B))]:List Node))),.one (.bptr 0 0 0),.one (.bptr 1 0 0)]) (b:=false) ⟨[(100,vc (.fn 154 [.bptr 2 0 0,.bptr 1 0 0])),(105,vo 7 0 2 1)],[(2,bx 3 [ci x36]),(1,bx 44 [.own 4 0 2 l35.length]),(4,ro 0 65 2 l35.length (rf e_Node l35)),(7,ro 0 65 2 1 (rf e_Node ([(Node.mk a2 ((a4.getD x21.toNat default).B))]:List Node)))]⟩ (opAt (rg Tryz.f90 33531508) 6) [(2,0),(1,0),(4,0)] [0,0,1] 5 (o1 (Nat.le_refl 1)) (by simp only[tl,rf,show([(Node.mk a2 ((a4.getD x21.toNat default).B))]:List Node).length=1 from rfl]) (KA ([(Node.mk a2 ((a4.getD x21.toNat default).B))]:List Node) x36 l35 v38 h39) (.inr ⟨(by kernel_rfl),DY ([(Node.mk a2 ((a4.getD x21.toNat default).B))]:List Node) x36 l35 v38⟩) (by kernel_rfl))] 7 [16,99] [] [1,2,4] [(1,bx 44 [.own 4 1 2 v38.2.length]),(2,bx 3 [ci v38.1]),(4,ro 1 65 2 v38.2.length (rf e_Node v38.2))] ?_
          refine q_vu [] 8 [19] [(16,vi (imin (w64 (((a4.getD x21.toNat default).B)+a3)) v17.B))] [5] [] ?_;exact q_J (imin (w64 (((a4.getD x21.toNat default).B)+a3)) v17.B,x20,v38.2,v38.2.length,v38.1) ⟨rfl,hm⟩
         ·refine q_vu [] 7 [17,19,99] [(17,vb true)] [5] [] ?_;exact q_J (x19,true,l35,l35.length,x36) ⟨rfl,hm⟩
       ·refine s_vu [] 6 [75] [(84,vb (decide (((a4.getD x21.toNat default).A)>x19)))] [] [] ?_;refine q_cm hm (λb32 hm=>?_) (λb32 hm=>?_)
        ·obtain⟨v33,h34,hm⟩:=qB hm
         refine q_vu [qd 8 (drw 6 0 (rf e_Node ([(Node.mk a2 (w64 (((a4.getD x21.toNat default).A)-a3))),(Node.mk 0 0)]:List Node))) (litP e_Node default 2 (λ_=>rfl) ([(Node.mk a2 (w64 (((a4.getD x21.toNat default).A)-a3))),(Node.mk 0 0)]:List Node) 2 rfl),qd 9 (dex (cen [(2,0),(1,0),(4,0)] [0,0,1] 4 2 (JF ([(Node.mk a2 (w64 (((a4.getD x21.toNat default).A)-a3))),(Node.mk 0 0)]:List Node) x23 l22 v33) (pattern_Row_1_s1_o ([(Node.mk a2 (w64 (((a4.getD x21.toNat default).A)-a3))),(Node.mk 0 0)]:List Node) x23 l22 v33) [85,93] [2,1,4,6])) (wF (K:=(kx E 130 0)) (xs':=[.one (.lst 2 (rf e_Node ([(Node.mk a2 (w64 (((a4.getD x21.toNat default).A)-a3))),(Node.mk 0 0)]:List Node))),.one (.bptr 0 0 0),.one (.bptr 1 0 0)]) (b:=false) ⟨[(85,vc (.fn 154 [.bptr 2 0 0,.bptr 1 0 0])),(93,vo 6 0 2 2)],[(2,bx 3 [ci x23]),(1,bx 44 [.own 4 0 2 l22.length]),(4,ro 0 65 2 l22.length (rf e_Node l22)),(6,ro 0 65 2 2 (rf e_Node ([(Node.mk a2 (w64 (((a4.getD x21.toNat default).A)-a3))),(Node.mk 0 0)]:List Node)))]⟩ (opAt (rg Tryz.f90 8382874) 9) [(2,0),(1,0),(4,0)] [0,0,1] 4 (o1 (Nat.le_refl 2)) (by simp only[tl,rf,show([(Node.mk a2 (w64 (((a4.getD x21.toNat default).A)-a3))),(Node.mk 0 0)]:List Node).length=2 from rfl]) (KA ([(Node.mk a2 (w64 (((a4.getD x21.toNat default).A)-a3))),(Node.mk 0 0)]:List Node) x23 l22 v33 h34) (.inr ⟨(by kernel_rfl),DY ([(Node.mk a2 (w64 (((a4.getD x21.toNat default).A)-a3))),(Node.mk 0 0)]:List Node) x23 l22 v33⟩) (by kernel_rfl))] 6 [84] [] [1,2,4] [(1,bx 44 [.own 4 1 2 v33.2.length]),(2,bx 3 [ci v33.1]),(4,ro 1 65 2 v33.2.length (rf e_Node v33.2))] ?_
         exact q_J (v33.2,v33.2.length,v33.1) ⟨rfl,hm⟩
        ·refine q_sk ?_;exact q_J (l22,l22.length,x23) ⟨rfl,hm⟩
    ·rcases bif_c hm with⟨b27,hm⟩|⟨b27,hm⟩
     ·refine q_vu [qf 1 b27] 6 [52] [(58,vb true)] [] [] ?_;exact q_J (true) hm
     ·rcases bif_c hm with⟨b28,hm⟩|⟨b28,hm⟩
      ·refine q_vu [qf 1 b27,qf 6 b28] 6 [52] [(58,vb (decide (((a4.getD x21.toNat default).A)<(w64 ((w64 (x19+a3))+1)))))] [] [] ?_;exact q_J (decide (((a4.getD x21.toNat default).A)<(w64 ((w64 (x19+a3))+1)))) hm
      ·refine q_vu [qf 1 b27,qf 6 b28] 6 [52] [(58,vb false)] [] [] ?_;exact q_J (false) hm
  ·refine q_ex 0 ?_;obtain rfl:=oi hm;exact jI (x20,l22,x23) (by kernel_rfl) (by kernel_rfl)
theorem pattern_Row_ok (a1:Rect) (a2:Int) (a3:Int) (a4:List Span) (a5:List (List Node)) (r:(List Node)×Int) (hm:yV a1 a2 a3 a4 a5=some r):CtX Tryz.prog globs 90 0 0 [.agg (qE a1),.one (ci a2),.one (ci a3),.one (tl e_Span default a4),.one (tl (qD e_Node) default a5)] [] (KH r) (ZO r):=by
 unfold yV at hm;refine q_E Tryz.f90 130 λE=>?_;refine s_vn [] 0 ⟨[(1,vi a2),(2,vi a3),(3,vc (tl e_Span default a4)),(4,vc (tl (qD e_Node) default a5)),(5,vp 0 0)],[(0,bx 33 (qE a1))]⟩ ?_;refine q_sq ?_;obtain⟨v6,h7,hm⟩:=qB hm;refine s_vu [qc 1 [20] 1 (MI a2 v6 h7)] 1 [] [(22,vb (!v6))] [] [] ?_;refine q_cm hm (λb8 hm=>?_) (λb8 hm=>?_)
 ·refine s_vn [] 1 ⟨[(10,vc (.emp)),(11,vi 10)],[]⟩ ?_;refine q_fn [.own 10 1 65 2 (rf e_Node ([]:List Node))] ⟨[(10,vo 1 0 2 0),(11,vi 10)],[(1,ro 0 65 2 0 (rf e_Node ([]:List Node)))]⟩ o0 ?_;refine q_fn [.len 1 (([]:List Node).length)] ⟨[(10,vo 1 0 2 (([]:List Node).length)),(11,vi 10)],[(1,ro 0 65 2 (([]:List Node).length) (rf e_Node ([]:List Node)))]⟩ (o1 (And.intro (show 0=([]:List Node).length from rfl) (show 0=([]:List Node).length from rfl))) ?_;obtain rfl:=oi hm;refine qW 1 0 (by kernel_rfl) ?_;refine q_rt ?_;exact q_rm
 ·refine q_sk ?_;refine q_sq ?_;refine q_jn (ι:=Bool) (λp=>qBw a1 a2 a3 a4 a5 p) (λp=>TA a1 a2 a3 a4 a5 p=some r) ?_ ?_
  ·rintro x12 hm;show H _ (qBw a1 a2 a3 a4 a5 x12) _ _;refine q_cm hm (λb13 hm=>?_) (λb13 hm=>?_)
   ·refine s_vn [] 1 ⟨[(10,vc (.emp)),(11,vi 19)],[]⟩ ?_;refine q_fn [.own 10 1 65 2 (rf e_Node ([]:List Node))] ⟨[(10,vo 1 0 2 0),(11,vi 19)],[(1,ro 0 65 2 0 (rf e_Node ([]:List Node)))]⟩ o0 ?_;refine q_fn [.len 1 (([]:List Node).length)] ⟨[(10,vo 1 0 2 (([]:List Node).length)),(11,vi 19)],[(1,ro 0 65 2 (([]:List Node).length) (rf e_Node ([]:List Node)))]⟩ (o1 (And.intro (show 0=([]:List Node).length from rfl) (show 0=([]:List Node).length from rfl))) ?_;obtain rfl:=oi hm;refine qW 1 0 (by kernel_rfl) ?_;refine q_rt ?_;exact q_rm
   ·refine q_sk ?_;refine q_sq ?_;refine q_jn (ι:=Bool) (λp=>qBI a1 a2 a3 a4 a5 p) (λp=>RU a1 a2 a3 a4 a5 p=some r) ?_ ?_
    ·rintro x15 hm;show H _ (qBI a1 a2 a3 a4 a5 x15) _ _;refine q_cm hm (λb16 hm=>?_) (λb16 hm=>?_)
     ·refine s_vn [] 1 ⟨[(10,vc (.emp)),(11,vi 9)],[]⟩ ?_;refine q_fn [.own 10 1 65 2 (rf e_Node ([]:List Node))] ⟨[(10,vo 1 0 2 0),(11,vi 9)],[(1,ro 0 65 2 0 (rf e_Node ([]:List Node)))]⟩ o0 ?_;refine q_fn [.len 1 (([]:List Node).length)] ⟨[(10,vo 1 0 2 (([]:List Node).length)),(11,vi 9)],[(1,ro 0 65 2 (([]:List Node).length) (rf e_Node ([]:List Node)))]⟩ (o1 (And.intro (show 0=([]:List Node).length from rfl) (show 0=([]:List Node).length from rfl))) ?_;obtain rfl:=oi hm;refine qW 1 0 (by kernel_rfl) ?_;refine q_rt ?_;exact q_rm
     ·refine q_sk ?_;refine s_vu [] 1 [38] [(12,vp 1 0)] [] [(1,bx 44 [.emp])] ?_;refine s_vu [] 2 [] [(13,vp 2 0)] [] [(2,bx 3 [ci 0])] ?_;refine s_vu [] 3 [] [(14,vc (.fn 154 [.bptr 2 0 0,.bptr 1 0 0]))] [] [] ?_;obtain⟨v17,h18,hm⟩:=qB hm;refine s_vu [qc 2 [40,41] 3 (MF a1 a2 v17 h18)] 3 [5] [(15,vp 3 0)] [0] [(3,bx 31 (e_Span v17))] ?_;refine s_vu [] 4 [] [(16,vi v17.A),(17,vb false)] [] [] ?_;refine q_sq ?_;refine s_vu [] 4 [3] [(45,vc (tl e_Span default a4)),(46,vi ((a4.length:Nat):Int)),(47,vi 0)] [] [] ?_
      refine q_fn [.ownB 1 0 4 65 2 (rf e_Node ([]:List Node))] ⟨[(1,vi a2),(2,vi a3),(4,vc (tl (qD e_Node) default a5)),(12,vp 1 0),(13,vp 2 0),(14,vc (.fn 154 [.bptr 2 0 0,.bptr 1 0 0])),(15,vp 3 0),(16,vi v17.A),(17,vb false),(45,vc (tl e_Span default a4)),(46,vi ((a4.length:Nat):Int)),(47,vi 0)],[(1,bx 44 [.own 4 0 2 0]),(2,bx 3 [ci 0]),(3,bx 31 (e_Span v17)),(4,ro 0 65 2 0 (rf e_Node ([]:List Node)))]⟩ o0 ?_;obtain⟨u52,h51,hm⟩:=qB hm
      refine zP (nd Tryz.f90 16372) 0 (by kernel_rfl) FUEL (λo=>qA6 o.1 o.2.1 o.2.2) (λv st=>RetQ Tryz.prog Tryz.f90 (KH v) (ZO v) .ret st) u52 (q_hl (LY a2 a3 a4 a5 v17 v17.A false 0 ([]:List Node) 0 0) (qGq E a2 a3 a4 a5 v17 FUEL v17.A false 0 ([]:List Node) 0 0 u52 rfl h51)) ?_ ?_
      ·rintro v53 rfl st hr;obtain rfl:=oi hm;exact hr
      ·rintro o50 rfl;replace hm:_=some r:=hm;refine q_jn (ι:=Int×(List Node)×Nat) (λp=>qBG p.1 p.2.1 p.2.2) (λp=>p.2.1.length=p.2.2/\RT p.1 p.2.1=some r) ?_ ?_
       ·rintro⟨x57,l58,l58n⟩ ⟨el58,hm⟩;replace el58:l58.length=l58n:=el58;subst el58;show H _ (qBG x57 l58 l58.length) _ _;refine q_sq ?_;refine s_vu [] 6 [13] [(128,vb (decide (x57>127)))] [2] [] ?_;refine q_cm hm (λb59 hm=>?_) (λb59 hm=>?_)
        ·refine s_vn [] 6 ⟨[(10,vc (.emp)),(11,vi 4)],[]⟩ ?_;refine q_fn [.own 10 6 65 2 (rf e_Node ([]:List Node))] ⟨[(10,vo 6 0 2 0),(11,vi 4)],[(6,ro 0 65 2 0 (rf e_Node ([]:List Node)))]⟩ o0 ?_;refine q_fn [.len 6 (([]:List Node).length)] ⟨[(10,vo 6 0 2 (([]:List Node).length)),(11,vi 4)],[(6,ro 0 65 2 (([]:List Node).length) (rf e_Node ([]:List Node)))]⟩ (o1 (And.intro (show 0=([]:List Node).length from rfl) (show 0=([]:List Node).length from rfl))) ?_;obtain rfl:=oi hm;refine qW 6 0 (by kernel_rfl) ?_;refine q_rt ?_;exact q_rm
        ·refine q_sk ?_;refine s_vu [] 6 [12,128] [(10,vo 4 0 2 l58.length),(11,vi 0)] [1] [] ?_;obtain rfl:=oi hm;refine qW 4 0 (by kernel_rfl) ?_;refine q_rt ?_;exact q_rm
       ·refine s_vu [] 5 [17] [(122,vb (!o50.1))] [] [] ?_;refine q_cm hm (λb54 hm=>?_) (λb54 hm=>?_)
        ·obtain⟨v55,h56,hm⟩:=qB hm
         refine q_vu [qd 2 (drw 5 0 (rf e_Node ([(Node.mk 0 0)]:List Node))) (litP e_Node default 2 (λ_=>rfl) ([(Node.mk 0 0)]:List Node) 1 rfl),qd 3 (dex (cen [(2,0),(1,0),(4,0)] [0,0,1] 3 2 (JF ([(Node.mk 0 0)]:List Node) o50.2.2 o50.2.1 v55) (pattern_Row_1_s1_o ([(Node.mk 0 0)]:List Node) o50.2.2 o50.2.1 v55) [123,125] [2,1,4,5])) (wF (K:=(kx E 130 0)) (xs':=[.one (.lst 1 (rf e_Node ([(Node.mk 0 0)]:List Node))),.one (.bptr 0 0 0),.one (.bptr 1 0 0)]) (b:=false) ⟨[(123,vc (.fn 154 [.bptr 2 0 0,.bptr 1 0 0])),(125,vo 5 0 2 1)],[(2,bx 3 [ci o50.2.2]),(1,bx 44 [.own 4 0 2 o50.2.1.length]),(4,ro 0 65 2 o50.2.1.length (rf e_Node o50.2.1)),(5,ro 0 65 2 1 (rf e_Node ([(Node.mk 0 0)]:List Node)))]⟩ (opAt (rg Tryz.f90 16378) 3) [(2,0),(1,0),(4,0)] [0,0,1] 3 (o1 (Nat.le_refl 1)) (by simp only[tl,rf,show([(Node.mk 0 0)]:List Node).length=1 from rfl]) (KA ([(Node.mk 0 0)]:List Node) o50.2.2 o50.2.1 v55 h56) (.inr ⟨(by kernel_rfl),DY ([(Node.mk 0 0)]:List Node) o50.2.2 o50.2.1 v55⟩) (by kernel_rfl))] 5 [14,122] [] [1,2,4] [(1,bx 44 [.own 4 1 2 v55.2.length]),(2,bx 3 [ci v55.1]),(4,ro 1 65 2 v55.2.length (rf e_Node v55.2))] ?_
         exact q_J (v55.1,v55.2,v55.2.length) ⟨rfl,hm⟩
        ·refine q_sk ?_;exact q_J (o50.2.2,o50.2.1,o50.2.1.length) ⟨rfl,hm⟩
    ·rcases bif_c hm with⟨b14,hm⟩|⟨b14,hm⟩
     ·refine q_vu [qf 2 b14] 1 [32] [(38,vb true)] [] [] ?_;exact q_J (true) hm
     ·refine q_vu [qf 2 b14] 1 [32] [(38,vb (decide (a3>20)))] [] [] ?_;exact q_J (decide (a3>20)) hm
  ·obtain⟨v9,h10,hm⟩:=qB hm;rcases bif_c hm with⟨b11,hm⟩|⟨b11,hm⟩
   ·refine q_vu [qc 1 [23] 1 (BT a1 v9 h10),qf 3 b11] 1 [22] [(32,vb true)] [] [] ?_;exact q_J (true) hm
   ·refine q_vu [qc 1 [23] 1 (BT a1 v9 h10),qf 3 b11] 1 [22] [(32,vb (((a4.length:Nat):Int) !=((a5.length:Nat):Int)))] [] [] ?_;exact q_J (((a4.length:Nat):Int) !=((a5.length:Nat):Int)) hm
end Saw
end Go.SL

import Derived.Test.YtidlfgiogdjkaaaGreatDoorEBase
import Derived.Test.YtidlfgiogdjkaaaGreatDoorEFa1
import Derived.Test.YtidlfgiogdjkaaaGreatDoorEFa2
import Derived.Test.YtidlfgiogdjkaaaGreatDoorEFa6
import Derived.Test.YtidlfgiogdjkaaaGreatDoorEFa5
set_option linter.unusedVariables false
set_option linter.unusedSimpArgs false
namespace Go.SL
namespace Saw
open Go.Proofs
set_option maxHeartbeats 4000000
set_option maxRecDepth 100000
def qDT (r:(List Int)):V:=vo 0 0 1 r.length
def LK (r:(List Int)):List (Nat×(Nat×O)):=[(0,ro 0 3 1 r.length (rf e_i64 r))]
theorem qL5 (r:(List Int)):jI (LK r):=by
 intro i k o h;unfold LK at h;rw[look_cons] at h;split at h
 ·cases h;exact λ_ _=>rfl
 ·cases h
def MB (a1:List Product) (l5:List Int) (l5n:Nat) (x6:Int):St:=
 ⟨[(3,vo 0 0 1 l5n),(11,vc (tl qC default a1)),(12,vi ((a1.length:Nat):Int)),(13,vi x6)],[(0,ro 0 3 1 l5n (rf e_i64 l5))]⟩
def qAV (l12:List Int):St:=
 ⟨[(3,vo 0 0 1 l12.length)],[(0,ro 0 3 1 l12.length (rf e_i64 l12))]⟩
theorem qG2 (E:Env 0) (a1:List Product):∀(n:Nat) (l5:List Int) (l5n:Nat) (x6:Int) (res:(List Int)),l5.length=l5n->YP a1 n l5 x6=some res->HL (kx E 32 0) (nd Tryz.f14 244) (zK 0 (λo=>qAV o) res) n (MB a1 l5 l5n x6):=by
 intro n
 induction n with
 |zero=>
  intro l5 l5n x6 res hl0 hm;cases hm
 |succ n ih=>
  intro l5 l5n x6 res hl0 hm;subst hl0;refine qK ?_;refine s_va 1 [(14,vb (decide (x6<((a1.length:Nat):Int))))] ?_;refine q_sq ?_;refine q_cm hm (λb7 hm=>?_) (λb7 hm=>?_)
  ·refine q_sk ?_;refine q_sq ?_;refine q_bk 1 ?_;obtain⟨g8,hm⟩:=qE hm;refine s_vu [qi 0 g8] 1 [14] [(5,vp 1 0)] [] [(1,bx 54 [cs ((a1.getD x6.toNat default).Name),ci ((a1.getD x6.toNat default).Thick),ci ((a1.getD x6.toNat default).Width),ci ((a1.getD x6.toNat default).Allow),ci ((a1.getD x6.toNat default).Wane),tl e_i64 default ((a1.getD x6.toNat default).Lengths),tl e_i64 default ((a1.getD x6.toNat default).Prices)])] ?_;obtain⟨v9,h10,hm⟩:=qA hm;refine s_vu [qc 1 [18] 2 (GK (a1.getD x6.toNat default) v9 h10)] 2 [5] [(6,vi v9.1),(7,vi v9.2)] [1] [] ?_;obtain⟨g11,hm⟩:=qE hm
   refine q_vu [qd 3 (drw 2 0 (rf e_i64 ([v9.1,v9.2]:List Int))) (litP e_i64 default 1 (λ_=>rfl) ([v9.1,v9.2]:List Int) 2 rfl),qd 4 (drw 0 1 (rf e_i64 (l5++([v9.1,v9.2]:List Int)))) (apP e_i64 default l5 ([v9.1,v9.2]:List Int) l5.length 2 1 8 (2<=2) (Nat.le_refl _) rfl rfl (λ_=>rfl) (qX g11))] 2 [3,6,7] [(3,vo 0 1 1 (l5.length+2))] [0] [(0,ro 1 3 1 (l5.length+2) (rf e_i64 (l5++([v9.1,v9.2]:List Int))))] ?_;refine q_vv [] 3 [13] [(13,vi (w64 (x6+1)))] ?_
   exact q_hl (MB a1 (l5++([v9.1,v9.2]:List Int)) (l5.length+2) (w64 (x6+1))) (ih (l5++([v9.1,v9.2]:List Int)) (l5.length+2) (w64 (x6+1)) _ (len_app rfl rfl) hm)
  ·refine q_ex 0 ?_;obtain rfl:=oi hm;exact wB (by kernel_rfl) (by kernel_rfl)
theorem ES (a1:List Product) (r:(List Int)) (hm:JZ a1=some r):CtX Tryz.prog globs 14 0 0 [.one (tl qC default a1)] [] (qDT r) (LK r):=by
 unfold JZ at hm;refine q_E Tryz.f14 32 λE=>?_;refine s_vn [] 0 ⟨[(0,vc (tl qC default a1))],[]⟩ ?_;refine q_sq ?_;obtain⟨v2,h3,hm⟩:=qA hm;refine s_vv [qc 1 [8] 0 (jA a1 v2 h3)] 0 [] [(10,vb (v2 !=0))] ?_;refine q_cm hm (λb4 hm=>?_) (λb4 hm=>?_)
 ·refine s_vn [] 0 ⟨[(2,vc (.emp))],[]⟩ ?_;refine q_fn [.own 2 0 3 1 (rf e_i64 ([]:List Int))] ⟨[(2,vo 0 0 1 0)],[(0,ro 0 3 1 0 (rf e_i64 ([]:List Int)))]⟩ o0 ?_;refine q_fn [.len 0 (([]:List Int).length)] ⟨[(2,vo 0 0 1 (([]:List Int).length))],[(0,ro 0 3 1 (([]:List Int).length) (rf e_i64 ([]:List Int)))]⟩ (o1 (And.intro (show 0=([]:List Int).length from rfl) (show 0=([]:List Int).length from rfl))) ?_;obtain rfl:=oi hm;refine q_rt ?_;exact q_rm
 ·refine q_sk ?_;refine s_vv [] 0 [10] [(3,vc (.emp))] ?_;refine q_sq ?_;refine s_vv [] 0 [0] [(11,vc (tl qC default a1)),(12,vi ((a1.length:Nat):Int)),(13,vi 0)] ?_;refine q_fu [.own 3 0 3 1 (rf e_i64 ([]:List Int))] [3] [(3,vo 0 0 1 0)] [] [(0,ro 0 3 1 0 (rf e_i64 ([]:List Int)))] o0 ?_;obtain⟨o13,h14,hm⟩:=qA hm;refine zC (nd Tryz.f14 244) 0 (by kernel_rfl) FUEL (λo=>qAV o) o13 (q_hl (MB a1 ([]:List Int) 0 0) (qG2 E a1 FUEL ([]:List Int) 0 0 o13 rfl h14)) ?_;obtain⟨v15,h16,hm⟩:=qA hm;obtain⟨g17,hm⟩:=qE hm
  refine s_wu [qd 1 (dex (cen [(0,0)] [0] 0 1 (qAg o13 v15) (qAr o13 v15) [28] [0])) (wG (K:=(kx E 32 0)) ⟨[(28,vo 0 0 1 o13.length)],[(0,ro 0 3 1 o13.length (rf e_i64 o13))]⟩ (opAt (rg Tryz.f14 62) 1) [(0,0)] [0] 0 o0 rfl (qFI o13 v15 h16) (.inl rfl) (by kernel_rfl))] [.len 0 o13.length] (o1 (And.intro (And.intro (Eq.refl o13.length) (Eq.refl o13.length)) (And.intro (of_beq g17) (Eq.refl o13.length)))) 1 [] [] [0] [(0,ro 0 3 1 o13.length (rf e_i64 v15))] ?_;obtain⟨v18,h19,hm⟩:=qA hm
  refine s_vn [qd 1 (dpr [.len 0 v15.length] (dex (cen [(0,0)] [0] 0 1 (YD v15 v18) (YS v15 v18) [30] [0]))) (And.intro (And.intro (Eq.symm (show v15.length=o13.length from(of_beq g17))) (Eq.symm (show v15.length=o13.length from(of_beq g17)))) (Eq.symm (show v15.length=o13.length from(of_beq g17)))),qd 1 dN (wG (K:=(kx E 32 0)) ⟨[(30,vo 0 0 1 v15.length)],[(0,ro 0 3 1 v15.length (rf e_i64 v15))]⟩ (opAt (rg Tryz.f14 126) 1) [(0,0)] [0] 0 o0 rfl (qDm v15 v18 h19) (.inl rfl) (by kernel_rfl))] 1 ⟨[(2,vo 0 0 1 v18.2.length)],[(0,ro 0 3 1 v18.2.length (rf e_i64 v18.2))]⟩ ?_;obtain rfl:=oi hm
  refine q_rt ?_;exact q_rm
def qQU (r:Line×(List (List (List Node)))):V:= .tup [.agg [ci r.1.Len,ci r.1.Kerf,ci r.1.Pitch,.own 0 0 1 r.1.Sizes.length,.own 1 0 1 r.1.Gain.length,.own 2 0 1 r.1.Chip.length,.own 3 0 1 r.1.Dust.length],.one (.own 4 0 1 r.2.length)]
def qQY (r:Line×(List (List (List Node)))):List (Nat×(Nat×O)):=[(0,ro 0 3 1 r.1.Sizes.length (rf e_i64 r.1.Sizes)),(1,ro 0 28 1 r.1.Gain.length (rf (qF e_i64) r.1.Gain)),(2,ro 0 3 1 r.1.Chip.length (rf e_i64 r.1.Chip)),(3,ro 0 3 1 r.1.Dust.length (rf e_i64 r.1.Dust)),(4,ro 0 89 1 r.2.length (rf (qF (qF e_Node)) r.2))]
def KH (a1:List qB) (a2:List Defect) (a3:List Product) (a4:Rect) (a5:Saw) (a6:Rates) (v7:(List Int)) (l9:List (List (List Node))) (x10:Int) (l11:List (List Int)):St:=
 ⟨[(0,vc (tl qJ default a1)),(1,vc (tl qL default a2)),(2,vc (tl qC default a3)),(9,vp 0 0),(10,vp 1 0),(11,vp 2 0),(12,vp 3 0),(14,vi (w64 (a4.Y.B-a4.Y.A))),(15,vp 5 0),(16,vo 6 0 1 l9.length),(43,vo 4 0 1 v7.length),(44,vi ((v7.length:Nat):Int)),(45,vi x10)],[(0,bx 33 (qH a4)),(1,bx 38 (zD a5)),(2,bx 40 (zX a6)),(3,bx 84 [ci 0,ci 0,ci 0,.emp,.emp,.emp,.emp]),(4,ro 0 3 1 v7.length (rf e_i64 v7)),(5,bx 84 [ci (w64 (a4.Y.B-a4.Y.A)),ci a5.Kerf,ci 1,.own 4 0 1 v7.length,.own 7 0 1 l11.length,.emp,.emp]),(6,ro 0 89 1 l9.length (rf (qF (qF e_Node)) l9)),(7,ro 0 28 1 l11.length (rf (qF e_i64) l11))]⟩
def SV (v7:(List Int)):St:=
 ⟨[(12,vp 3 0),(15,vp 5 0)],[(3,bx 84 [ci 0,ci 0,ci 0,.emp,.emp,.emp,.emp]),(4,ro 0 3 1 v7.length (rf e_i64 v7))]⟩
def qEv (a1:List qB) (a2:List Defect) (a3:List Product) (a4:Rect) (a5:Saw) (a6:Rates) (v7:(List Int)) (l9:List (List (List Node))) (x10:Int) (l11:List (List Int)) (l14:List Int) (l15:List (List Node)) (x16:Int) (x30:Int) (l31:List Node) (l31n:Nat):St:=
 (KH a1 a2 a3 a4 a5 a6 v7 l9 x10 l11).up [] [(18,vi (v7.getD x10.toNat default)),(19,vo 8 0 1 l14.length),(20,vo 9 0 1 l15.length),(21,vi x16),(22,vi x30),(23,vo 10 0 2 l31n)] [] [(8,ro 0 3 1 l14.length (rf e_i64 l14)),(9,ro 0 44 1 l15.length (rf (qF e_Node) l15)),(10,ro 0 65 2 l31n (rf e_Node l31))]
def qMr (a1:List qB) (a2:List Defect) (a3:List Product) (a4:Rect) (a5:Saw) (a6:Rates) (v7:(List Int)) (l9:List (List (List Node))) (x10:Int) (l11:List (List Int)) (l14:List Int) (l15:List (List Node)) (x16:Int) (v22:(List Node)×Int×Int) (x27:Bool):St:=
 (KH a1 a2 a3 a4 a5 a6 v7 l9 x10 l11).up [] [(18,vi (v7.getD x10.toNat default)),(19,vo 8 0 1 l14.length),(20,vo 9 0 1 l15.length),(21,vi x16),(22,vi (-1)),(23,vc (.emp)),(24,vo 10 0 2 v22.1.length),(25,vi v22.2.1),(82,vb x27)] [] [(8,ro 0 3 1 l14.length (rf e_i64 l14)),(9,ro 0 44 1 l15.length (rf (qF e_Node) l15)),(10,ro 0 65 2 v22.1.length (rf e_Node v22.1))]
def IK (a1:List qB) (a2:List Defect) (a3:List Product) (a4:Rect) (a5:Saw) (a6:Rates) (v7:(List Int)) (l9:List (List (List Node))) (x10:Int) (l11:List (List Int)) (l14:List Int) (l14n:Nat) (l15:List (List Node)) (l15n:Nat) (x16:Int):St:=
 (KH a1 a2 a3 a4 a5 a6 v7 l9 x10 l11).up [] [(18,vi (v7.getD x10.toNat default)),(19,vo 8 0 1 l14n),(20,vo 9 0 1 l15n),(21,vi x16)] [] [(8,ro 0 3 1 l14n (rf e_i64 l14)),(9,ro 0 44 1 l15n (rf (qF e_Node) l15))]
def qD4 (a1:List qB) (a2:List Defect) (a3:List Product) (a4:Rect) (a5:Saw) (a6:Rates) (v7:(List Int)) (l9:List (List (List Node))) (x10:Int) (l11:List (List Int)) (l34:List Int) (l35:List (List Node)):St:=
 (KH a1 a2 a3 a4 a5 a6 v7 l9 x10 l11).up [] [(19,vo 8 0 1 l34.length),(20,vo 9 0 1 l35.length)] [] [(8,ro 0 3 1 l34.length (rf e_i64 l34)),(9,ro 0 44 1 l35.length (rf (qF e_Node) l35))]
def CA (a1:List qB) (a2:List Defect) (a3:List Product) (a4:Rect) (a5:Saw) (a6:Rates) (v7:(List Int)) (l9:List (List (List Node))) (l9n:Nat) (x10:Int) (l11:List (List Int)) (l11n:Nat):St:=
 (KH a1 a2 a3 a4 a5 a6 v7 l9 x10 l11).up [16] [(16,vo 6 0 1 l9n)] [5,6,7] [(5,bx 84 [ci (w64 (a4.Y.B-a4.Y.A)),ci a5.Kerf,ci 1,.own 4 0 1 v7.length,.own 7 0 1 l11n,.emp,.emp]),(6,ro 0 89 1 l9n (rf (qF (qF e_Node)) l9)),(7,ro 0 28 1 l11n (rf (qF e_i64) l11))]
def qDM (a1:List qB) (a4:Rect) (a5:Saw) (a6:Rates) (v7:(List Int)) (l40:List (List (List Node))) (l41:List (List Int)):St:=
 (SV v7).up [] [(0,vc (tl qJ default a1)),(9,vp 0 0),(11,vp 2 0),(14,vi (w64 (a4.Y.B-a4.Y.A))),(16,vo 6 0 1 l40.length)] [] [(0,bx 33 (qH a4)),(2,bx 40 (zX a6)),(5,bx 84 [ci (w64 (a4.Y.B-a4.Y.A)),ci a5.Kerf,ci 1,.own 4 0 1 v7.length,.own 7 0 1 l41.length,.emp,.emp]),(6,ro 0 89 1 l40.length (rf (qF (qF e_Node)) l40)),(7,ro 0 28 1 l41.length (rf (qF e_i64) l41))]
def OV (a1:List qB) (a4:Rect) (a5:Saw) (a6:Rates) (v7:(List Int)) (o42:(List (List (List Node)))×(List (List Int))) (x44:Int) (l45:List Int) (l45n:Nat) (l46:List Int) (l46n:Nat):St:=
 (SV v7).up [] [(0,vc (tl qJ default a1)),(9,vp 0 0),(11,vp 2 0),(16,vo 6 0 1 o42.1.length),(104,vi (w64 (a4.Y.B-a4.Y.A))),(105,vi x44)] [] [(0,bx 33 (qH a4)),(2,bx 40 (zX a6)),(5,bx 84 [ci (w64 (a4.Y.B-a4.Y.A)),ci a5.Kerf,ci 1,.own 4 0 1 v7.length,.own 7 0 1 o42.2.length,.own 8 0 1 l45n,.own 9 0 1 l46n]),(6,ro 0 89 1 o42.1.length (rf (qF (qF e_Node)) o42.1)),(7,ro 0 28 1 o42.2.length (rf (qF e_i64) o42.2)),(8,ro 0 3 1 l45n (rf e_i64 l45)),(9,ro 0 3 1 l46n (rf e_i64 l46))]
def qEm (a4:Rect) (a5:Saw) (v7:(List Int)) (o42:(List (List (List Node)))×(List (List Int))) (l54:List Int) (l55:List Int):St:=
 (SV v7).up [] [(16,vo 6 0 1 o42.1.length)] [] [(5,bx 84 [ci (w64 (a4.Y.B-a4.Y.A)),ci a5.Kerf,ci 1,.own 4 0 1 v7.length,.own 7 0 1 o42.2.length,.own 8 0 1 l54.length,.own 9 0 1 l55.length]),(6,ro 0 89 1 o42.1.length (rf (qF (qF e_Node)) o42.1)),(7,ro 0 28 1 o42.2.length (rf (qF e_i64) o42.2)),(8,ro 0 3 1 l54.length (rf e_i64 l54)),(9,ro 0 3 1 l55.length (rf e_i64 l55))]
theorem qLf (E:Env 0) (a1:List qB) (a2:List Defect) (a3:List Product) (a4:Rect) (a5:Saw) (a6:Rates) (v7:(List Int)) (l9:List (List (List Node))) (x10:Int) (l11:List (List Int)):∀(n:Nat) (l14:List Int) (l14n:Nat) (l15:List (List Node)) (l15n:Nat) (x16:Int) (res:(List Int)×(List (List Node))),l14.length=l14n->l15.length=l15n->jW a1 a2 a3 a4 a5 a6 v7 x10 n l14 l15 x16=some res->HL (kx E 136 0) (nd Tryz.f86 1025652) (zK 2 (λo=>qD4 a1 a2 a3 a4 a5 a6 v7 l9 x10 l11 o.1 o.2) res) n (IK a1 a2 a3 a4 a5 a6 v7 l9 x10 l11 l14 l14n l15 l15n x16):=by
 intro n
 induction n with
 |zero=>
  intro l14 l14n l15 l15n x16 res hl0 hl1 hm;cases hm
 |succ n ih=>
  intro l14 l14n l15 l15n x16 res hl0 hl1 hm;subst hl0;subst hl1;refine qK ?_;refine q_sq ?_;refine s_va 10 [(53,vb (decide ((w64 (x16+(v7.getD x10.toNat default)))<=(w64 (a4.Y.B-a4.Y.A)))))] ?_;refine q_cm hm (λb17 hm=>?_) (λb17 hm=>?_)
  ·refine q_sk ?_;refine q_sq ?_;refine q_bk 3 ?_;refine s_vv [] 10 [53] [(22,vi (-1))] ?_;refine s_va 10 [(23,vc (.emp))] ?_;refine q_jn (ι:=Int×(List Node)×Nat) (λp=>qEv a1 a2 a3 a4 a5 a6 v7 l9 x10 l11 l14 l15 x16 p.1 p.2.1 p.2.2) (λp=>p.2.1.length=p.2.2/\FU l14 l15 x16 (jW a1 a2 a3 a4 a5 a6 v7 x10 n) p.1 p.2.1=some res) ?_ ?_
   ·rintro⟨x30,l31,l31n⟩ ⟨el31,hm⟩;replace el31:l31.length=l31n:=el31;subst el31;show H _ (qEv a1 a2 a3 a4 a5 a6 v7 l9 x10 l11 l14 l15 x16 x30 l31 l31.length) _ _;obtain⟨g32,hm⟩:=qE hm;refine s_vu [qd 2 (drw 12 0 (rf e_i64 ([x30]:List Int))) (litP e_i64 default 1 (λ_=>rfl) ([x30]:List Int) 1 rfl),qd 3 (drw 8 1 (rf e_i64 (l14++([x30]:List Int)))) (apP e_i64 default l14 ([x30]:List Int) l14.length 1 1 8 (1<=1) (Nat.le_refl _) rfl rfl (λ_=>rfl) (qX g32))] 12 [19,22] [(19,vo 8 1 1 (l14.length+1))] [8] [(8,ro 1 3 1 (l14.length+1) (rf e_i64 (l14++([x30]:List Int))))] ?_;obtain⟨g33,hm⟩:=qE hm
    refine q_vu [qd 2 (dpr [.frz 10] (drw 13 0 (rf (qF e_Node) ([l31]:List (List Node))))) (And.intro (Nat.le_refl l31.length) (Nat.le_refl l31.length)),qd 2 dN (litP (qF e_Node) default 1 (λ_=>rfl) ([l31]:List (List Node)) 1 rfl),qd 3 (drw 9 1 (rf (qF e_Node) (l15++([l31]:List (List Node))))) (apP (qF e_Node) default l15 ([l31]:List (List Node)) l15.length 1 1 24 (1<=1) (Nat.le_refl _) rfl rfl (λ_=>rfl) (qX g33))] 13 [20,23] [(20,vo 9 1 1 (l15.length+1))] [9,10] [(9,ro 1 44 1 (l15.length+1) (rf (qF e_Node) (l15++([l31]:List (List Node)))))] ?_
    refine q_vv [] 14 [21] [(21,vi (w64 (x16+1)))] ?_;exact q_hl (IK a1 a2 a3 a4 a5 a6 v7 l9 x10 l11 (l14++([x30]:List Int)) (l14.length+1) (l15++([l31]:List (List Node))) (l15.length+1) (w64 (x16+1))) (ih (l14++([x30]:List Int)) (l14.length+1) (l15++([l31]:List (List Node))) (l15.length+1) (w64 (x16+1)) _ (len_app rfl rfl) (len_app rfl rfl) hm)
   ·obtain⟨g18,hm⟩:=qE hm;refine s_vv [qd 3 dN (HK g18)] 10 [] [(60,vb ((Int.tmod x16 a5.Pitch)==0))] ?_;refine q_cm hm (λb19 hm=>?_) (λb19 hm=>?_)
    ·obtain⟨v20,h21,hm⟩:=qA hm;obtain⟨v22,h23,hm⟩:=qA hm;refine s_du [qc 8 [65,66,69] 10 (qAM a4 x16 (w64 (x16+(v7.getD x10.toNat default))) v20 h21),qc 11 [62,63,64,70,71,72] 10 (qPr a1 a2 a3 v20 a5 a6 v22 h23)] [0,0,0,0,0,0,0,96,248,0,0,2047,4095,8191,8191,8191,16383,98303,262143] 10 [60] [(24,vo 10 0 2 v22.1.length),(25,vi v22.2.1),(26,vi v22.2.2)] [] [(10,ro 0 65 2 v22.1.length (rf e_Node v22.1))] ?_;refine q_jn (qMr a1 a2 a3 a4 a5 a6 v7 l9 x10 l11 l14 l15 x16 v22) (λp=>AD l14 l15 x16 (jW a1 a2 a3 a4 a5 a6 v7 x10 n) v22 p=some res) ?_ ?_
     ·rintro x27 hm;refine q_cm hm (λb28 hm=>?_) (λb28 hm=>?_)
      ·refine q_vv [] 11 [22,23,24,25,82] [(22,vi v22.2.1),(23,vo 10 0 2 v22.1.length)] ?_;exact q_J (v22.2.1,v22.1,v22.1.length) ⟨rfl,hm⟩
      ·refine q_fu [.swp 10 11] [24] [(24,vo 11 0 2 v22.1.length)] [10] [(11,ro 0 65 2 v22.1.length (rf e_Node v22.1))] o0 ?_;refine q_fu [.own 23 10 65 2 (rf e_Node ([]:List Node))] [23] [(23,vo 10 0 2 0)] [] [(10,ro 0 65 2 0 (rf e_Node ([]:List Node)))] o0 ?_;refine q_sk ?_;exact q_J ((-1),([]:List Node),0) ⟨rfl,hm⟩
     ·rcases bif_c hm with⟨b24,hm⟩|⟨b24,hm⟩
      ·obtain⟨v25,h26,hm⟩:=qA hm;refine q_vv [qf 2 b24,qd 4 (dex (cen [] [] 11 0 (qC9 v25) (BJ v25) [79,80] [10])) (wG (K:=(kx E 136 0)) (b:=false) ⟨[(79,vb true),(80,vo 10 0 2 v22.1.length)],[(10,ro 0 65 2 v22.1.length (rf e_Node v22.1))]⟩ (opAt (rg Tryz.f86 1050268266) 4) [] [] 11 (o1 (Nat.le_refl v22.1.length)) rfl (qJL v22.1 v25 h26) (.inr ⟨(by kernel_rfl),qKY v25⟩) (by kernel_rfl))] 11 [26] [(82,vb v25)] ?_;exact q_J (v25) hm
      ·refine q_vv [qf 2 b24] 11 [26] [(82,vb false)] ?_;exact q_J (false) hm
    ·refine q_fu [.own 23 10 65 2 (rf e_Node ([]:List Node))] [23] [(23,vo 10 0 2 0)] [] [(10,ro 0 65 2 0 (rf e_Node ([]:List Node)))] o0 ?_;refine q_sk ?_;exact q_J ((-1),([]:List Node),0) ⟨rfl,hm⟩
  ·refine q_ex 2 ?_;obtain rfl:=oi hm;exact wB (by kernel_rfl) (by kernel_rfl)
theorem qKj (E:Env 0) (a1:List qB) (a2:List Defect) (a3:List Product) (a4:Rect) (a5:Saw) (a6:Rates) (v7:(List Int)):∀(n:Nat) (l9:List (List (List Node))) (l9n:Nat) (x10:Int) (l11:List (List Int)) (l11n:Nat) (res:(List (List (List Node)))×(List (List Int))),l9.length=l9n->l11.length=l11n->UV a1 a2 a3 a4 a5 a6 v7 n l9 x10 l11=some res->HL (kx E 136 0) (nd Tryz.f86 500) (zK 0 (λo=>qDM a1 a4 a5 a6 v7 o.1 o.2) res) n (CA a1 a2 a3 a4 a5 a6 v7 l9 l9n x10 l11 l11n):=by
 intro n
 induction n with
 |zero=>
  intro l9 l9n x10 l11 l11n res hl0 hl1 hm;cases hm
 |succ n ih=>
  intro l9 l9n x10 l11 l11n res hl0 hl1 hm;subst hl0;subst hl1;refine qK ?_;refine s_va 8 [(46,vb (decide (x10<((v7.length:Nat):Int))))] ?_;refine q_sq ?_;refine q_cm hm (λb12 hm=>?_) (λb12 hm=>?_)
  ·refine q_sk ?_;refine q_sq ?_;refine q_bk 1 ?_;obtain⟨g13,hm⟩:=qE hm;refine s_vv [qi 0 g13,qd 1 dN (toNat_lt (inb_of g13))] 8 [46] [(18,vi (v7.getD x10.toNat default))] ?_;refine s_va 8 [(19,vc (.emp))] ?_;refine s_va 8 [(20,vc (.emp))] ?_;refine q_sq ?_;refine s_va 8 [(21,vi 0)] ?_;refine q_fu [.own 19 8 3 1 (rf e_i64 ([]:List Int))] [19] [(19,vo 8 0 1 0)] [] [(8,ro 0 3 1 0 (rf e_i64 ([]:List Int)))] o0 ?_;refine q_fu [.own 20 9 44 1 (rf (qF e_Node) ([]:List (List Node)))] [20] [(20,vo 9 0 1 0)] [] [(9,ro 0 44 1 0 (rf (qF e_Node) ([]:List (List Node))))] o0 ?_;obtain⟨o36,h37,hm⟩:=qA hm
   refine zC (nd Tryz.f86 1025652) 2 (by kernel_rfl) FUEL (λo=>qD4 a1 a2 a3 a4 a5 a6 v7 l9 x10 l11 o.1 o.2) o36 (q_hl (IK a1 a2 a3 a4 a5 a6 v7 l9 x10 l11 ([]:List Int) 0 ([]:List (List Node)) 0 0) (qLf E a1 a2 a3 a4 a5 a6 v7 l9 x10 l11 FUEL ([]:List Int) 0 ([]:List (List Node)) 0 0 o36 rfl rfl h37)) ?_;obtain⟨g38,hm⟩:=qE hm
   refine s_vu [qd 3 (dpr [.frz 8] (drw 10 0 (rf (qF e_i64) ([o36.1]:List (List Int))))) (And.intro (Nat.le_refl o36.1.length) (Nat.le_refl o36.1.length)),qd 3 dN (litP (qF e_i64) default 1 (λ_=>rfl) ([o36.1]:List (List Int)) 1 rfl),qd 4 (drw 7 1 (rf (qF e_i64) (l11++([o36.1]:List (List Int))))) (apP (qF e_i64) default l11 ([o36.1]:List (List Int)) l11.length 1 1 24 (1<=1) (Nat.le_refl _) rfl rfl (λ_=>rfl) (qX g38))] 10 [19] [] [5,7,8] [(5,bx 84 [ci (w64 (a4.Y.B-a4.Y.A)),ci a5.Kerf,ci 1,.own 4 0 1 v7.length,.own 7 1 1 (l11.length+1),.emp,.emp]),(7,ro 1 28 1 (l11.length+1) (rf (qF e_i64) (l11++([o36.1]:List (List Int)))))] ?_
   obtain⟨g39,hm⟩:=qE hm
   refine q_vu [qd 2 (dpr [.frz 9] (drw 11 0 (rf (qF (qF e_Node)) ([o36.2]:List (List (List Node)))))) (And.intro (Nat.le_refl o36.2.length) (Nat.le_refl o36.2.length)),qd 2 dN (litP (qF (qF e_Node)) default 1 (λ_=>rfl) ([o36.2]:List (List (List Node))) 1 rfl),qd 3 (drw 6 1 (rf (qF (qF e_Node)) (l9++([o36.2]:List (List (List Node)))))) (apP (qF (qF e_Node)) default l9 ([o36.2]:List (List (List Node))) l9.length 1 1 24 (1<=1) (Nat.le_refl _) rfl rfl (λ_=>rfl) (qX g39))] 11 [16,20] [(16,vo 6 1 1 (l9.length+1))] [6,9] [(6,ro 1 89 1 (l9.length+1) (rf (qF (qF e_Node)) (l9++([o36.2]:List (List (List Node))))))] ?_
   refine q_vv [] 12 [45] [(45,vi (w64 (x10+1)))] ?_;exact q_hl (CA a1 a2 a3 a4 a5 a6 v7 (l9++([o36.2]:List (List (List Node)))) (l9.length+1) (w64 (x10+1)) (l11++([o36.1]:List (List Int))) (l11.length+1)) (ih (l9++([o36.2]:List (List (List Node)))) (l9.length+1) (w64 (x10+1)) (l11++([o36.1]:List (List Int))) (l11.length+1) _ (len_app rfl rfl) (len_app rfl rfl) hm)
  ·refine q_ex 0 ?_;obtain rfl:=oi hm;exact wB (by kernel_rfl) (by kernel_rfl)
theorem qKU (E:Env 0) (a1:List qB) (a4:Rect) (a5:Saw) (a6:Rates) (v7:(List Int)) (o42:(List (List (List Node)))×(List (List Int))):∀(n:Nat) (x44:Int) (l45:List Int) (l45n:Nat) (l46:List Int) (l46n:Nat) (res:(List Int)×(List Int)),l45.length=l45n->l46.length=l46n->UC a1 a4 a6 n x44 l45 l46=some res->HL (kx E 136 0) (nd Tryz.f86 1012) (zK 4 (λo=>qEm a4 a5 v7 o42 o.1 o.2) res) n (OV a1 a4 a5 a6 v7 o42 x44 l45 l45n l46 l46n):=by
 intro n
 induction n with
 |zero=>
  intro x44 l45 l45n l46 l46n res hl0 hl1 hm;cases hm
 |succ n ih=>
  intro x44 l45 l45n l46 l46n res hl0 hl1 hm;subst hl0;subst hl1;refine qK ?_;refine s_va 10 [(106,vb (decide (x44<(w64 (a4.Y.B-a4.Y.A)))))] ?_;refine q_sq ?_;refine q_cm hm (λb47 hm=>?_) (λb47 hm=>?_)
  ·refine q_sk ?_;refine q_sq ?_;refine q_bk 5 ?_;refine s_vv [] 10 [106] [(27,vi x44)] ?_;obtain⟨v48,h49,hm⟩:=qA hm;obtain⟨v50,h51,hm⟩:=qA hm;refine s_vv [qc 5 [109,110,112] 10 (qAM a4 x44 (w64 (x44+1)) v48 h49),qc 6 [108,113] 10 (qEt a1 v48 v50 h51)] 10 [27] [(28,vi v50)] ?_;obtain⟨g52,hm⟩:=qE hm
   refine s_vu [qd 6 (drw 10 0 (rf e_i64 ([w64 (a6.Chip*v50)]:List Int))) (litP e_i64 default 1 (λ_=>rfl) ([w64 (a6.Chip*v50)]:List Int) 1 rfl),qd 7 (drw 8 1 (rf e_i64 (l45++([w64 (a6.Chip*v50)]:List Int)))) (apP e_i64 default l45 ([w64 (a6.Chip*v50)]:List Int) l45.length 1 1 8 (1<=1) (Nat.le_refl _) rfl rfl (λ_=>rfl) (qX g52))] 10 [] [] [5,8] [(5,bx 84 [ci (w64 (a4.Y.B-a4.Y.A)),ci a5.Kerf,ci 1,.own 4 0 1 v7.length,.own 7 0 1 o42.2.length,.own 8 1 1 (l45.length+1),.own 9 0 1 l46.length]),(8,ro 1 3 1 (l45.length+1) (rf e_i64 (l45++([w64 (a6.Chip*v50)]:List Int))))] ?_;obtain⟨g53,hm⟩:=qE hm
   refine q_vu [qd 6 (drw 11 0 (rf e_i64 ([w64 (a6.Dust*v50)]:List Int))) (litP e_i64 default 1 (λ_=>rfl) ([w64 (a6.Dust*v50)]:List Int) 1 rfl),qd 7 (drw 9 1 (rf e_i64 (l46++([w64 (a6.Dust*v50)]:List Int)))) (apP e_i64 default l46 ([w64 (a6.Dust*v50)]:List Int) l46.length 1 1 8 (1<=1) (Nat.le_refl _) rfl rfl (λ_=>rfl) (qX g53))] 11 [28] [] [5,9] [(5,bx 84 [ci (w64 (a4.Y.B-a4.Y.A)),ci a5.Kerf,ci 1,.own 4 0 1 v7.length,.own 7 0 1 o42.2.length,.own 8 1 1 (l45.length+1),.own 9 1 1 (l46.length+1)]),(9,ro 1 3 1 (l46.length+1) (rf e_i64 (l46++([w64 (a6.Dust*v50)]:List Int))))] ?_
   refine q_vv [] 12 [105] [(105,vi (w64 (x44+1)))] ?_;exact q_hl (OV a1 a4 a5 a6 v7 o42 (w64 (x44+1)) (l45++([w64 (a6.Chip*v50)]:List Int)) (l45.length+1) (l46++([w64 (a6.Dust*v50)]:List Int)) (l46.length+1)) (ih (w64 (x44+1)) (l45++([w64 (a6.Chip*v50)]:List Int)) (l45.length+1) (l46++([w64 (a6.Dust*v50)]:List Int)) (l46.length+1) _ (len_app rfl rfl) (len_app rfl rfl) hm)
  ·refine q_ex 4 ?_;obtain rfl:=oi hm;exact wB (by kernel_rfl) (by kernel_rfl)
theorem qPH (a1:List qB) (a2:List Defect) (a3:List Product) (a4:Rect) (a5:Saw) (a6:Rates) (r:Line×(List (List (List Node)))) (hm:qAq a1 a2 a3 a4 a5 a6=some r):CtX Tryz.prog globs 86 0 0 [.one (tl qJ default a1),.one (tl qL default a2),.one (tl qC default a3),.agg (qH a4),.agg (zD a5),.agg (zX a6)] [] (qQU r) (qQY r):=by
 unfold qAq at hm;refine q_E Tryz.f86 136 λE=>?_;refine s_vn [] 0 ⟨[(0,vc (tl qJ default a1)),(1,vc (tl qL default a2)),(2,vc (tl qC default a3)),(9,vp 0 0),(10,vp 1 0),(11,vp 2 0),(12,vp 3 0)],[(0,bx 33 (qH a4)),(1,bx 38 (zD a5)),(2,bx 40 (zX a6)),(3,bx 84 [ci 0,ci 0,ci 0,.emp,.emp,.emp,.emp])]⟩ ?_;refine s_va 4 [(14,vi (w64 (a4.Y.B-a4.Y.A)))] ?_;obtain⟨v7,h8,hm⟩:=qA hm;refine s_du [qc 4 [39] 4 (ES a3 v7 h8)] [0,0,2,0,8,31,0,127] 4 [] [(15,vp 5 0)] [] [(4,ro 0 3 1 v7.length (rf e_i64 v7)),(5,bx 84 [ci (w64 (a4.Y.B-a4.Y.A)),ci a5.Kerf,ci 1,.own 4 0 1 v7.length,.emp,.emp,.emp])] ?_
 refine s_va 6 [(16,vc (.emp))] ?_;refine q_sq ?_;refine s_va 6 [(43,vo 4 0 1 v7.length),(44,vi ((v7.length:Nat):Int)),(45,vi 0)] ?_;refine q_fu [.own 16 6 89 1 (rf (qF (qF e_Node)) ([]:List (List (List Node))))] [16] [(16,vo 6 0 1 0)] [] [(6,ro 0 89 1 0 (rf (qF (qF e_Node)) ([]:List (List (List Node)))))] o0 ?_;refine q_fu [.ownB 5 4 7 28 1 (rf (qF e_i64) ([]:List (List Int)))] [] [] [5] [(5,bx 84 [ci (w64 (a4.Y.B-a4.Y.A)),ci a5.Kerf,ci 1,.own 4 0 1 v7.length,.own 7 0 1 0,.emp,.emp]),(7,ro 0 28 1 0 (rf (qF e_i64) ([]:List (List Int))))] o0 ?_;obtain⟨o42,h43,hm⟩:=qA hm
 refine zC (nd Tryz.f86 500) 0 (by kernel_rfl) FUEL (λo=>qDM a1 a4 a5 a6 v7 o.1 o.2) o42 (q_hl (CA a1 a2 a3 a4 a5 a6 v7 ([]:List (List (List Node))) 0 0 ([]:List (List Int)) 0) (qKj E a1 a2 a3 a4 a5 a6 v7 FUEL ([]:List (List (List Node))) 0 0 ([]:List (List Int)) 0 o42 rfl rfl h43)) ?_;refine q_sq ?_;refine s_vv [] 8 [14] [(104,vi (w64 (a4.Y.B-a4.Y.A))),(105,vi 0)] ?_
 refine q_fu [.ownB 5 5 8 3 1 (rf e_i64 ([]:List Int))] [] [] [5] [(5,bx 84 [ci (w64 (a4.Y.B-a4.Y.A)),ci a5.Kerf,ci 1,.own 4 0 1 v7.length,.own 7 0 1 o42.2.length,.own 8 0 1 0,.emp]),(8,ro 0 3 1 0 (rf e_i64 ([]:List Int)))] o0 ?_;refine q_fu [.ownB 5 6 9 3 1 (rf e_i64 ([]:List Int))] [] [] [5] [(5,bx 84 [ci (w64 (a4.Y.B-a4.Y.A)),ci a5.Kerf,ci 1,.own 4 0 1 v7.length,.own 7 0 1 o42.2.length,.own 8 0 1 0,.own 9 0 1 0]),(9,ro 0 3 1 0 (rf e_i64 ([]:List Int)))] o0 ?_;obtain⟨o56,h57,hm⟩:=qA hm
 refine zC (nd Tryz.f86 1012) 4 (by kernel_rfl) FUEL (λo=>qEm a4 a5 v7 o42 o.1 o.2) o56 (q_hl (OV a1 a4 a5 a6 v7 o42 0 ([]:List Int) 0 ([]:List Int) 0) (qKU E a1 a4 a5 a6 v7 o42 FUEL 0 ([]:List Int) 0 ([]:List Int) 0 o56 rfl rfl h57)) ?_;refine s_vu [] 10 [15,16] [(13,vo 6 0 1 o42.1.length)] [3,5] [(3,bx 84 [ci (w64 (a4.Y.B-a4.Y.A)),ci a5.Kerf,ci 1,.own 4 0 1 v7.length,.own 7 0 1 o42.2.length,.own 8 0 1 o56.1.length,.own 9 0 1 o56.2.length])] ?_;obtain rfl:=oi hm;refine qS 4 0 (by kernel_rfl) ?_;refine qS 7 1 (by kernel_rfl) ?_;refine qS 8 2 (by kernel_rfl) ?_
 refine qS 9 3 (by kernel_rfl) ?_;refine qS 6 4 (by kernel_rfl) ?_;refine q_rt ?_;exact q_rm
def qLW (r:Int):V:=vi r
def qMD (r:Int):List (Nat×(Nat×O)):=[]
def LZ (v2:qI) (x4:Int) (x5:Int):St:=
 ⟨[(3,vi x4),(8,vc (tl e_Span default v2.Rows)),(9,vi ((v2.Rows.length:Nat):Int)),(10,vi x5)],[]⟩
def qBk (x10:Int):St:=
 ⟨[(3,vi x10)],[]⟩
theorem qGS (E:Env 0) (v2:qI):∀(n:Nat) (x4:Int) (x5:Int) (res:Int),YO v2 n x4 x5=some res->HL (kx E 21 0) (nd Tryz.f71 116) (zK 0 (λo=>qBk o) res) n (LZ v2 x4 x5):=by
 intro n
 induction n with
 |zero=>
  intro x4 x5 res hm;cases hm
 |succ n ih=>
  intro x4 x5 res hm;refine qK ?_;refine s_va 1 [(11,vb (decide (x5<((v2.Rows.length:Nat):Int))))] ?_;refine q_sq ?_;refine q_cm hm (λb6 hm=>?_) (λb6 hm=>?_)
  ·refine q_sk ?_;refine q_sq ?_;refine q_bk 1 ?_;obtain⟨g7,hm⟩:=qE hm;refine s_vu [qi 0 g7] 1 [11] [(5,vp 1 0)] [] [(1,bx 31 [ci ((v2.Rows.getD x5.toNat default).A),ci ((v2.Rows.getD x5.toNat default).B)])] ?_;obtain⟨v8,h9,hm⟩:=qA hm;refine q_vu [qc 2 [15] 2 (CW (v2.Rows.getD x5.toNat default) v8 h9)] 2 [3,5] [(3,vi (w64 (x4+v8)))] [1] [] ?_;refine q_vv [] 2 [10] [(10,vi (w64 (x5+1)))] ?_;exact q_hl (LZ v2 (w64 (x4+v8)) (w64 (x5+1))) (ih (w64 (x4+v8)) (w64 (x5+1)) _ hm)
  ·refine q_ex 0 ?_;obtain rfl:=oi hm;exact wB (by kernel_rfl) (by kernel_rfl)
theorem qLc (a1:qI) (r:Int) (hm:NZ a1=some r):CtX Tryz.prog globs 71 0 0 [.agg (wF a1)] [] (qLW r) (qMD r):=by
 unfold NZ at hm;refine q_E Tryz.f71 21 λE=>?_;refine s_vn [] 0 ⟨[(1,vp 0 0)],[(0,bx 70 (wF a1))]⟩ ?_;refine s_va 1 [(3,vi 0)] ?_;refine q_sq ?_;obtain⟨v2,h3,hm⟩:=qA hm;refine s_vu [qc 1 [6] 1 (SJ a1 v2 h3)] 1 [1] [(8,vc (tl e_Span default v2.Rows)),(9,vi ((v2.Rows.length:Nat):Int)),(10,vi 0)] [0] [] ?_;obtain⟨o11,h12,hm⟩:=qA hm;refine zC (nd Tryz.f71 116) 0 (by kernel_rfl) FUEL (λo=>qBk o) o11 (q_hl (LZ v2 0 0) (qGS E v2 FUEL 0 0 o11 h12)) ?_;refine s_vn [] 1 ⟨[(2,vi (w64 (10*o11)))],[]⟩ ?_;obtain rfl:=oi hm;refine q_rt ?_;exact q_rm
def qLM (r:Int):V:=vi r
def qMA (r:Int):List (Nat×(Nat×O)):=[]
def MU (v2:(List qB)) (x4:Int) (x5:Int):St:=
 ⟨[(3,vi x4),(7,vc (tl qJ default v2)),(8,vi ((v2.length:Nat):Int)),(9,vi x5)],[]⟩
def qBd (x10:Int):St:=
 ⟨[(3,vi x10)],[]⟩
theorem qGy (E:Env 0) (v2:(List qB)):∀(n:Nat) (x4:Int) (x5:Int) (res:Int),YM v2 n x4 x5=some res->HL (kx E 23 0) (nd Tryz.f28 116) (zK 0 (λo=>qBd o) res) n (MU v2 x4 x5):=by
 intro n
 induction n with
 |zero=>
  intro x4 x5 res hm;cases hm
 |succ n ih=>
  intro x4 x5 res hm;refine qK ?_;refine s_va 0 [(10,vb (decide (x5<((v2.length:Nat):Int))))] ?_;refine q_sq ?_;refine q_cm hm (λb6 hm=>?_) (λb6 hm=>?_)
  ·refine q_sk ?_;refine q_sq ?_;refine q_bk 1 ?_;obtain⟨g7,hm⟩:=qE hm;refine s_vu [qi 0 g7] 0 [10] [(5,vp 0 0)] [] [(0,bx 72 [ci ((v2.getD x5.toNat default).Len),ci (((v2.getD x5.toNat default).Sec).Low),tl e_Span default (((v2.getD x5.toNat default).Sec).Rows)])] ?_;obtain⟨v8,h9,hm⟩:=qA hm;refine q_du [qc 5 [17] 1 (qLc ((v2.getD x5.toNat default).Sec) v8 h9)] [0,0,2,0,8,24,62,127,255] 1 [3,5] [(3,vi (w64 (x4+(w64 (((v2.getD x5.toNat default).Len)*v8)))))] [0] [] ?_;refine q_vv [] 1 [9] [(9,vi (w64 (x5+1)))] ?_
   exact q_hl (MU v2 (w64 (x4+(w64 (((v2.getD x5.toNat default).Len)*v8)))) (w64 (x5+1))) (ih (w64 (x4+(w64 (((v2.getD x5.toNat default).Len)*v8)))) (w64 (x5+1)) _ hm)
  ·refine q_ex 0 ?_;obtain rfl:=oi hm;exact wB (by kernel_rfl) (by kernel_rfl)
theorem qK6 (a1:List qB) (r:Int) (hm:TZ a1=some r):CtX Tryz.prog globs 28 0 0 [.one (tl qJ default a1)] [] (qLM r) (qMA r):=by
 unfold TZ at hm;refine q_E Tryz.f28 23 λE=>?_;refine s_vn [] 0 ⟨[(0,vc (tl qJ default a1))],[]⟩ ?_;refine s_va 0 [(3,vi 0)] ?_;refine q_sq ?_;obtain⟨v2,h3,hm⟩:=qA hm;refine s_vv [qc 1 [6] 0 (LF a1 v2 h3)] 0 [0] [(7,vc (tl qJ default v2)),(8,vi ((v2.length:Nat):Int)),(9,vi 0)] ?_;obtain⟨o11,h12,hm⟩:=qA hm;refine zC (nd Tryz.f28 116) 0 (by kernel_rfl) FUEL (λo=>qBd o) o11 (q_hl (MU v2 0 0) (qGy E v2 FUEL 0 0 o11 h12)) ?_;refine s_vn [] 0 ⟨[(2,vi o11)],[]⟩ ?_;obtain rfl:=oi hm;refine q_rt ?_;exact q_rm
def qQ6 (r:Pattern×Int×Int):V:= .tup [.agg [ci r.1.Frame.X.A,ci r.1.Frame.X.B,ci r.1.Frame.Y.A,ci r.1.Frame.Y.B,.own 0 0 2 r.1.Nodes.length],.one (ci r.2.1),.one (ci r.2.2)]
def qQK (r:Pattern×Int×Int):List (Nat×(Nat×O)):=[(0,ro 0 65 2 r.1.Nodes.length (rf e_Node r.1.Nodes))]
def zbQ (a1:List qB) (a4:Rect) (a5:Saw) (a6:Rates) (v10:Line×(List (List (List Node)))) (v12:(List Piece)×Int×Int) (l15:List Span) (l15n:Nat) (l16:List (List Node)) (l16n:Nat) (x17:Int):St:=
 ⟨[(0,vc (tl qJ default a1)),(9,vp 0 0),(10,vp 1 0),(11,vp 2 0),(12,vp 3 0),(16,vp 9 0),(17,vo 8 0 1 v10.2.length),(19,vi v12.2.1),(21,vo 11 0 2 l15n),(22,vo 12 0 1 l16n),(57,vo 10 0 2 v12.1.length),(58,vi ((v12.1.length:Nat):Int)),(59,vi x17)],[(0,bx 33 (qH a4)),(1,bx 38 (zD a5)),(2,bx 40 (zX a6)),(3,bx 46 [ci 0,ci 0,ci 0,ci 0,.emp]),(4,ro 0 3 1 v10.1.Sizes.length (rf e_i64 v10.1.Sizes)),(5,ro 0 28 1 v10.1.Gain.length (rf (qF e_i64) v10.1.Gain)),(6,ro 0 3 1 v10.1.Chip.length (rf e_i64 v10.1.Chip)),(7,ro 0 3 1 v10.1.Dust.length (rf e_i64 v10.1.Dust)),(8,ro 0 89 1 v10.2.length (rf (qF (qF e_Node)) v10.2)),(9,bx 84 [ci v10.1.Len,ci v10.1.Kerf,ci v10.1.Pitch,.own 4 0 1 v10.1.Sizes.length,.own 5 0 1 v10.1.Gain.length,.own 6 0 1 v10.1.Chip.length,.own 7 0 1 v10.1.Dust.length]),(10,ro 0 92 2 v12.1.length (rf yI v12.1)),(11,ro 0 31 2 l15n (rf e_Span l15)),(12,ro 0 44 1 l16n (rf (qF e_Node) l16))]⟩
def qDI (a1:List qB) (a4:Rect) (a5:Saw) (a6:Rates) (v12:(List Piece)×Int×Int) (l28:List Span) (l29:List (List Node)):St:=
 ⟨[(0,vc (tl qJ default a1)),(9,vp 0 0),(10,vp 1 0),(11,vp 2 0),(12,vp 3 0),(19,vi v12.2.1),(21,vo 11 0 2 l28.length),(22,vo 12 0 1 l29.length)],[(0,bx 33 (qH a4)),(1,bx 38 (zD a5)),(2,bx 40 (zX a6)),(3,bx 46 [ci 0,ci 0,ci 0,ci 0,.emp]),(11,ro 0 31 2 l28.length (rf e_Span l28)),(12,ro 0 44 1 l29.length (rf (qF e_Node) l29))]⟩
theorem qKG (E:Env 0) (a1:List qB) (a4:Rect) (a5:Saw) (a6:Rates) (v10:Line×(List (List (List Node)))) (v12:(List Piece)×Int×Int):∀(n:Nat) (l15:List Span) (l15n:Nat) (l16:List (List Node)) (l16n:Nat) (x17:Int) (res:(List Span)×(List (List Node))),l15.length=l15n->l16.length=l16n->UA a4 v10 v12 n l15 l16 x17=some res->HL (kx E 119 0) (nd Tryz.f41 4084) (zK 0 (λo=>qDI a1 a4 a5 a6 v12 o.1 o.2) res) n (zbQ a1 a4 a5 a6 v10 v12 l15 l15n l16 l16n x17):=by
 intro n
 induction n with
 |zero=>
  intro l15 l15n l16 l16n x17 res hl0 hl1 hm;cases hm
 |succ n ih=>
  intro l15 l15n l16 l16n x17 res hl0 hl1 hm;subst hl0;subst hl1;refine qK ?_;refine s_va 13 [(60,vb (decide (x17<((v12.1.length:Nat):Int))))] ?_;refine q_sq ?_;refine q_cm hm (λb18 hm=>?_) (λb18 hm=>?_)
  ·refine q_sk ?_;refine q_sq ?_;refine q_bk 1 ?_;obtain⟨g19,hm⟩:=qE hm;refine s_vu [qi 0 g19,qd 1 dN (toNat_lt (inb_of g19))] 13 [60] [(24,vp 13 0)] [] [(13,bx 92 [ci ((v12.1.getD x17.toNat default).Size),ci ((v12.1.getD x17.toNat default).At)])] ?_;obtain⟨g20,hm⟩:=qE hm;obtain⟨v21,h22,hm⟩:=qA hm;obtain⟨g23,hm⟩:=qE hm
   refine s_du [qi 10 g20,qd 11 dN (toNat_lt (inb_of g20)),qc 13 [64,66,75] 14 (qAM a4 ((v12.1.getD x17.toNat default).At) (w64 (((v12.1.getD x17.toNat default).At)+(v10.1.Sizes.getD (((v12.1.getD x17.toNat default).Size).toNat) default))) v21 h22),qd 15 (drw 14 0 (rf e_Span ([v21.Y]:List Span))) (litP e_Span default 2 (λ_=>rfl) ([v21.Y]:List Span) 1 rfl),qd 16 (drw 11 1 (rf e_Span (l15++([v21.Y]:List Span)))) (apP e_Span default l15 ([v21.Y]:List Span) l15.length 1 2 16 (1<=1) (Nat.le_refl _) rfl rfl (λ_=>rfl) (qX g23))] [0,0,0,4,0,16,0,64,0,256,960,1984,4080,8190,16382,32766,65535,131071] 14 [21] [(21,vo 11 1 2 (l15.length+1))] [11] [(11,ro 1 31 2 (l15.length+1) (rf e_Span (l15++([v21.Y]:List Span))))] ?_
   obtain⟨g24,hm⟩:=qE hm;obtain⟨g25,hm⟩:=qE hm;obtain⟨v26,h27,hm⟩:=qA hm
   refine q_du [qi 4 g24,qd 5 dN (toNat_lt (inb_of g24)),qi 8 g25,qd 10 (dex (cen [(12,0)] [1] 14 0 (qA4 ((v10.2.getD (((v12.1.getD x17.toNat default).Size).toNat) default).getD ((v12.1.getD x17.toNat default).At).toNat default) l16 v26) (plan_collect_s1_o ((v10.2.getD (((v12.1.getD x17.toNat default).Size).toNat) default).getD ((v12.1.getD x17.toNat default).At).toNat default) l16 v26) [80,89] [12])) (wG (K:=(kx E 119 0)) ⟨[(80,vo 12 0 1 l16.length),(89,vc (tl e_Node default ((v10.2.getD (((v12.1.getD x17.toNat default).Size).toNat) default).getD ((v12.1.getD x17.toNat default).At).toNat default)))],[(12,ro 0 44 1 l16.length (rf (qF e_Node) l16))]⟩ (opAt (rg Tryz.f41 261427) 10) [(12,0)] [1] 14 o0 rfl (qFW ((v10.2.getD (((v12.1.getD x17.toNat default).Size).toNat) default).getD ((v12.1.getD x17.toNat default).At).toNat default) l16 v26 h27) (.inl rfl) (by kernel_rfl))] [0,0,0,4,14,30,0,64,254,510,1023,2047] 15 [22,24] [(22,vo 12 1 1 v26.2.length)] [12,13] [(12,ro 1 44 1 v26.2.length (rf (qF e_Node) v26.2))] ?_
   refine q_vv [] 15 [59] [(59,vi (w64 (x17+1)))] ?_;exact q_hl (zbQ a1 a4 a5 a6 v10 v12 (l15++([v21.Y]:List Span)) (l15.length+1) v26.2 v26.2.length (w64 (x17+1))) (ih (l15++([v21.Y]:List Span)) (l15.length+1) v26.2 v26.2.length (w64 (x17+1)) _ (len_app rfl rfl) rfl hm)
  ·refine q_ex 0 ?_;obtain rfl:=oi hm;exact wB (by kernel_rfl) (by kernel_rfl)
theorem qQe (a1:List qB) (a2:List Defect) (a3:List Product) (a4:Rect) (a5:Saw) (a6:Rates) (r:Pattern×Int×Int) (hm:UZ a1 a2 a3 a4 a5 a6=some r):CtX Tryz.prog globs 41 0 0 [.one (tl qJ default a1),.one (tl qL default a2),.one (tl qC default a3),.agg (qH a4),.agg (zD a5),.agg (zX a6)] [] (qQ6 r) (qQK r):=by
 unfold UZ at hm;refine q_E Tryz.f41 119 λE=>?_;refine s_vn [] 0 ⟨[(0,vc (tl qJ default a1)),(1,vc (tl qL default a2)),(2,vc (tl qC default a3)),(9,vp 0 0),(10,vp 1 0),(11,vp 2 0),(12,vp 3 0)],[(0,bx 33 (qH a4)),(1,bx 38 (zD a5)),(2,bx 40 (zX a6)),(3,bx 46 [ci 0,ci 0,ci 0,ci 0,.emp])]⟩ ?_;refine q_sq ?_;obtain⟨v7,h8,hm⟩:=qA hm;refine s_vv [qc 6 [26,27,28,29,30,31] 4 (qOc a1 a2 a3 a4 a5 a6 v7 h8)] 4 [] [(15,vi v7)] ?_;refine s_va 4 [(34,vb (v7 !=0))] ?_;refine q_cm hm (λb9 hm=>?_) (λb9 hm=>?_)
 ·refine s_vu [] 4 [0,1,2,9,10,11,15,34] [(13,vi 0),(14,vi v7)] [0,1,2] [] ?_;refine q_fu [.ownB 3 4 4 65 2 (rf e_Node ([]:List Node))] [] [] [3] [(3,bx 46 [ci 0,ci 0,ci 0,ci 0,.own 4 0 2 0]),(4,ro 0 65 2 0 (rf e_Node ([]:List Node)))] o0 ?_;refine q_fu [.len 4 (([]:List Node).length)] [] [] [3,4] [(3,bx 46 [ci 0,ci 0,ci 0,ci 0,.own 4 0 2 (([]:List Node).length)]),(4,ro 0 65 2 (([]:List Node).length) (rf e_Node ([]:List Node)))] (o1 (And.intro (show 0=([]:List Node).length from rfl) (show 0=([]:List Node).length from rfl))) ?_;obtain rfl:=oi hm;refine qS 4 0 (by kernel_rfl) ?_;refine q_rt ?_
  exact q_rm
 ·refine q_sk ?_;obtain⟨v10,h11,hm⟩:=qA hm
  refine s_vu [qc 6 [38,39,40,41,42,43] 4 (qPH a1 a2 a3 a4 a5 a6 v10 h11)] 4 [1,2,15,34] [(16,vp 9 0),(17,vo 8 0 1 v10.2.length)] [] [(4,ro 0 3 1 v10.1.Sizes.length (rf e_i64 v10.1.Sizes)),(5,ro 0 28 1 v10.1.Gain.length (rf (qF e_i64) v10.1.Gain)),(6,ro 0 3 1 v10.1.Chip.length (rf e_i64 v10.1.Chip)),(7,ro 0 3 1 v10.1.Dust.length (rf e_i64 v10.1.Dust)),(8,ro 0 89 1 v10.2.length (rf (qF (qF e_Node)) v10.2)),(9,bx 84 [ci v10.1.Len,ci v10.1.Kerf,ci v10.1.Pitch,.own 4 0 1 v10.1.Sizes.length,.own 5 0 1 v10.1.Gain.length,.own 6 0 1 v10.1.Chip.length,.own 7 0 1 v10.1.Dust.length])] ?_
  obtain⟨v12,h13,hm⟩:=qA hm
  refine s_vu [qd 1 (dex (cen [] [] 10 0 (IL v12) (TV v12) [48] [4,5,6,7])) (wG (K:=(kx E 119 0)) (b:=false) ⟨[(48,va [ci v10.1.Len,ci v10.1.Kerf,ci v10.1.Pitch,.own 4 0 1 v10.1.Sizes.length,.own 5 0 1 v10.1.Gain.length,.own 6 0 1 v10.1.Chip.length,.own 7 0 1 v10.1.Dust.length])],[(4,ro 0 3 1 v10.1.Sizes.length (rf e_i64 v10.1.Sizes)),(5,ro 0 28 1 v10.1.Gain.length (rf (qF e_i64) v10.1.Gain)),(6,ro 0 3 1 v10.1.Chip.length (rf e_i64 v10.1.Chip)),(7,ro 0 3 1 v10.1.Dust.length (rf e_i64 v10.1.Dust))]⟩ (opAt (rg Tryz.f41 30) 1) [] [] 10 (o1 (And.intro (Nat.le_refl v10.1.Sizes.length) (And.intro (Nat.le_refl v10.1.Gain.length) (And.intro (Nat.le_refl v10.1.Chip.length) (Nat.le_refl v10.1.Dust.length))))) rfl (cutting_Best_ok (Line.mk v10.1.Len v10.1.Kerf v10.1.Pitch v10.1.Sizes v10.1.Gain v10.1.Chip v10.1.Dust) v12 h13) (.inr ⟨(by kernel_rfl),qEb v12⟩) (by kernel_rfl))] 10 [] [(18,vo 10 0 2 v12.1.length),(19,vi v12.2.1),(20,vi v12.2.2)] [] [(10,ro 0 92 2 v12.1.length (rf yI v12.1))] ?_
  refine q_sq ?_;refine s_va 11 [(54,vb (v12.2.2 !=0))] ?_;refine q_cm hm (λb14 hm=>?_) (λb14 hm=>?_)
  ·refine s_vn [] 11 ⟨[(12,vp 3 0),(13,vi 0),(14,vi v12.2.2)],[(3,bx 46 [ci 0,ci 0,ci 0,ci 0,.emp])]⟩ ?_;refine q_fu [.ownB 3 4 11 65 2 (rf e_Node ([]:List Node))] [] [] [3] [(3,bx 46 [ci 0,ci 0,ci 0,ci 0,.own 11 0 2 0]),(11,ro 0 65 2 0 (rf e_Node ([]:List Node)))] o0 ?_;refine q_fu [.len 11 (([]:List Node).length)] [] [] [3,11] [(3,bx 46 [ci 0,ci 0,ci 0,ci 0,.own 11 0 2 (([]:List Node).length)]),(11,ro 0 65 2 (([]:List Node).length) (rf e_Node ([]:List Node)))] (o1 (And.intro (show 0=([]:List Node).length from rfl) (show 0=([]:List Node).length from rfl))) ?_;obtain rfl:=oi hm
   refine qS 11 0 (by kernel_rfl) ?_;refine q_rt ?_;exact q_rm
  ·refine q_sk ?_;refine s_vv [] 11 [20,54] [(21,vc (.emp))] ?_;refine s_va 11 [(22,vc (.emp))] ?_;refine q_sq ?_;refine s_vv [] 11 [18] [(57,vo 10 0 2 v12.1.length),(58,vi ((v12.1.length:Nat):Int)),(59,vi 0)] ?_;refine q_fu [.own 21 11 31 2 (rf e_Span ([]:List Span))] [21] [(21,vo 11 0 2 0)] [] [(11,ro 0 31 2 0 (rf e_Span ([]:List Span)))] o0 ?_;refine q_fu [.own 22 12 44 1 (rf (qF e_Node) ([]:List (List Node)))] [22] [(22,vo 12 0 1 0)] [] [(12,ro 0 44 1 0 (rf (qF e_Node) ([]:List (List Node))))] o0 ?_;obtain⟨o30,h31,hm⟩:=qA hm
   refine zC (nd Tryz.f41 4084) 0 (by kernel_rfl) FUEL (λo=>qDI a1 a4 a5 a6 v12 o.1 o.2) o30 (q_hl (zbQ a1 a4 a5 a6 v10 v12 ([]:List Span) 0 ([]:List (List Node)) 0 0) (qKG E a1 a4 a5 a6 v10 v12 FUEL ([]:List Span) 0 ([]:List (List Node)) 0 0 o30 rfl rfl h31)) ?_;obtain⟨v32,h33,hm⟩:=qA hm
   refine s_vu [qd 5 (dex (cen [] [] 13 0 (PK v32) (WE v32) [93,95,96,97] [11,12])) (wG (K:=(kx E 119 0)) (b:=false) ⟨[(93,va (qH a4)),(95,vi a5.Kerf),(96,vo 11 0 2 o30.1.length),(97,vo 12 0 1 o30.2.length)],[(11,ro 0 31 2 o30.1.length (rf e_Span o30.1)),(12,ro 0 44 1 o30.2.length (rf (qF e_Node) o30.2))]⟩ (opAt (rg Tryz.f41 1022) 5) [] [] 13 (o1 (And.intro (Nat.le_refl o30.1.length) (Nat.le_refl o30.2.length))) rfl (pattern_Row_ok a4 3 a5.Kerf o30.1 o30.2 v32 h33) (.inr ⟨(by kernel_rfl),qAN v32⟩) (by kernel_rfl))] 13 [10,21,22] [(20,vi v32.2),(25,vo 13 0 2 v32.1.length)] [1,11,12] [(13,ro 0 65 2 v32.1.length (rf e_Node v32.1))] ?_
   refine q_sq ?_;refine s_vv [] 14 [20] [(102,vb (v32.2 !=0))] ?_;refine q_cm hm (λb34 hm=>?_) (λb34 hm=>?_)
   ·refine s_vu [] 14 [0,9,11,19,25,102] [(13,vi 0),(14,vi 13)] [0,2,13] [] ?_;refine q_fu [.ownB 3 4 14 65 2 (rf e_Node ([]:List Node))] [] [] [3] [(3,bx 46 [ci 0,ci 0,ci 0,ci 0,.own 14 0 2 0]),(14,ro 0 65 2 0 (rf e_Node ([]:List Node)))] o0 ?_;refine q_fu [.len 14 (([]:List Node).length)] [] [] [3,14] [(3,bx 46 [ci 0,ci 0,ci 0,ci 0,.own 14 0 2 (([]:List Node).length)]),(14,ro 0 65 2 (([]:List Node).length) (rf e_Node ([]:List Node)))] (o1 (And.intro (show 0=([]:List Node).length from rfl) (show 0=([]:List Node).length from rfl))) ?_;obtain rfl:=oi hm;refine qS 14 0 (by kernel_rfl) ?_
    refine q_rt ?_;exact q_rm
   ·refine q_sk ?_;obtain⟨v35,h36,hm⟩:=qA hm;obtain⟨v37,h38,hm⟩:=qA hm;refine s_du [qc 4 [107] 14 (qK6 a1 v35 h36),qc 7 [109,110] 14 (qEt a1 a4 v37 h38)] [0,0,2,0,8,0,0,120,248,510,1023,2047] 14 [0,11,19,102] [(19,vi (w64 (v12.2.1+(w64 (a6.Chip*(w64 (v35-v37)))))))] [2] [] ?_;refine s_vu [] 14 [9,19,25] [(13,vi (w64 (v12.2.1+(w64 (a6.Chip*(w64 (v35-v37))))))),(14,vi 0)] [0,3] [(3,bx 46 [ci a4.X.A,ci a4.X.B,ci a4.Y.A,ci a4.Y.B,.own 13 0 2 v32.1.length])] ?_;obtain rfl:=oi hm;refine qS 13 0 (by kernel_rfl) ?_;refine q_rt ?_;exact q_rm
def qJw (r:Rect):V:=va (qH r)
def qIJ (r:Rect):List (Nat×(Nat×O)):=[]
def EB (v2:qI) (x6:Int):St:=
 ⟨[(1,vp 0 0),(2,vp 1 0),(3,vp 2 0),(18,vc (tl e_Span default v2.Rows)),(19,vi ((v2.Rows.length:Nat):Int)),(20,vi x6)],[(0,bx 70 (wF v2)),(1,bx 33 [ci 0,ci 0,ci 0,ci 0])]⟩
def qFH (v2:qI) (x6:Int) (x13:Span):St:=
 (EB v2 x6).up [] [] [] [(2,bx 31 (e_Span x13))]
def DX (v2:qI) (x6:Int) (x7:Span):St:=
 (EB v2 x6).up [] [] [] [(2,bx 31 (e_Span x7))]
def II (v2:qI) (x14:Span):St:=
 ⟨[(1,vp 0 0),(2,vp 1 0),(3,vp 2 0)],[(0,bx 70 (wF v2)),(1,bx 33 [ci 0,ci 0,ci 0,ci 0]),(2,bx 31 (e_Span x14))]⟩
theorem section_Bounds_L1_ok (E:Env 0) (v2:qI):∀(n:Nat) (x6:Int) (x7:Span) (res:Span),XB v2 n x6 x7=some res->HL (kx E 50 0) (nd Tryz.f82 500) (zK 0 (λo=>II v2 o) res) n (DX v2 x6 x7):=by
 intro n
 induction n with
 |zero=>
  intro x6 x7 res hm;cases hm
 |succ n ih=>
  intro x6 x7 res hm;refine qK ?_;refine s_va 3 [(21,vb (decide (x6<((v2.Rows.length:Nat):Int))))] ?_;refine q_sq ?_;refine q_cm hm (λb8 hm=>?_) (λb8 hm=>?_)
  ·refine q_sk ?_;refine q_jn (qFH v2 x6) (λp=>MS x6 (XB v2 n) p=some res) ?_ ?_
   ·rintro x13 hm;refine q_vv [] 4 [20] [(20,vi (w64 (x6+1)))] ?_;exact q_hl (DX v2 (w64 (x6+1)) x13) (ih (w64 (x6+1)) x13 _ hm)
   ·refine q_bk 1 ?_;obtain⟨g9,hm⟩:=qE hm;refine s_vu [qi 0 g9] 3 [21] [(5,vp 3 0)] [] [(3,bx 31 [ci ((v2.Rows.getD x6.toNat default).A),ci ((v2.Rows.getD x6.toNat default).B)])] ?_;obtain⟨v10,h11,hm⟩:=qA hm;refine s_vv [qc 1 [24] 4 (QM (v2.Rows.getD x6.toNat default) v10 h11)] 4 [] [(26,vb (!v10))] ?_;refine q_cm hm (λb12 hm=>?_) (λb12 hm=>?_)
    ·refine q_vu [] 4 [5,26] [] [2,3] [(2,bx 31 [ci (imin x7.A ((v2.Rows.getD x6.toNat default).A)),ci (imax x7.B ((v2.Rows.getD x6.toNat default).B))])] ?_;exact q_J ((Span.mk (imin x7.A ((v2.Rows.getD x6.toNat default).A)) (imax x7.B ((v2.Rows.getD x6.toNat default).B)))) hm
    ·refine q_sk ?_;exact q_J (x7) hm
  ·refine q_ex 0 ?_;obtain rfl:=oi hm;exact wB (by kernel_rfl) (by kernel_rfl)
theorem qIe (a1:qI) (r:Rect) (hm:CE a1=some r):CtX Tryz.prog globs 82 0 0 [.agg (wF a1)] [] (qJw r) (qIJ r):=by
 unfold CE at hm;refine q_E Tryz.f82 50 λE=>?_;refine s_vn [] 0 ⟨[(1,vp 0 0),(2,vp 1 0)],[(0,bx 70 (wF a1)),(1,bx 33 [ci 0,ci 0,ci 0,ci 0])]⟩ ?_;obtain⟨v2,h3,hm⟩:=qA hm;refine s_vu [qc 1 [6] 2 (SJ a1 v2 h3)] 2 [] [] [0] [(0,bx 70 (wF v2))] ?_;refine q_sq ?_;refine s_va 2 [(11,vb (((v2.Rows.length:Nat):Int)==0))] ?_;refine q_cm hm (λb4 hm=>?_) (λb4 hm=>?_)
 ·refine s_vu [] 2 [1,11] [] [0] [] ?_;obtain rfl:=oi hm;refine q_rt ?_;exact q_rm
 ·refine q_sk ?_;obtain⟨g5,hm⟩:=qE hm;refine s_vu [qi 2 g5] 2 [11] [(3,vp 2 0)] [] [(2,bx 31 [ci ((v2.Rows.getD (0:Int).toNat default).A),ci ((v2.Rows.getD (0:Int).toNat default).B)])] ?_;refine q_sq ?_;refine s_va 3 [(18,vc (tl e_Span default v2.Rows)),(19,vi ((v2.Rows.length:Nat):Int)),(20,vi 0)] ?_;obtain⟨o15,h16,hm⟩:=qA hm;refine zC (nd Tryz.f82 500) 0 (by kernel_rfl) FUEL (λo=>II v2 o) o15 (q_hl (DX v2 0 (v2.Rows.getD (0:Int).toNat default)) (section_Bounds_L1_ok E v2 FUEL 0 (v2.Rows.getD (0:Int).toNat default) o15 h16)) ?_;obtain⟨v17,h18,hm⟩:=qA hm
  refine s_dn [qc 9 [41,47] 3 (qAb v2.Low (w64 (v2.Low+((v2.Rows.length:Nat):Int))) v17 h18)] [0,0,2,0,8,0,32,96,248,510,1023,2047] 3 ⟨[(2,vp 1 0)],[(1,bx 33 [ci o15.A,ci o15.B,ci v17.A,ci v17.B])]⟩ ?_;obtain rfl:=oi hm;refine q_rt ?_;exact q_rm
end Saw
end Go.SL

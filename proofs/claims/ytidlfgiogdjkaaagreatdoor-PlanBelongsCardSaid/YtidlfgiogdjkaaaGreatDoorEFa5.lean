import Derived.Test.YtidlfgiogdjkaaaGreatDoorEBase
import Derived.Test.YtidlfgiogdjkaaaGreatDoorEFa2
import Derived.Test.YtidlfgiogdjkaaaGreatDoorEFa4
import Derived.Test.YtidlfgiogdjkaaaGreatDoorEFa1
set_option linter.unusedVariables false
set_option linter.unusedSimpArgs false
namespace Go.SL
namespace Saw
open Go.Proofs
set_option maxHeartbeats 4000000
set_option maxRecDepth 100000
def qOf (r:Line×Int):V:= .tup [.agg [ci r.1.Len,ci r.1.Kerf,ci r.1.Pitch,.own 0 0 1 r.1.Sizes.length,.own 1 0 1 r.1.Gain.length,.own 2 0 1 r.1.Chip.length,.own 3 0 1 r.1.Dust.length],.one (ci r.2)]
def qN2 (r:Line×Int):List (Nat×(Nat×O)):=[(0,ro 0 3 1 r.1.Sizes.length (rf e_i64 r.1.Sizes)),(1,ro 0 28 1 r.1.Gain.length (rf (qD e_i64) r.1.Gain)),(2,ro 0 3 1 r.1.Chip.length (rf e_i64 r.1.Chip)),(3,ro 0 3 1 r.1.Dust.length (rf e_i64 r.1.Dust))]
def qDp (a1:List qA) (a2:List Defect) (a3:List Product) (a4:Rect) (a5:Saw) (a6:Rates) (v10:(List Int)×(List Int)) (x12:Int) (l13:List (List Int)) (l16:List Int) (x17:Int) (x27:Int):St:=
 ⟨[(0,vc (tl qG default a1)),(1,vc (tl qH default a2)),(2,vc (tl qC default a3)),(9,vp 0 0),(10,vp 1 0),(11,vp 2 0),(12,vp 3 0),(15,vi (w64 (a4.X.B-a4.X.A))),(17,vo 5 0 1 v10.2.length),(18,vp 6 0),(19,vi x12),(20,vi (v10.1.getD x12.toNat default)),(21,vo 8 0 1 l16.length),(22,vi x17),(23,vi x27),(62,vo 4 0 1 v10.1.length),(63,vi ((v10.1.length:Nat):Int)),(64,vi x12)],[(0,bx 33 (qE a4)),(1,bx 38 (qU a5)),(2,bx 40 (qR a6)),(3,bx 84 [ci 0,ci 0,ci 0,.emp,.emp,.emp,.emp]),(4,ro 0 3 1 v10.1.length (rf e_i64 v10.1)),(5,ro 0 3 1 v10.2.length (rf e_i64 v10.2)),(6,bx 84 [ci (w64 (a4.X.B-a4.X.A)),ci a5.Kerf,ci 1,.own 4 0 1 v10.1.length,.own 7 0 1 l13.length,.emp,.emp]),(7,ro 0 28 1 l13.length (rf (qD e_i64) l13)),(8,ro 0 3 1 l16.length (rf e_i64 l16))]⟩
def AU (a1:List qA) (a2:List Defect) (a3:List Product) (a4:Rect) (a5:Saw) (a6:Rates) (v10:(List Int)×(List Int)) (x12:Int) (l13:List (List Int)) (l16:List Int) (l16n:Nat) (x17:Int):St:=
 ⟨[(0,vc (tl qG default a1)),(1,vc (tl qH default a2)),(2,vc (tl qC default a3)),(9,vp 0 0),(10,vp 1 0),(11,vp 2 0),(12,vp 3 0),(15,vi (w64 (a4.X.B-a4.X.A))),(17,vo 5 0 1 v10.2.length),(18,vp 6 0),(19,vi x12),(20,vi (v10.1.getD x12.toNat default)),(21,vo 8 0 1 l16n),(22,vi x17),(62,vo 4 0 1 v10.1.length),(63,vi ((v10.1.length:Nat):Int)),(64,vi x12)],[(0,bx 33 (qE a4)),(1,bx 38 (qU a5)),(2,bx 40 (qR a6)),(3,bx 84 [ci 0,ci 0,ci 0,.emp,.emp,.emp,.emp]),(4,ro 0 3 1 v10.1.length (rf e_i64 v10.1)),(5,ro 0 3 1 v10.2.length (rf e_i64 v10.2)),(6,bx 84 [ci (w64 (a4.X.B-a4.X.A)),ci a5.Kerf,ci 1,.own 4 0 1 v10.1.length,.own 7 0 1 l13.length,.emp,.emp]),(7,ro 0 28 1 l13.length (rf (qD e_i64) l13)),(8,ro 0 3 1 l16n (rf e_i64 l16))]⟩
def qDB (a1:List qA) (a2:List Defect) (a3:List Product) (a4:Rect) (a5:Saw) (a6:Rates) (v10:(List Int)×(List Int)) (x12:Int) (l13:List (List Int)) (l29:List Int):St:=
 ⟨[(0,vc (tl qG default a1)),(1,vc (tl qH default a2)),(2,vc (tl qC default a3)),(9,vp 0 0),(10,vp 1 0),(11,vp 2 0),(12,vp 3 0),(15,vi (w64 (a4.X.B-a4.X.A))),(17,vo 5 0 1 v10.2.length),(18,vp 6 0),(21,vo 8 0 1 l29.length),(62,vo 4 0 1 v10.1.length),(63,vi ((v10.1.length:Nat):Int)),(64,vi x12)],[(0,bx 33 (qE a4)),(1,bx 38 (qU a5)),(2,bx 40 (qR a6)),(3,bx 84 [ci 0,ci 0,ci 0,.emp,.emp,.emp,.emp]),(4,ro 0 3 1 v10.1.length (rf e_i64 v10.1)),(5,ro 0 3 1 v10.2.length (rf e_i64 v10.2)),(6,bx 84 [ci (w64 (a4.X.B-a4.X.A)),ci a5.Kerf,ci 1,.own 4 0 1 v10.1.length,.own 7 0 1 l13.length,.emp,.emp]),(7,ro 0 28 1 l13.length (rf (qD e_i64) l13)),(8,ro 0 3 1 l29.length (rf e_i64 l29))]⟩
def EW (a1:List qA) (a2:List Defect) (a3:List Product) (a4:Rect) (a5:Saw) (a6:Rates) (v10:(List Int)×(List Int)) (x12:Int) (l13:List (List Int)) (l13n:Nat):St:=
 ⟨[(0,vc (tl qG default a1)),(1,vc (tl qH default a2)),(2,vc (tl qC default a3)),(9,vp 0 0),(10,vp 1 0),(11,vp 2 0),(12,vp 3 0),(15,vi (w64 (a4.X.B-a4.X.A))),(17,vo 5 0 1 v10.2.length),(18,vp 6 0),(62,vo 4 0 1 v10.1.length),(63,vi ((v10.1.length:Nat):Int)),(64,vi x12)],[(0,bx 33 (qE a4)),(1,bx 38 (qU a5)),(2,bx 40 (qR a6)),(3,bx 84 [ci 0,ci 0,ci 0,.emp,.emp,.emp,.emp]),(4,ro 0 3 1 v10.1.length (rf e_i64 v10.1)),(5,ro 0 3 1 v10.2.length (rf e_i64 v10.2)),(6,bx 84 [ci (w64 (a4.X.B-a4.X.A)),ci a5.Kerf,ci 1,.own 4 0 1 v10.1.length,.own 7 0 1 l13n,.emp,.emp]),(7,ro 0 28 1 l13n (rf (qD e_i64) l13))]⟩
def qDh (a1:List qA) (a4:Rect) (a5:Saw) (a6:Rates) (v10:(List Int)×(List Int)) (l33:List (List Int)):St:=
 ⟨[(0,vc (tl qG default a1)),(9,vp 0 0),(11,vp 2 0),(12,vp 3 0),(15,vi (w64 (a4.X.B-a4.X.A))),(18,vp 6 0)],[(0,bx 33 (qE a4)),(2,bx 40 (qR a6)),(3,bx 84 [ci 0,ci 0,ci 0,.emp,.emp,.emp,.emp]),(4,ro 0 3 1 v10.1.length (rf e_i64 v10.1)),(6,bx 84 [ci (w64 (a4.X.B-a4.X.A)),ci a5.Kerf,ci 1,.own 4 0 1 v10.1.length,.own 7 0 1 l33.length,.emp,.emp]),(7,ro 0 28 1 l33.length (rf (qD e_i64) l33))]⟩
def AM (a1:List qA) (a4:Rect) (a5:Saw) (a6:Rates) (v10:(List Int)×(List Int)) (o34:(List (List Int))) (v36:Int) (x38:Int) (l39:List Int) (l39n:Nat) (l40:List Int) (l40n:Nat):St:=
 ⟨[(0,vc (tl qG default a1)),(9,vp 0 0),(11,vp 2 0),(12,vp 3 0),(18,vp 6 0),(24,vp 8 0),(113,vi (w64 (a4.X.B-a4.X.A))),(114,vi x38)],[(0,bx 33 (qE a4)),(2,bx 40 (qR a6)),(3,bx 84 [ci 0,ci 0,ci 0,.emp,.emp,.emp,.emp]),(4,ro 0 3 1 v10.1.length (rf e_i64 v10.1)),(6,bx 84 [ci (w64 (a4.X.B-a4.X.A)),ci a5.Kerf,ci 1,.own 4 0 1 v10.1.length,.own 7 0 1 o34.length,.own 9 0 1 l39n,.own 10 0 1 l40n]),(7,ro 0 28 1 o34.length (rf (qD e_i64) o34)),(8,bx 31 [ci 0,ci v36]),(9,ro 0 3 1 l39n (rf e_i64 l39)),(10,ro 0 3 1 l40n (rf e_i64 l40))]⟩
def qDf (a4:Rect) (a5:Saw) (v10:(List Int)×(List Int)) (o34:(List (List Int))) (l48:List Int) (l49:List Int):St:=
 ⟨[(12,vp 3 0),(18,vp 6 0)],[(3,bx 84 [ci 0,ci 0,ci 0,.emp,.emp,.emp,.emp]),(4,ro 0 3 1 v10.1.length (rf e_i64 v10.1)),(6,bx 84 [ci (w64 (a4.X.B-a4.X.A)),ci a5.Kerf,ci 1,.own 4 0 1 v10.1.length,.own 7 0 1 o34.length,.own 9 0 1 l48.length,.own 10 0 1 l49.length]),(7,ro 0 28 1 o34.length (rf (qD e_i64) o34)),(9,ro 0 3 1 l48.length (rf e_i64 l48)),(10,ro 0 3 1 l49.length (rf e_i64 l49))]⟩
theorem qHU (E:Env 0) (a1:List qA) (a2:List Defect) (a3:List Product) (a4:Rect) (a5:Saw) (a6:Rates) (v10:(List Int)×(List Int)) (x12:Int) (l13:List (List Int)):∀(n:Nat) (l16:List Int) (l16n:Nat) (x17:Int) (res:(List Int)),l16.length=l16n->ZK a1 a2 a3 a4 a5 a6 v10 x12 n l16 x17=some res->HL (kx E 145 0) (nd Tryz.f186 1037108) (zS 2 (λo=>qDB a1 a2 a3 a4 a5 a6 v10 x12 l13 o) res) n (AU a1 a2 a3 a4 a5 a6 v10 x12 l13 l16 l16n x17):=by
 intro n
 induction n with
 |zero=>
  intro l16 l16n x17 res hl0 hm;cases hm
 |succ n ih=>
  intro l16 l16n x17 res hl0 hm;subst hl0;refine qM ?_;refine q_sq ?_;refine s_vu [] 9 [] [(73,vb (decide ((w64 (x17+(v10.1.getD x12.toNat default)))<=(w64 (a4.X.B-a4.X.A)))))] [] [] ?_;refine q_cm hm (λb18 hm=>?_) (λb18 hm=>?_)
  ·refine q_sk ?_;refine q_sq ?_;refine q_bk 3 ?_;refine s_vu [] 9 [73] [(23,vi (-1))] [] [] ?_;refine q_jn (ι:=Int) (λp=>qDp a1 a2 a3 a4 a5 a6 v10 x12 l13 l16 x17 p) (λp=>HZ l16 x17 (ZK a1 a2 a3 a4 a5 a6 v10 x12 n) p=some res) ?_ ?_
   ·rintro x27 hm;show H _ (qDp a1 a2 a3 a4 a5 a6 v10 x12 l13 l16 x17 x27) _ _;obtain⟨g28,hm⟩:=qI hm;refine q_vu [qd 2 (drw 9 0 (rf e_i64 ([x27]:List Int))) (litP e_i64 default 1 (λ_=>rfl) ([x27]:List Int) 1 rfl),qd 3 (drw 8 1 (rf e_i64 (l16++([x27]:List Int)))) (apP e_i64 default l16 ([x27]:List Int) l16.length 1 1 8 (1<=1) (Nat.le_refl _) rfl rfl (λ_=>rfl) (zU g28))] 9 [21,23] [(21,vo 8 1 1 (l16.length+1))] [8] [(8,ro 1 3 1 (l16.length+1) (rf e_i64 (l16++([x27]:List Int))))] ?_;refine q_vu [] 10 [22] [(22,vi (w64 (x17+1)))] [] [] ?_
    exact q_hl (AU a1 a2 a3 a4 a5 a6 v10 x12 l13 (l16++([x27]:List Int)) (l16.length+1) (w64 (x17+1))) (ih (l16++([x27]:List Int)) (l16.length+1) (w64 (x17+1)) _ (len_app rfl rfl) hm)
   ·obtain⟨g19,hm⟩:=qI hm;refine s_vu [qd 3 (Dir.none) (IL g19)] 9 [] [(80,vb ((Int.tmod x17 a5.Pitch)==0))] [] [] ?_;refine q_cm hm (λb20 hm=>?_) (λb20 hm=>?_)
    ·obtain⟨g21,hm⟩:=qI hm;obtain⟨g22,hm⟩:=qI hm;obtain⟨v23,h24,hm⟩:=qB hm;obtain⟨v25,h26,hm⟩:=qB hm;refine q_du [qd 5 (Dir.none) (inb_of g21),qd 6 (Dir.none) (toNat_lt (inb_of g21)),qd 7 (Dir.none) (inb_of g22),qc 14 [90,91,94] 9 (qBk a4 x17 (w64 (x17+(v10.1.getD x12.toNat default))) v23 h24),qc 17 [81,82,89,95,96,97] 9 (qNM a1 a2 (a3.getD (v10.2.getD x12.toNat default).toNat default) v23 a5 a6 v25 h26)] [0,0,0,0,0,24,56,124,252,0,0,0,0,6144,15872,0,0,131071,262143] 9 [23,80] [(23,vi v25)] [] [] ?_;exact q_J (v25) hm
    ·refine q_sk ?_;exact q_J ((-1)) hm
  ·refine q_ex 2 ?_;obtain rfl:=oi hm;exact wO (by kernel_rfl) (by kernel_rfl)
theorem qIM (E:Env 0) (a1:List qA) (a2:List Defect) (a3:List Product) (a4:Rect) (a5:Saw) (a6:Rates) (v10:(List Int)×(List Int)):∀(n:Nat) (x12:Int) (l13:List (List Int)) (l13n:Nat) (res:(List (List Int))),l13.length=l13n->XL a1 a2 a3 a4 a5 a6 v10 n x12 l13=some res->HL (kx E 145 0) (nd Tryz.f186 1012) (zS 0 (λo=>qDh a1 a4 a5 a6 v10 o) res) n (EW a1 a2 a3 a4 a5 a6 v10 x12 l13 l13n):=by
 intro n
 induction n with
 |zero=>
  intro x12 l13 l13n res hl0 hm;cases hm
 |succ n ih=>
  intro x12 l13 l13n res hl0 hm;subst hl0;refine qM ?_;refine s_vu [] 8 [] [(65,vb (decide (x12<((v10.1.length:Nat):Int))))] [] [] ?_;refine q_sq ?_;refine q_cm hm (λb14 hm=>?_) (λb14 hm=>?_)
  ·refine q_sk ?_;refine q_sq ?_;refine q_bk 1 ?_;obtain⟨g15,hm⟩:=qI hm;refine s_vu [qd 1 (Dir.none) (inb_of g15),qd 2 (Dir.none) (toNat_lt (inb_of g15))] 8 [65] [(19,vi x12),(20,vi (v10.1.getD x12.toNat default))] [] [] ?_;refine s_vu [] 8 [] [(21,vc (.emp))] [] [] ?_;refine q_sq ?_;refine s_vu [] 8 [] [(22,vi 0)] [] [] ?_
   refine q_fn [.own 21 8 3 1 (rf e_i64 ([]:List Int))] ⟨[(0,vc (tl qG default a1)),(1,vc (tl qH default a2)),(2,vc (tl qC default a3)),(9,vp 0 0),(10,vp 1 0),(11,vp 2 0),(12,vp 3 0),(15,vi (w64 (a4.X.B-a4.X.A))),(17,vo 5 0 1 v10.2.length),(18,vp 6 0),(19,vi x12),(20,vi (v10.1.getD x12.toNat default)),(21,vo 8 0 1 0),(22,vi 0),(62,vo 4 0 1 v10.1.length),(63,vi ((v10.1.length:Nat):Int)),(64,vi x12)],[(0,bx 33 (qE a4)),(1,bx 38 (qU a5)),(2,bx 40 (qR a6)),(3,bx 84 [ci 0,ci 0,ci 0,.emp,.emp,.emp,.emp]),(4,ro 0 3 1 v10.1.length (rf e_i64 v10.1)),(5,ro 0 3 1 v10.2.length (rf e_i64 v10.2)),(6,bx 84 [ci (w64 (a4.X.B-a4.X.A)),ci a5.Kerf,ci 1,.own 4 0 1 v10.1.length,.own 7 0 1 l13.length,.emp,.emp]),(7,ro 0 28 1 l13.length (rf (qD e_i64) l13)),(8,ro 0 3 1 0 (rf e_i64 ([]:List Int)))]⟩ o0 ?_
   obtain⟨o30,h31,hm⟩:=qB hm;refine zL (nd Tryz.f186 1037108) 2 (by kernel_rfl) FUEL (λo=>qDB a1 a2 a3 a4 a5 a6 v10 x12 l13 o) o30 (q_hl (AU a1 a2 a3 a4 a5 a6 v10 x12 l13 ([]:List Int) 0 0) (qHU E a1 a2 a3 a4 a5 a6 v10 x12 l13 FUEL ([]:List Int) 0 0 o30 rfl h31)) ?_;obtain⟨g32,hm⟩:=qI hm
   refine q_vu [qd 3 (dpr [.frz 8] (drw 9 0 (rf (qD e_i64) ([o30]:List (List Int))))) (And.intro (Nat.le_refl o30.length) (Nat.le_refl o30.length)),qd 3 (Dir.none) (litP (qD e_i64) default 1 (λ_=>rfl) ([o30]:List (List Int)) 1 rfl),qd 4 (drw 7 1 (rf (qD e_i64) (l13++([o30]:List (List Int))))) (apP (qD e_i64) default l13 ([o30]:List (List Int)) l13.length 1 1 24 (1<=1) (Nat.le_refl _) rfl rfl (λ_=>rfl) (zU g32))] 9 [21] [] [6,7,8] [(6,bx 84 [ci (w64 (a4.X.B-a4.X.A)),ci a5.Kerf,ci 1,.own 4 0 1 v10.1.length,.own 7 1 1 (l13.length+1),.emp,.emp]),(7,ro 1 28 1 (l13.length+1) (rf (qD e_i64) (l13++([o30]:List (List Int)))))] ?_
   refine q_vu [] 10 [64] [(64,vi (w64 (x12+1)))] [] [] ?_;exact q_hl (EW a1 a2 a3 a4 a5 a6 v10 (w64 (x12+1)) (l13++([o30]:List (List Int))) (l13.length+1)) (ih (w64 (x12+1)) (l13++([o30]:List (List Int))) (l13.length+1) _ (len_app rfl rfl) hm)
  ·refine q_ex 0 ?_;obtain rfl:=oi hm;exact wO (by kernel_rfl) (by kernel_rfl)
theorem qIO (E:Env 0) (a1:List qA) (a4:Rect) (a5:Saw) (a6:Rates) (v10:(List Int)×(List Int)) (o34:(List (List Int))) (v36:Int):∀(n:Nat) (x38:Int) (l39:List Int) (l39n:Nat) (l40:List Int) (l40n:Nat) (res:(List Int)×(List Int)),l39.length=l39n->l40.length=l40n->XQ a1 a4 a6 v36 n x38 l39 l40=some res->HL (kx E 145 0) (nd Tryz.f186 4084) (zS 4 (λo=>qDf a4 a5 v10 o34 o.1 o.2) res) n (AM a1 a4 a5 a6 v10 o34 v36 x38 l39 l39n l40 l40n):=by
 intro n
 induction n with
 |zero=>
  intro x38 l39 l39n l40 l40n res hl0 hl1 hm;cases hm
 |succ n ih=>
  intro x38 l39 l39n l40 l40n res hl0 hl1 hm;subst hl0;subst hl1;refine qM ?_;refine s_vu [] 11 [] [(115,vb (decide (x38<(w64 (a4.X.B-a4.X.A)))))] [] [] ?_;refine q_sq ?_;refine q_cm hm (λb41 hm=>?_) (λb41 hm=>?_)
  ·refine q_sk ?_;refine q_sq ?_;refine q_bk 5 ?_;refine s_vu [] 11 [115] [(25,vi x38)] [] [] ?_;obtain⟨v42,h43,hm⟩:=qB hm;obtain⟨v44,h45,hm⟩:=qB hm;refine s_du [qc 5 [118,119,121] 11 (qBk a4 x38 (w64 (x38+1)) v42 h43),qc 7 [117,122,123] 11 (TH a1 v42 (Span.mk 0 v36) v44 h45)] [0,0,0,0,8,30,0,127,255] 11 [25] [(26,vi v44)] [] [] ?_;obtain⟨g46,hm⟩:=qI hm
   refine s_vu [qd 6 (drw 11 0 (rf e_i64 ([w64 (a6.Chip*v44)]:List Int))) (litP e_i64 default 1 (λ_=>rfl) ([w64 (a6.Chip*v44)]:List Int) 1 rfl),qd 7 (drw 9 1 (rf e_i64 (l39++([w64 (a6.Chip*v44)]:List Int)))) (apP e_i64 default l39 ([w64 (a6.Chip*v44)]:List Int) l39.length 1 1 8 (1<=1) (Nat.le_refl _) rfl rfl (λ_=>rfl) (zU g46))] 11 [] [] [6,9] [(6,bx 84 [ci (w64 (a4.X.B-a4.X.A)),ci a5.Kerf,ci 1,.own 4 0 1 v10.1.length,.own 7 0 1 o34.length,.own 9 1 1 (l39.length+1),.own 10 0 1 l40.length]),(9,ro 1 3 1 (l39.length+1) (rf e_i64 (l39++([w64 (a6.Chip*v44)]:List Int))))] ?_
   obtain⟨g47,hm⟩:=qI hm
   refine q_vu [qd 6 (drw 12 0 (rf e_i64 ([w64 (a6.Dust*v44)]:List Int))) (litP e_i64 default 1 (λ_=>rfl) ([w64 (a6.Dust*v44)]:List Int) 1 rfl),qd 7 (drw 10 1 (rf e_i64 (l40++([w64 (a6.Dust*v44)]:List Int)))) (apP e_i64 default l40 ([w64 (a6.Dust*v44)]:List Int) l40.length 1 1 8 (1<=1) (Nat.le_refl _) rfl rfl (λ_=>rfl) (zU g47))] 12 [26] [] [6,10] [(6,bx 84 [ci (w64 (a4.X.B-a4.X.A)),ci a5.Kerf,ci 1,.own 4 0 1 v10.1.length,.own 7 0 1 o34.length,.own 9 1 1 (l39.length+1),.own 10 1 1 (l40.length+1)]),(10,ro 1 3 1 (l40.length+1) (rf e_i64 (l40++([w64 (a6.Dust*v44)]:List Int))))] ?_
   refine q_vu [] 13 [114] [(114,vi (w64 (x38+1)))] [] [] ?_;exact q_hl (AM a1 a4 a5 a6 v10 o34 v36 (w64 (x38+1)) (l39++([w64 (a6.Chip*v44)]:List Int)) (l39.length+1) (l40++([w64 (a6.Dust*v44)]:List Int)) (l40.length+1)) (ih (w64 (x38+1)) (l39++([w64 (a6.Chip*v44)]:List Int)) (l39.length+1) (l40++([w64 (a6.Dust*v44)]:List Int)) (l40.length+1) _ (len_app rfl rfl) (len_app rfl rfl) hm)
  ·refine q_ex 4 ?_;obtain rfl:=oi hm;exact wO (by kernel_rfl) (by kernel_rfl)
theorem qNi (a1:List qA) (a2:List Defect) (a3:List Product) (a4:Rect) (a5:Saw) (a6:Rates) (r:Line×Int) (hm:OA a1 a2 a3 a4 a5 a6=some r):CtX Tryz.prog globs 186 0 0 [.one (tl qG default a1),.one (tl qH default a2),.one (tl qC default a3),.agg (qE a4),.agg (qU a5),.agg (qR a6)] [] (qOf r) (qN2 r):=by
 unfold OA at hm;refine q_E Tryz.f186 145 λE=>?_;refine s_vn [] 0 ⟨[(0,vc (tl qG default a1)),(1,vc (tl qH default a2)),(2,vc (tl qC default a3)),(9,vp 0 0),(10,vp 1 0),(11,vp 2 0),(12,vp 3 0)],[(0,bx 33 (qE a4)),(1,bx 38 (qU a5)),(2,bx 40 (qR a6)),(3,bx 84 [ci 0,ci 0,ci 0,.emp,.emp,.emp,.emp])]⟩ ?_;refine q_sq ?_;obtain⟨v7,h8,hm⟩:=qB hm;refine s_vu [qc 6 [27,28,29,30,31,32] 4 (qLw a1 a2 a3 a4 a5 a6 v7 h8)] 4 [] [(14,vi v7)] [] [] ?_;refine s_vu [] 4 [] [(35,vb (v7 !=0))] [] [] ?_;refine q_cm hm (λb9 hm=>?_) (λb9 hm=>?_)
 ·refine s_vu [] 4 [0,1,2,9,10,11,14,35] [(13,vi v7)] [0,1,2] [] ?_;refine q_fn [.ownB 3 3 4 3 1 (rf e_i64 ([]:List Int))] ⟨[(12,vp 3 0),(13,vi v7)],[(3,bx 84 [ci 0,ci 0,ci 0,.own 4 0 1 0,.emp,.emp,.emp]),(4,ro 0 3 1 0 (rf e_i64 ([]:List Int)))]⟩ o0 ?_;refine q_fn [.ownB 3 4 5 28 1 (rf (qD e_i64) ([]:List (List Int)))] ⟨[(12,vp 3 0),(13,vi v7)],[(3,bx 84 [ci 0,ci 0,ci 0,.own 4 0 1 0,.own 5 0 1 0,.emp,.emp]),(4,ro 0 3 1 0 (rf e_i64 ([]:List Int))),(5,ro 0 28 1 0 (rf (qD e_i64) ([]:List (List Int))))]⟩ o0 ?_
  refine q_fn [.ownB 3 5 6 3 1 (rf e_i64 ([]:List Int))] ⟨[(12,vp 3 0),(13,vi v7)],[(3,bx 84 [ci 0,ci 0,ci 0,.own 4 0 1 0,.own 5 0 1 0,.own 6 0 1 0,.emp]),(4,ro 0 3 1 0 (rf e_i64 ([]:List Int))),(5,ro 0 28 1 0 (rf (qD e_i64) ([]:List (List Int)))),(6,ro 0 3 1 0 (rf e_i64 ([]:List Int)))]⟩ o0 ?_
  refine q_fn [.ownB 3 6 7 3 1 (rf e_i64 ([]:List Int))] ⟨[(12,vp 3 0),(13,vi v7)],[(3,bx 84 [ci 0,ci 0,ci 0,.own 4 0 1 0,.own 5 0 1 0,.own 6 0 1 0,.own 7 0 1 0]),(4,ro 0 3 1 0 (rf e_i64 ([]:List Int))),(5,ro 0 28 1 0 (rf (qD e_i64) ([]:List (List Int)))),(6,ro 0 3 1 0 (rf e_i64 ([]:List Int))),(7,ro 0 3 1 0 (rf e_i64 ([]:List Int)))]⟩ o0 ?_
  refine q_fn [.len 4 (([]:List Int).length)] ⟨[(12,vp 3 0),(13,vi v7)],[(3,bx 84 [ci 0,ci 0,ci 0,.own 4 0 1 (([]:List Int).length),.own 5 0 1 0,.own 6 0 1 0,.own 7 0 1 0]),(4,ro 0 3 1 (([]:List Int).length) (rf e_i64 ([]:List Int))),(5,ro 0 28 1 0 (rf (qD e_i64) ([]:List (List Int)))),(6,ro 0 3 1 0 (rf e_i64 ([]:List Int))),(7,ro 0 3 1 0 (rf e_i64 ([]:List Int)))]⟩ (o1 (And.intro (show 0=([]:List Int).length from rfl) (show 0=([]:List Int).length from rfl))) ?_
  refine q_fn [.len 5 (([]:List (List Int)).length)] ⟨[(12,vp 3 0),(13,vi v7)],[(3,bx 84 [ci 0,ci 0,ci 0,.own 4 0 1 (([]:List Int).length),.own 5 0 1 (([]:List (List Int)).length),.own 6 0 1 0,.own 7 0 1 0]),(4,ro 0 3 1 (([]:List Int).length) (rf e_i64 ([]:List Int))),(5,ro 0 28 1 (([]:List (List Int)).length) (rf (qD e_i64) ([]:List (List Int)))),(6,ro 0 3 1 0 (rf e_i64 ([]:List Int))),(7,ro 0 3 1 0 (rf e_i64 ([]:List Int)))]⟩ (o1 (And.intro (show 0=([]:List (List Int)).length from rfl) (show 0=([]:List (List Int)).length from rfl))) ?_
  refine q_fn [.len 6 (([]:List Int).length)] ⟨[(12,vp 3 0),(13,vi v7)],[(3,bx 84 [ci 0,ci 0,ci 0,.own 4 0 1 (([]:List Int).length),.own 5 0 1 (([]:List (List Int)).length),.own 6 0 1 (([]:List Int).length),.own 7 0 1 0]),(4,ro 0 3 1 (([]:List Int).length) (rf e_i64 ([]:List Int))),(5,ro 0 28 1 (([]:List (List Int)).length) (rf (qD e_i64) ([]:List (List Int)))),(6,ro 0 3 1 (([]:List Int).length) (rf e_i64 ([]:List Int))),(7,ro 0 3 1 0 (rf e_i64 ([]:List Int)))]⟩ (o1 (And.intro (show 0=([]:List Int).length from rfl) (show 0=([]:List Int).length from rfl))) ?_
  refine q_fn [.len 7 (([]:List Int).length)] ⟨[(12,vp 3 0),(13,vi v7)],[(3,bx 84 [ci 0,ci 0,ci 0,.own 4 0 1 (([]:List Int).length),.own 5 0 1 (([]:List (List Int)).length),.own 6 0 1 (([]:List Int).length),.own 7 0 1 (([]:List Int).length)]),(4,ro 0 3 1 (([]:List Int).length) (rf e_i64 ([]:List Int))),(5,ro 0 28 1 (([]:List (List Int)).length) (rf (qD e_i64) ([]:List (List Int)))),(6,ro 0 3 1 (([]:List Int).length) (rf e_i64 ([]:List Int))),(7,ro 0 3 1 (([]:List Int).length) (rf e_i64 ([]:List Int)))]⟩ (o1 (And.intro (show 0=([]:List Int).length from rfl) (show 0=([]:List Int).length from rfl))) ?_
  obtain rfl:=oi hm;refine qW 4 0 (by kernel_rfl) ?_;refine qW 5 1 (by kernel_rfl) ?_;refine qW 6 2 (by kernel_rfl) ?_;refine qW 7 3 (by kernel_rfl) ?_;refine q_rt ?_;exact q_rm
 ·refine q_sk ?_;refine s_vu [] 4 [14,35] [(15,vi (w64 (a4.X.B-a4.X.A)))] [] [] ?_;obtain⟨v10,h11,hm⟩:=qB hm;refine s_vu [qc 8 [46,53] 4 (qAe a3 (w64 (a4.Y.B-a4.Y.A)) v10 h11)] 4 [] [(16,vo 4 0 1 v10.1.length),(17,vo 5 0 1 v10.2.length)] [] [(4,ro 0 3 1 v10.1.length (rf e_i64 v10.1)),(5,ro 0 3 1 v10.2.length (rf e_i64 v10.2))] ?_;refine s_vu [] 6 [] [(18,vp 6 0)] [] [(6,bx 84 [ci (w64 (a4.X.B-a4.X.A)),ci a5.Kerf,ci 1,.own 4 0 1 v10.1.length,.emp,.emp,.emp])] ?_;refine q_sq ?_;refine s_vu [] 7 [16] [(62,vo 4 0 1 v10.1.length),(63,vi ((v10.1.length:Nat):Int)),(64,vi 0)] [] [] ?_
  refine q_fn [.ownB 6 4 7 28 1 (rf (qD e_i64) ([]:List (List Int)))] ⟨[(0,vc (tl qG default a1)),(1,vc (tl qH default a2)),(2,vc (tl qC default a3)),(9,vp 0 0),(10,vp 1 0),(11,vp 2 0),(12,vp 3 0),(15,vi (w64 (a4.X.B-a4.X.A))),(17,vo 5 0 1 v10.2.length),(18,vp 6 0),(62,vo 4 0 1 v10.1.length),(63,vi ((v10.1.length:Nat):Int)),(64,vi 0)],[(0,bx 33 (qE a4)),(1,bx 38 (qU a5)),(2,bx 40 (qR a6)),(3,bx 84 [ci 0,ci 0,ci 0,.emp,.emp,.emp,.emp]),(4,ro 0 3 1 v10.1.length (rf e_i64 v10.1)),(5,ro 0 3 1 v10.2.length (rf e_i64 v10.2)),(6,bx 84 [ci (w64 (a4.X.B-a4.X.A)),ci a5.Kerf,ci 1,.own 4 0 1 v10.1.length,.own 7 0 1 0,.emp,.emp]),(7,ro 0 28 1 0 (rf (qD e_i64) ([]:List (List Int))))]⟩ o0 ?_
  obtain⟨o34,h35,hm⟩:=qB hm;refine zL (nd Tryz.f186 1012) 0 (by kernel_rfl) FUEL (λo=>qDh a1 a4 a5 a6 v10 o) o34 (q_hl (EW a1 a2 a3 a4 a5 a6 v10 0 ([]:List (List Int)) 0) (qIM E a1 a2 a3 a4 a5 a6 v10 FUEL 0 ([]:List (List Int)) 0 o34 rfl h35)) ?_;obtain⟨v36,h37,hm⟩:=qB hm;refine s_vu [qc 1 [110] 8 (PD a1 v36 h37)] 8 [] [(24,vp 8 0)] [] [(8,bx 31 [ci 0,ci v36])] ?_;refine q_sq ?_;refine s_vu [] 9 [15] [(113,vi (w64 (a4.X.B-a4.X.A))),(114,vi 0)] [] [] ?_
  refine q_fn [.ownB 6 5 9 3 1 (rf e_i64 ([]:List Int))] ⟨[(0,vc (tl qG default a1)),(9,vp 0 0),(11,vp 2 0),(12,vp 3 0),(18,vp 6 0),(24,vp 8 0),(113,vi (w64 (a4.X.B-a4.X.A))),(114,vi 0)],[(0,bx 33 (qE a4)),(2,bx 40 (qR a6)),(3,bx 84 [ci 0,ci 0,ci 0,.emp,.emp,.emp,.emp]),(4,ro 0 3 1 v10.1.length (rf e_i64 v10.1)),(6,bx 84 [ci (w64 (a4.X.B-a4.X.A)),ci a5.Kerf,ci 1,.own 4 0 1 v10.1.length,.own 7 0 1 o34.length,.own 9 0 1 0,.emp]),(7,ro 0 28 1 o34.length (rf (qD e_i64) o34)),(8,bx 31 [ci 0,ci v36]),(9,ro 0 3 1 0 (rf e_i64 ([]:List Int)))]⟩ o0 ?_
  refine q_fn [.ownB 6 6 10 3 1 (rf e_i64 ([]:List Int))] ⟨[(0,vc (tl qG default a1)),(9,vp 0 0),(11,vp 2 0),(12,vp 3 0),(18,vp 6 0),(24,vp 8 0),(113,vi (w64 (a4.X.B-a4.X.A))),(114,vi 0)],[(0,bx 33 (qE a4)),(2,bx 40 (qR a6)),(3,bx 84 [ci 0,ci 0,ci 0,.emp,.emp,.emp,.emp]),(4,ro 0 3 1 v10.1.length (rf e_i64 v10.1)),(6,bx 84 [ci (w64 (a4.X.B-a4.X.A)),ci a5.Kerf,ci 1,.own 4 0 1 v10.1.length,.own 7 0 1 o34.length,.own 9 0 1 0,.own 10 0 1 0]),(7,ro 0 28 1 o34.length (rf (qD e_i64) o34)),(8,bx 31 [ci 0,ci v36]),(9,ro 0 3 1 0 (rf e_i64 ([]:List Int))),(10,ro 0 3 1 0 (rf e_i64 ([]:List Int)))]⟩ o0 ?_
  obtain⟨o50,h51,hm⟩:=qB hm;refine zL (nd Tryz.f186 4084) 4 (by kernel_rfl) FUEL (λo=>qDf a4 a5 v10 o34 o.1 o.2) o50 (q_hl (AM a1 a4 a5 a6 v10 o34 v36 0 ([]:List Int) 0 ([]:List Int) 0) (qIO E a1 a4 a5 a6 v10 o34 v36 FUEL 0 ([]:List Int) 0 ([]:List Int) 0 o50 rfl rfl h51)) ?_;refine s_vu [] 11 [18] [(13,vi 0)] [3,6] [(3,bx 84 [ci (w64 (a4.X.B-a4.X.A)),ci a5.Kerf,ci 1,.own 4 0 1 v10.1.length,.own 7 0 1 o34.length,.own 9 0 1 o50.1.length,.own 10 0 1 o50.2.length])] ?_;obtain rfl:=oi hm;refine qW 4 0 (by kernel_rfl) ?_;refine qW 7 1 (by kernel_rfl) ?_;refine qW 9 2 (by kernel_rfl) ?_
  refine qW 10 3 (by kernel_rfl) ?_;refine q_rt ?_;exact q_rm
def qHF (r:Int):V:=vi r
def qHH (r:Int):List (Nat×(Nat×O)):=[]
theorem qAR (a1:Line) (a2:Int) (r:Int) (hm:XC a1 a2=some r):CtX Tryz.prog globs 152 0 0 [.agg (zV a1),.one (ci a2)] [] (qHF r) (qHH r):=by
 unfold XC at hm;refine q_E Tryz.f152 16 λE=>?_;refine s_vn [] 0 ⟨[(1,vi a2),(2,vp 0 0)],[(0,bx 84 (zV a1))]⟩ ?_;refine q_sq ?_;refine s_vu [] 1 [] [(8,vb (a2==a1.Len))] [] [] ?_;refine q_cm hm (λb3 hm=>?_) (λb3 hm=>?_)
 ·refine s_vn [] 1 ⟨[(4,vi (-1))],[]⟩ ?_;obtain rfl:=oi hm;refine q_rt ?_;exact q_rm
 ·refine q_sk ?_;refine s_vn [] 1 ⟨[(4,vi (imin (w64 (a2+a1.Kerf)) a1.Len))],[]⟩ ?_;obtain rfl:=oi hm;refine q_rt ?_;exact q_rm
def qG1 (r:Int):V:=vi r
def qGV (r:Int):List (Nat×(Nat×O)):=[]
theorem qGu (a1:Line) (a2:Int) (r:Int) (hm:NM a1 a2=some r):CtX Tryz.prog globs 192 0 0 [.agg (zV a1),.one (ci a2)] [] (qG1 r) (qGV r):=by
 unfold NM at hm;refine q_E Tryz.f192 11 λE=>?_;refine s_vn [] 0 ⟨[(1,vi a2),(2,vp 0 0)],[(0,bx 84 (zV a1))]⟩ ?_;refine s_vn [] 1 ⟨[(4,vi (imax 0 (w64 ((w64 (a1.Len-a2))+1))))],[]⟩ ?_;obtain rfl:=oi hm;refine q_rt ?_;exact q_rm
def DJ (r:Int):V:=vi r
def BH (r:Int):List (Nat×(Nat×O)):=[]
def HG (a1:Line) (x10:Int) (x14:Bool):St:=
 ⟨[(38,vc (tl e_i64 default a1.Sizes)),(39,vi ((a1.Sizes.length:Nat):Int)),(40,vi x10),(49,vb x14)],[]⟩
def RJ (a1:Line) (x10:Int):St:=
 ⟨[(38,vc (tl e_i64 default a1.Sizes)),(39,vi ((a1.Sizes.length:Nat):Int)),(40,vi x10)],[]⟩
def HF :St:=
 ⟨[],[]⟩
def HI (a1:Line) (x7:Bool):St:=
 ⟨[(1,vp 0 0),(32,vb x7)],[(0,bx 84 (zV a1))]⟩
theorem qC3 (E:Env 0) (a1:Line):∀(n:Nat) (x10:Int) (res:Int⊕Unit),wM a1 n x10=some res->HL (kx E 51 0) (nd Tryz.f191 244) (wY 0 (λo=>HF) (λv st=>RetQ Tryz.prog Tryz.f191 (DJ v) (BH v) .ret st) res) n (RJ a1 x10):=by
 intro n
 induction n with
 |zero=>
  intro x10 res hm;cases hm
 |succ n ih=>
  intro x10 res hm;refine qM ?_;refine s_vu [] 1 [] [(41,vb (decide (x10<((a1.Sizes.length:Nat):Int))))] [] [] ?_;refine q_sq ?_;refine q_cm hm (λb11 hm=>?_) (λb11 hm=>?_)
  ·refine q_sk ?_;refine q_sq ?_;refine q_bk 1 ?_;obtain⟨g12,hm⟩:=qI hm;refine s_vu [qd 0 (Dir.none) (inb_of g12)] 1 [41] [(4,vi (a1.Sizes.getD x10.toNat default))] [] [] ?_;refine q_jn (ι:=Bool) (λp=>HG a1 x10 p) (λp=>XZ x10 (wM a1 n) p=some res) ?_ ?_
   ·rintro x14 hm;show H _ (HG a1 x10 x14) _ _;refine q_cm hm (λb15 hm=>?_) (λb15 hm=>?_)
    ·refine s_vn [] 1 ⟨[(2,vi 9)],[]⟩ ?_;obtain rfl:=oi hm;refine q_rt ?_;refine zH 9 ?_;exact q_rm
    ·refine q_sk ?_;refine q_vu [] 1 [40,49] [(40,vi (w64 (x10+1)))] [] [] ?_;exact q_hl (RJ a1 (w64 (x10+1))) (ih (w64 (x10+1)) _ hm)
   ·rcases bif_c hm with⟨b13,hm⟩|⟨b13,hm⟩
    ·refine q_vu [qf 2 b13] 1 [4] [(49,vb true)] [] [] ?_;exact q_J (true) hm
    ·refine q_vu [qf 2 b13] 1 [4] [(49,vb (decide ((a1.Sizes.getD x10.toNat default)>2000)))] [] [] ?_;exact q_J (decide ((a1.Sizes.getD x10.toNat default)>2000)) hm
  ·refine q_ex 0 ?_;obtain rfl:=oi hm;exact jI () (by kernel_rfl) (by kernel_rfl)
theorem qEF (a1:Line) (r:Int) (hm:XK a1=some r):CtX Tryz.prog globs 191 0 0 [.agg (zV a1)] [] (DJ r) (BH r):=by
 unfold XK at hm;refine q_E Tryz.f191 51 λE=>?_;refine s_vn [] 0 ⟨[(1,vp 0 0)],[(0,bx 84 (zV a1))]⟩ ?_;refine q_sq ?_;refine q_jn (ι:=Bool) (λp=>HI a1 p) (λp=>wN a1 p=some r) ?_ ?_
 ·rintro x7 hm;show H _ (HI a1 x7) _ _;refine q_cm hm (λb8 hm=>?_) (λb8 hm=>?_)
  ·refine s_vn [] 1 ⟨[(2,vi 9)],[]⟩ ?_;obtain rfl:=oi hm;refine q_rt ?_;exact q_rm
  ·refine q_sk ?_;refine q_sq ?_;refine s_vu [] 1 [32] [(36,vb (decide (((a1.Sizes.length:Nat):Int)>32)))] [] [] ?_;refine q_cm hm (λb9 hm=>?_) (λb9 hm=>?_)
   ·refine s_vn [] 1 ⟨[(2,vi 4)],[]⟩ ?_;obtain rfl:=oi hm;refine q_rt ?_;exact q_rm
   ·refine q_sk ?_;refine q_sq ?_;refine s_vn [] 1 ⟨[(38,vc (tl e_i64 default a1.Sizes)),(39,vi ((a1.Sizes.length:Nat):Int)),(40,vi 0)],[]⟩ ?_;obtain⟨u18,h17,hm⟩:=qB hm;refine zP (nd Tryz.f191 244) 0 (by kernel_rfl) FUEL (λo=>HF) (λv st=>RetQ Tryz.prog Tryz.f191 (DJ v) (BH v) .ret st) u18 (q_hl (RJ a1 0) (qC3 E a1 FUEL 0 u18 h17)) ?_ ?_
    ·rintro v19 rfl st hr;obtain rfl:=oi hm;exact hr
    ·rintro o16 rfl;replace hm:_=some r:=hm;refine s_vn [] 1 ⟨[(2,vi 0)],[]⟩ ?_;obtain rfl:=oi hm;refine q_rt ?_;exact q_rm
 ·rcases bif_c hm with⟨b2,hm⟩|⟨b2,hm⟩
  ·refine q_vu [qf 3 b2] 1 [] [(32,vb true)] [] [] ?_;exact q_J (true) hm
  ·rcases bif_c hm with⟨b3,hm⟩|⟨b3,hm⟩
   ·refine q_vu [qf 3 b2,qf 8 b3] 1 [] [(32,vb true)] [] [] ?_;exact q_J (true) hm
   ·rcases bif_c hm with⟨b4,hm⟩|⟨b4,hm⟩
    ·refine q_vu [qf 3 b2,qf 8 b3,qf 13 b4] 1 [] [(32,vb true)] [] [] ?_;exact q_J (true) hm
    ·rcases bif_c hm with⟨b5,hm⟩|⟨b5,hm⟩
     ·refine q_vu [qf 3 b2,qf 8 b3,qf 13 b4,qf 18 b5] 1 [] [(32,vb true)] [] [] ?_;exact q_J (true) hm
     ·rcases bif_c hm with⟨b6,hm⟩|⟨b6,hm⟩
      ·refine q_vu [qf 3 b2,qf 8 b3,qf 13 b4,qf 18 b5,qf 23 b6] 1 [] [(32,vb true)] [] [] ?_;exact q_J (true) hm
      ·refine q_vu [qf 3 b2,qf 8 b3,qf 13 b4,qf 18 b5,qf 23 b6] 1 [] [(32,vb (decide (a1.Pitch>2000)))] [] [] ?_;exact q_J (decide (a1.Pitch>2000)) hm
def JL (r:Bool):V:=vb r
def yR (r:Bool):List (Nat×(Nat×O)):=[]
theorem qJl (r:Bool):jW (yR r):=by
 intro i k o h;unfold yR at h;cases h
def OT (a1:List (List Int)) (x2:Int) (x5:Int) (x9:Bool):St:=
 ⟨[(7,vc (tl (qD e_i64) default a1)),(8,vi ((a1.length:Nat):Int)),(9,vi x2),(13,vc (tl e_i64 default (a1.getD x2.toNat default))),(14,vi (((a1.getD x2.toNat default).length:Nat):Int)),(15,vi x5),(24,vb x9)],[]⟩
def DI (a1:List (List Int)) (x2:Int) (x5:Int):St:=
 ⟨[(7,vc (tl (qD e_i64) default a1)),(8,vi ((a1.length:Nat):Int)),(9,vi x2),(13,vc (tl e_i64 default (a1.getD x2.toNat default))),(14,vi (((a1.getD x2.toNat default).length:Nat):Int)),(15,vi x5)],[]⟩
def CU (a1:List (List Int)) (x2:Int):St:=
 ⟨[(7,vc (tl (qD e_i64) default a1)),(8,vi ((a1.length:Nat):Int)),(9,vi x2)],[]⟩
def DT (a1:List (List Int)) (x2:Int):St:=
 ⟨[(7,vc (tl (qD e_i64) default a1)),(8,vi ((a1.length:Nat):Int)),(9,vi x2)],[]⟩
def CP :St:=
 ⟨[],[]⟩
theorem qEK (E:Env 0) (a1:List (List Int)) (x2:Int):∀(n:Nat) (x5:Int) (res:Bool⊕Unit),jU a1 x2 n x5=some res->HL (kx E 27 0) (nd Tryz.f193 13516) (wY 2 (λo=>CU a1 x2) (λv st=>RetQ Tryz.prog Tryz.f193 (JL v) (yR v) .ret st) res) n (DI a1 x2 x5):=by
 intro n
 induction n with
 |zero=>
  intro x5 res hm;cases hm
 |succ n ih=>
  intro x5 res hm;refine qM ?_;refine s_vu [] 0 [] [(16,vb (decide (x5<(((a1.getD x2.toNat default).length:Nat):Int))))] [] [] ?_;refine q_sq ?_;refine q_cm hm (λb6 hm=>?_) (λb6 hm=>?_)
  ·refine q_sk ?_;refine q_sq ?_;refine q_bk 3 ?_;obtain⟨g7,hm⟩:=qI hm;refine s_vu [qd 0 (Dir.none) (inb_of g7)] 0 [16] [(6,vi ((a1.getD x2.toNat default).getD x5.toNat default))] [] [] ?_;refine q_jn (ι:=Bool) (λp=>OT a1 x2 x5 p) (λp=>UB x5 (jU a1 x2 n) p=some res) ?_ ?_
   ·rintro x9 hm;show H _ (OT a1 x2 x5 x9) _ _;refine q_cm hm (λb10 hm=>?_) (λb10 hm=>?_)
    ·refine s_vn [] 0 ⟨[(2,vb false)],[]⟩ ?_;obtain rfl:=oi hm;refine q_rt ?_;refine zH false ?_;exact q_rm
    ·refine q_sk ?_;refine q_vu [] 0 [15,24] [(15,vi (w64 (x5+1)))] [] [] ?_;exact q_hl (DI a1 x2 (w64 (x5+1))) (ih (w64 (x5+1)) _ hm)
   ·rcases bif_c hm with⟨b8,hm⟩|⟨b8,hm⟩
    ·refine q_vu [qf 2 b8] 0 [6] [(24,vb true)] [] [] ?_;exact q_J (true) hm
    ·refine q_vu [qf 2 b8] 0 [6] [(24,vb (decide (((a1.getD x2.toNat default).getD x5.toNat default)>1125899906842624)))] [] [] ?_;exact q_J (decide (((a1.getD x2.toNat default).getD x5.toNat default)>1125899906842624)) hm
  ·refine q_ex 2 ?_;obtain rfl:=oi hm;exact jI () (by kernel_rfl) (by kernel_rfl)
theorem qEG (E:Env 0) (a1:List (List Int)):∀(n:Nat) (x2:Int) (res:Bool⊕Unit),WK a1 n x2=some res->HL (kx E 27 0) (nd Tryz.f193 52) (wY 0 (λo=>CP) (λv st=>RetQ Tryz.prog Tryz.f193 (JL v) (yR v) .ret st) res) n (DT a1 x2):=by
 intro n
 induction n with
 |zero=>
  intro x2 res hm;cases hm
 |succ n ih=>
  intro x2 res hm;refine qM ?_;refine s_vu [] 0 [] [(10,vb (decide (x2<((a1.length:Nat):Int))))] [] [] ?_;refine q_sq ?_;refine q_cm hm (λb3 hm=>?_) (λb3 hm=>?_)
  ·refine q_sk ?_;refine q_sq ?_;refine q_bk 1 ?_;obtain⟨g4,hm⟩:=qI hm;refine s_vu [qd 0 (Dir.none) (inb_of g4)] 0 [10] [(4,vc (tl e_i64 default (a1.getD x2.toNat default)))] [] [] ?_;refine s_vu [] 0 [4] [(13,vc (tl e_i64 default (a1.getD x2.toNat default))),(14,vi (((a1.getD x2.toNat default).length:Nat):Int)),(15,vi 0)] [] [] ?_;obtain⟨u13,h12,hm⟩:=qB hm;refine zP (nd Tryz.f193 13516) 2 (by kernel_rfl) FUEL (λo=>CU a1 x2) (λv st=>RetQ Tryz.prog Tryz.f193 (JL v) (yR v) .ret st) u13 (q_hl (DI a1 x2 0) (qEK E a1 x2 FUEL 0 u13 h12)) ?_ ?_
   ·rintro v14 rfl st hr;obtain rfl:=oi hm;exact zH v14 hr
   ·rintro o11 rfl;replace hm:_=some res:=hm;refine q_vu [] 0 [9] [(9,vi (w64 (x2+1)))] [] [] ?_;exact q_hl (DT a1 (w64 (x2+1))) (ih (w64 (x2+1)) _ hm)
  ·refine q_ex 0 ?_;obtain rfl:=oi hm;exact jI () (by kernel_rfl) (by kernel_rfl)
theorem MR (a1:List (List Int)) (r:Bool) (hm:KK a1=some r):CtX Tryz.prog globs 193 0 0 [.one (tl (qD e_i64) default a1)] [] (JL r) (yR r):=by
 unfold KK at hm;refine q_E Tryz.f193 27 λE=>?_;refine s_vn [] 0 ⟨[(0,vc (tl (qD e_i64) default a1))],[]⟩ ?_;refine q_sq ?_;refine s_vn [] 0 ⟨[(7,vc (tl (qD e_i64) default a1)),(8,vi ((a1.length:Nat):Int)),(9,vi 0)],[]⟩ ?_;obtain⟨u17,h16,hm⟩:=qB hm;refine zP (nd Tryz.f193 52) 0 (by kernel_rfl) FUEL (λo=>CP) (λv st=>RetQ Tryz.prog Tryz.f193 (JL v) (yR v) .ret st) u17 (q_hl (DT a1 0) (qEG E a1 FUEL 0 u17 h16)) ?_ ?_
 ·rintro v18 rfl st hr;obtain rfl:=oi hm;exact hr
 ·rintro o15 rfl;replace hm:_=some r:=hm;refine s_vn [] 0 ⟨[(2,vb true)],[]⟩ ?_;obtain rfl:=oi hm;refine q_rt ?_;exact q_rm
def HT (r:Int):V:=vi r
def SW (r:Int):List (Nat×(Nat×O)):=[]
def BI (a1:Line) (x9:Int):St:=
 ⟨[(1,vp 0 0),(35,vc (tl (qD e_i64) default a1.Gain)),(36,vi ((a1.Gain.length:Nat):Int)),(37,vi x9)],[(0,bx 84 (zV a1))]⟩
def OP (a1:Line):St:=
 ⟨[(1,vp 0 0)],[(0,bx 84 (zV a1))]⟩
def CK (x25:Bool):St:=
 ⟨[(65,vb x25)],[]⟩
def OO (a1:Line) (x7:Bool):St:=
 ⟨[(1,vp 0 0),(33,vb x7)],[(0,bx 84 (zV a1))]⟩
theorem qES (E:Env 0) (a1:Line):∀(n:Nat) (x9:Int) (res:Int⊕Unit),WO a1 n x9=some res->HL (kx E 66 0) (nd Tryz.f150 244) (wY 0 (λo=>OP a1) (λv st=>RetQ Tryz.prog Tryz.f150 (HT v) (SW v) .ret st) res) n (BI a1 x9):=by
 intro n
 induction n with
 |zero=>
  intro x9 res hm;cases hm
 |succ n ih=>
  intro x9 res hm;refine qM ?_;refine s_vu [] 1 [] [(38,vb (decide (x9<((a1.Gain.length:Nat):Int))))] [] [] ?_;refine q_sq ?_;refine q_cm hm (λb10 hm=>?_) (λb10 hm=>?_)
  ·refine q_sk ?_;refine q_sq ?_;refine q_bk 1 ?_;obtain⟨g11,hm⟩:=qI hm;refine s_vu [qd 1 (Dir.none) (inb_of g11)] 1 [38] [(4,vi x9),(5,vc (tl e_i64 default (a1.Gain.getD x9.toNat default)))] [] [] ?_;obtain⟨g12,hm⟩:=qI hm;obtain⟨v13,h14,hm⟩:=qB hm;refine s_du [qd 6 (Dir.none) (inb_of g12),qc 8 [44,49] 1 (qGu a1 (a1.Sizes.getD x9.toNat default) v13 h14)] [0,1,0,0,8,0,56,120,252,511] 1 [4,5] [(51,vb ((((a1.Gain.getD x9.toNat default).length:Nat):Int) !=v13))] [] [] ?_;refine q_cm hm (λb15 hm=>?_) (λb15 hm=>?_)
   ·refine s_vn [] 1 ⟨[(2,vi 19)],[]⟩ ?_;obtain rfl:=oi hm;refine q_rt ?_;refine zH 19 ?_;exact q_rm
   ·refine q_sk ?_;refine q_vu [] 1 [37,51] [(37,vi (w64 (x9+1)))] [] [] ?_;exact q_hl (BI a1 (w64 (x9+1))) (ih (w64 (x9+1)) _ hm)
  ·refine q_ex 0 ?_;obtain rfl:=oi hm;exact jI () (by kernel_rfl) (by kernel_rfl)
theorem qHw (a1:Line) (r:Int) (hm:UW a1=some r):CtX Tryz.prog globs 150 0 0 [.agg (zV a1)] [] (HT r) (SW r):=by
 unfold UW at hm;refine q_E Tryz.f150 66 λE=>?_;refine s_vn [] 0 ⟨[(1,vp 0 0)],[(0,bx 84 (zV a1))]⟩ ?_;refine q_sq ?_;obtain⟨v2,h3,hm⟩:=qB hm;refine s_vu [qc 1 [6] 1 (qEF a1 v2 h3)] 1 [] [(3,vi v2)] [] [] ?_;refine s_vu [] 1 [] [(9,vb (v2 !=0))] [] [] ?_;refine q_cm hm (λb4 hm=>?_) (λb4 hm=>?_)
 ·refine s_vn [] 1 ⟨[(2,vi v2)],[]⟩ ?_;obtain rfl:=oi hm;refine q_rt ?_;exact q_rm
 ·refine q_sk ?_;refine q_sq ?_;refine q_jn (ι:=Bool) (λp=>OO a1 p) (λp=>XU a1 p=some r) ?_ ?_
  ·rintro x7 hm;show H _ (OO a1 x7) _ _;refine q_cm hm (λb8 hm=>?_) (λb8 hm=>?_)
   ·refine s_vn [] 1 ⟨[(2,vi 19)],[]⟩ ?_;obtain rfl:=oi hm;refine q_rt ?_;exact q_rm
   ·refine q_sk ?_;refine q_sq ?_;refine s_vu [] 1 [33] [(35,vc (tl (qD e_i64) default a1.Gain)),(36,vi ((a1.Gain.length:Nat):Int)),(37,vi 0)] [] [] ?_;obtain⟨u18,h17,hm⟩:=qB hm;refine zP (nd Tryz.f150 244) 0 (by kernel_rfl) FUEL (λo=>OP a1) (λv st=>RetQ Tryz.prog Tryz.f150 (HT v) (SW v) .ret st) u18 (q_hl (BI a1 0) (qES E a1 FUEL 0 u18 h17)) ?_ ?_
    ·rintro v19 rfl st hr;obtain rfl:=oi hm;exact hr
    ·rintro o16 rfl;replace hm:_=some r:=hm;refine q_sq ?_;refine q_jn (ι:=Bool) (λp=>CK p) (λp=>US p=some r) ?_ ?_
     ·rintro x25 hm;show H _ (CK x25) _ _;refine q_cm hm (λb26 hm=>?_) (λb26 hm=>?_)
      ·refine s_vn [] 2 ⟨[(2,vi 9)],[]⟩ ?_;obtain rfl:=oi hm;refine q_rt ?_;exact q_rm
      ·refine q_sk ?_;refine s_vn [] 2 ⟨[(2,vi 0)],[]⟩ ?_;obtain rfl:=oi hm;refine q_rt ?_;exact q_rm
     ·obtain⟨v20,h21,hm⟩:=qB hm;rcases bif_c hm with⟨b22,hm⟩|⟨b22,hm⟩
      ·refine q_vn [qc 2 [54] 1 (MR a1.Gain v20 h21),qf 4 b22] 1 ⟨[(65,vb true)],[]⟩ ?_;exact q_J (true) hm
      ·obtain⟨v23,h24,hm⟩:=qB hm
       refine q_vn [qc 2 [54] 1 (MR a1.Gain v20 h21),qf 4 b22,qd 9 (drw 1 0 (rf (qD e_i64) ([a1.Chip,a1.Dust]:List (List Int)))) (litP (qD e_i64) default 1 (λ_=>rfl) ([a1.Chip,a1.Dust]:List (List Int)) 2 rfl),qd 10 (dex (cen [] [] 2 0 (JL v23) (yR v23) [57,62] [1])) (wF (K:=(kx E 66 0)) (xs':=[.one (.lst 2 (rf (qD e_i64) ([a1.Chip,a1.Dust]:List (List Int))))]) (b:=false) ⟨[(57,vb false),(62,vo 1 0 1 2)],[(1,ro 0 28 1 2 (rf (qD e_i64) ([a1.Chip,a1.Dust]:List (List Int))))]⟩ (opAt (rg Tryz.f150 124) 10) [] [] 2 (o1 (Nat.le_refl 2)) (by simp only[tl,rf,show([a1.Chip,a1.Dust]:List (List Int)).length=2 from rfl]) (MR ([a1.Chip,a1.Dust]:List (List Int)) v23 h24) (.inr ⟨(by kernel_rfl),qJl v23⟩) (by kernel_rfl))] 1 ⟨[(65,vb (!v23))],[]⟩ ?_
       exact q_J (!v23) hm
  ·rcases bif_c hm with⟨b5,hm⟩|⟨b5,hm⟩
   ·refine q_vu [qf 7 b5] 1 [3,9] [(33,vb true)] [] [] ?_;exact q_J (true) hm
   ·rcases bif_c hm with⟨b6,hm⟩|⟨b6,hm⟩
    ·refine q_vu [qf 7 b5,qf 15 b6] 1 [3,9] [(33,vb true)] [] [] ?_;exact q_J (true) hm
    ·refine q_vu [qf 7 b5,qf 15 b6] 1 [3,9] [(33,vb (((a1.Dust.length:Nat):Int) !=a1.Len))] [] [] ?_;exact q_J (((a1.Dust.length:Nat):Int) !=a1.Len) hm
def qCm (r:Cutting_choice):V:=va (e_Cutting_choice r)
def GV (r:Cutting_choice):List (Nat×(Nat×O)):=[]
theorem qI8 (r:Cutting_choice):jW (GV r):=by
 intro i k o h;unfold GV at h;cases h
def OM (a1:Line) (a2:Int) (a3:List Int) (a4:List Cutting_choice) (x5:Int) (x26:Cutting_choice):St:=
 ⟨[(1,vi a2),(2,vc (tl e_i64 default a3)),(3,vc (tl e_Cutting_choice default a4)),(4,vp 0 0),(8,vp 1 0),(9,vp 2 0),(18,vc (tl e_i64 default a1.Sizes)),(19,vi ((a1.Sizes.length:Nat):Int)),(20,vi x5)],[(0,bx 84 (zV a1)),(1,bx 207 [ci 0,ci 0,ci 0]),(2,bx 207 (e_Cutting_choice x26))]⟩
def CL (a1:Line) (a2:Int) (a3:List Int) (a4:List Cutting_choice) (x5:Int) (x6:Cutting_choice) (x22:Cutting_choice) (x24:Bool):St:=
 ⟨[(1,vi a2),(2,vc (tl e_i64 default a3)),(3,vc (tl e_Cutting_choice default a4)),(4,vp 0 0),(8,vp 1 0),(9,vp 2 0),(13,vp 3 0),(18,vc (tl e_i64 default a1.Sizes)),(19,vi ((a1.Sizes.length:Nat):Int)),(20,vi x5),(89,vb x24)],[(0,bx 84 (zV a1)),(1,bx 207 [ci 0,ci 0,ci 0]),(2,bx 207 (e_Cutting_choice x6)),(3,bx 207 (e_Cutting_choice x22))]⟩
def CH (a1:Line) (a2:Int) (a3:List Int) (a4:List Cutting_choice) (x5:Int) (x6:Cutting_choice) (x22:Cutting_choice):St:=
 ⟨[(1,vi a2),(2,vc (tl e_i64 default a3)),(3,vc (tl e_Cutting_choice default a4)),(4,vp 0 0),(8,vp 1 0),(9,vp 2 0),(13,vp 3 0),(18,vc (tl e_i64 default a1.Sizes)),(19,vi ((a1.Sizes.length:Nat):Int)),(20,vi x5)],[(0,bx 84 (zV a1)),(1,bx 207 [ci 0,ci 0,ci 0]),(2,bx 207 (e_Cutting_choice x6)),(3,bx 207 (e_Cutting_choice x22))]⟩
def OU (a1:Line) (a2:Int) (a3:List Int) (a4:List Cutting_choice) (x5:Int) (x6:Cutting_choice) (x12:Bool):St:=
 ⟨[(1,vi a2),(2,vc (tl e_i64 default a3)),(3,vc (tl e_Cutting_choice default a4)),(4,vp 0 0),(8,vp 1 0),(9,vp 2 0),(10,vi x5),(12,vi (w64 (a2+(a1.Sizes.getD x5.toNat default)))),(18,vc (tl e_i64 default a1.Sizes)),(19,vi ((a1.Sizes.length:Nat):Int)),(20,vi x5),(42,vb x12)],[(0,bx 84 (zV a1)),(1,bx 207 [ci 0,ci 0,ci 0]),(2,bx 207 (e_Cutting_choice x6))]⟩
def BJ (a1:Line) (a2:Int) (a3:List Int) (a4:List Cutting_choice) (x5:Int) (x6:Cutting_choice):St:=
 ⟨[(1,vi a2),(2,vc (tl e_i64 default a3)),(3,vc (tl e_Cutting_choice default a4)),(4,vp 0 0),(8,vp 1 0),(9,vp 2 0),(18,vc (tl e_i64 default a1.Sizes)),(19,vi ((a1.Sizes.length:Nat):Int)),(20,vi x5)],[(0,bx 84 (zV a1)),(1,bx 207 [ci 0,ci 0,ci 0]),(2,bx 207 (e_Cutting_choice x6))]⟩
def ON (x27:Cutting_choice):St:=
 ⟨[(8,vp 1 0),(9,vp 2 0)],[(1,bx 207 [ci 0,ci 0,ci 0]),(2,bx 207 (e_Cutting_choice x27))]⟩
theorem qEM (E:Env 0) (a1:Line) (a2:Int) (a3:List Int) (a4:List Cutting_choice):∀(n:Nat) (x5:Int) (x6:Cutting_choice) (res:Cutting_choice),wE a1 a2 a3 a4 n x5 x6=some res->HL (kx E 93 0) (nd Tryz.f195 116) (zS 0 (λo=>ON o) res) n (BJ a1 a2 a3 a4 x5 x6):=by
 intro n
 induction n with
 |zero=>
  intro x5 x6 res hm;cases hm
 |succ n ih=>
  intro x5 x6 res hm;refine qM ?_;refine s_vu [] 3 [] [(21,vb (decide (x5<((a1.Sizes.length:Nat):Int))))] [] [] ?_;refine q_sq ?_;refine q_cm hm (λb7 hm=>?_) (λb7 hm=>?_)
  ·refine q_sk ?_;refine q_jn (ι:=Cutting_choice) (λp=>OM a1 a2 a3 a4 x5 p) (λp=>XM x5 (wE a1 a2 a3 a4 n) p=some res) ?_ ?_
   ·rintro x26 hm;show H _ (OM a1 a2 a3 a4 x5 x26) _ _;refine q_vu [] 4 [20] [(20,vi (w64 (x5+1)))] [] [] ?_;exact q_hl (BJ a1 a2 a3 a4 (w64 (x5+1)) x26) (ih (w64 (x5+1)) x26 _ hm)
   ·refine q_bk 1 ?_;obtain⟨g8,hm⟩:=qI hm;refine s_vu [qd 1 (Dir.none) (inb_of g8)] 3 [21] [(10,vi x5),(11,vi (a1.Sizes.getD x5.toNat default))] [] [] ?_;refine s_vu [] 3 [11] [(12,vi (w64 (a2+(a1.Sizes.getD x5.toNat default))))] [] [] ?_;refine q_sq ?_;refine q_jn (ι:=Bool) (λp=>OU a1 a2 a3 a4 x5 x6 p) (λp=>UU a1 a2 a3 a4 x5 x6 (wE a1 a2 a3 a4 n) p=some res) ?_ ?_
    ·rintro x12 hm;show H _ (OU a1 a2 a3 a4 x5 x6 x12) _ _;refine q_cm hm (λb13 hm=>?_) (λb13 hm=>?_)
     ·refine q_ex 1 ?_;exact q_J (x6) hm
     ·refine q_sk ?_;obtain⟨g14,hm⟩:=qI hm;obtain⟨g15,hm⟩:=qI hm;refine s_vu [qd 6 (Dir.none) (inb_of g14),qd 9 (Dir.none) (inb_of g15)] 3 [10,42] [(13,vp 3 0)] [] [(3,bx 207 [ci x5,ci a2,ci ((a1.Gain.getD x5.toNat default).getD a2.toNat default)])] ?_;refine q_jn (ι:=Cutting_choice) (λp=>CH a1 a2 a3 a4 x5 x6 p) (λp=>UL x5 x6 (wE a1 a2 a3 a4 n) p=some res) ?_ ?_
      ·rintro x22 hm;show H _ (CH a1 a2 a3 a4 x5 x6 x22) _ _;refine q_jn (ι:=Bool) (λp=>CL a1 a2 a3 a4 x5 x6 x22 p) (λp=>UJ x5 x6 (wE a1 a2 a3 a4 n) x22 p=some res) ?_ ?_
       ·rintro x24 hm;show H _ (CL a1 a2 a3 a4 x5 x6 x22 x24) _ _;refine q_cm hm (λb25 hm=>?_) (λb25 hm=>?_)
        ·refine q_vu [] 4 [13,89] [] [2,3] [(2,bx 207 (e_Cutting_choice x22))] ?_;exact q_J (x22) hm
        ·refine q_sk ?_;exact q_J (x6) hm
       ·rcases bif_c hm with⟨b23,hm⟩|⟨b23,hm⟩
        ·refine q_vu [qf 4 b23] 4 [] [(89,vb true)] [] [] ?_;exact q_J (true) hm
        ·refine q_vu [qf 4 b23] 4 [] [(89,vb (decide (x22.value>x6.value)))] [] [] ?_;exact q_J (decide (x22.value>x6.value)) hm
      ·obtain⟨v16,h17,hm⟩:=qB hm;refine s_vu [qc 2 [55,56] 4 (qAR a1 (w64 (a2+(a1.Sizes.getD x5.toNat default))) v16 h17)] 4 [] [(14,vi v16)] [] [] ?_;refine s_vu [] 4 [] [(59,vb (decide (v16≥0)))] [] [] ?_;refine q_cm hm (λb18 hm=>?_) (λb18 hm=>?_)
       ·obtain⟨g19,hm⟩:=qI hm;obtain⟨g20,hm⟩:=qI hm;obtain⟨g21,hm⟩:=qI hm;refine q_du [qd 4 (Dir.none) (inb_of g19),qd 8 (Dir.none) (inb_of g20),qd 13 (Dir.none) (inb_of g21)] [0,1,0,0,12,28,0,0,192,448,1020,0,0,6144,14336,30720,65532,131071,262143,524287] 4 [12,14,59] [] [3] [(3,bx 207 [ci x5,ci a2,ci (w64 (((a1.Gain.getD x5.toNat default).getD a2.toNat default)+(w64 ((w64 ((a3.getD v16.toNat default)-(a3.getD (w64 (a2+(a1.Sizes.getD x5.toNat default))).toNat default)))+((a4.getD v16.toNat default).value)))))])] ?_
        exact q_J ((Cutting_choice.mk (Piece.mk x5 a2) (w64 (((a1.Gain.getD x5.toNat default).getD a2.toNat default)+(w64 ((w64 ((a3.getD v16.toNat default)-(a3.getD (w64 (a2+(a1.Sizes.getD x5.toNat default))).toNat default)))+((a4.getD v16.toNat default).value))))))) hm
       ·refine q_sk ?_;exact q_J ((Cutting_choice.mk (Piece.mk x5 a2) ((a1.Gain.getD x5.toNat default).getD a2.toNat default))) hm
    ·rcases bif_c hm with⟨b9,hm⟩|⟨b9,hm⟩
     ·refine q_vu [qf 4 b9] 3 [] [(42,vb true)] [] [] ?_;exact q_J (true) hm
     ·obtain⟨g10,hm⟩:=qI hm;obtain⟨g11,hm⟩:=qI hm;refine q_vu [qf 4 b9,qd 8 (Dir.none) (inb_of g10),qd 11 (Dir.none) (inb_of g11)] 3 [] [(42,vb (decide (((a1.Gain.getD x5.toNat default).getD a2.toNat default)<0)))] [] [] ?_;exact q_J (decide (((a1.Gain.getD x5.toNat default).getD a2.toNat default)<0)) hm
  ·refine q_ex 0 ?_;obtain rfl:=oi hm;exact wO (by kernel_rfl) (by kernel_rfl)
theorem cutting_start_ok (a1:Line) (a2:Int) (a3:List Int) (a4:List Cutting_choice) (r:Cutting_choice) (hm:UY a1 a2 a3 a4=some r):CtX Tryz.prog globs 195 0 0 [.agg (zV a1),.one (ci a2),.one (tl e_i64 default a3),.one (tl e_Cutting_choice default a4)] [] (qCm r) (GV r):=by
 unfold UY at hm;refine q_E Tryz.f195 93 λE=>?_;refine s_vn [] 0 ⟨[(1,vi a2),(2,vc (tl e_i64 default a3)),(3,vc (tl e_Cutting_choice default a4)),(4,vp 0 0),(8,vp 1 0)],[(0,bx 84 (zV a1)),(1,bx 207 [ci 0,ci 0,ci 0])]⟩ ?_;refine s_vu [] 2 [] [(9,vp 2 0)] [] [(2,bx 207 [ci (-1),ci (-1),ci 0])] ?_;refine q_sq ?_;refine s_vu [] 3 [] [(18,vc (tl e_i64 default a1.Sizes)),(19,vi ((a1.Sizes.length:Nat):Int)),(20,vi 0)] [] [] ?_;obtain⟨o28,h29,hm⟩:=qB hm
 refine zL (nd Tryz.f195 116) 0 (by kernel_rfl) FUEL (λo=>ON o) o28 (q_hl (BJ a1 a2 a3 a4 0 (Cutting_choice.mk (Piece.mk (-1) (-1)) 0)) (qEM E a1 a2 a3 a4 FUEL 0 (Cutting_choice.mk (Piece.mk (-1) (-1)) 0) o28 h29)) ?_;refine s_vu [] 3 [9] [] [1,2] [(1,bx 207 (e_Cutting_choice o28))] ?_;obtain rfl:=oi hm;refine q_rt ?_;exact q_rm
def qJ2 (r:(List Int)):V:=vo 0 0 1 r.length
def qJL (r:(List Int)):List (Nat×(Nat×O)):=[(0,ro 0 3 1 r.length (rf e_i64 r))]
def FM (a1:List Int) (l3:List Int) (l3n:Nat) (x4:Int):St:=
 ⟨[(3,vo 0 0 1 l3n),(10,vc (tl e_i64 default a1)),(11,vi ((a1.length:Nat):Int)),(12,vi x4)],[(0,ro 0 3 1 l3n (rf e_i64 l3))]⟩
def qAB (l9:List Int):St:=
 ⟨[(3,vo 0 0 1 l9.length)],[(0,ro 0 3 1 l9.length (rf e_i64 l9))]⟩
theorem qE6 (E:Env 0) (a1:List Int):∀(n:Nat) (l3:List Int) (l3n:Nat) (x4:Int) (res:(List Int)),l3.length=l3n->JM a1 n l3 x4=some res->HL (kx E 29 0) (nd Tryz.f194 116) (zS 0 (λo=>qAB o) res) n (FM a1 l3 l3n x4):=by
 intro n
 induction n with
 |zero=>
  intro l3 l3n x4 res hl0 hm;cases hm
 |succ n ih=>
  intro l3 l3n x4 res hl0 hm;subst hl0;refine qM ?_;refine s_vu [] 1 [] [(13,vb (decide (x4<((a1.length:Nat):Int))))] [] [] ?_;refine q_sq ?_;refine q_cm hm (λb5 hm=>?_) (λb5 hm=>?_)
  ·refine q_sk ?_;refine q_sq ?_;refine q_bk 1 ?_;obtain⟨g6,hm⟩:=qI hm;refine s_vu [qd 1 (Dir.none) (inb_of g6)] 1 [13] [(4,vi x4),(5,vi (a1.getD x4.toNat default))] [] [] ?_;obtain⟨g7,hm⟩:=qI hm;obtain⟨g8,hm⟩:=qI hm
   refine q_vu [qd 5 (Dir.none) (inb_of g7),qd 6 (Dir.none) (toNat_lt (inb_of g7)),qd 9 (Dir.none) (inb_of g8),qd 10 (drw 0 0 (rf e_i64 (l3.set ((w64 (x4+1)).toNat) (w64 ((l3.getD x4.toNat default)+(a1.getD x4.toNat default)))))) (stP e_i64 default (w64 ((l3.getD x4.toNat default)+(a1.getD x4.toNat default))) l3 l3.length ((w64 (x4+1)).toNat) 0 [ci (w64 ((l3.getD x4.toNat default)+(a1.getD x4.toNat default)))] rfl (toNat_lt (inb_of g8)) rfl)] 1 [4,5] [] [0] [(0,ro 0 3 1 l3.length (rf e_i64 (l3.set ((w64 (x4+1)).toNat) (w64 ((l3.getD x4.toNat default)+(a1.getD x4.toNat default))))))] ?_
   refine q_vu [] 1 [12] [(12,vi (w64 (x4+1)))] [] [] ?_;exact q_hl (FM a1 (l3.set ((w64 (x4+1)).toNat) (w64 ((l3.getD x4.toNat default)+(a1.getD x4.toNat default)))) l3.length (w64 (x4+1))) (ih (l3.set ((w64 (x4+1)).toNat) (w64 ((l3.getD x4.toNat default)+(a1.getD x4.toNat default)))) l3.length (w64 (x4+1)) _ (len_set rfl) hm)
  ·refine q_ex 0 ?_;obtain rfl:=oi hm;exact wO (by kernel_rfl) (by kernel_rfl)
theorem qCs (a1:List Int) (r:(List Int)) (hm:TM a1=some r):CtX Tryz.prog globs 194 0 0 [.one (tl e_i64 default a1)] [] (qJ2 r) (qJL r):=by
 unfold TM at hm;refine q_E Tryz.f194 29 λE=>?_;refine s_vn [] 0 ⟨[(0,vc (tl e_i64 default a1))],[]⟩ ?_;obtain⟨g2,hm⟩:=qI hm;refine s_vu [qd 3 (drw 0 0 (rf e_i64 (List.replicate ((w64 (((a1.length:Nat):Int)+1)).toNat) 0))) (mkP e_i64 default 0 (w64 (((a1.length:Nat):Int)+1)) 8 [ci 0] (qF3 g2) rfl)] 0 [] [(3,vo 0 0 1 ((w64 (((a1.length:Nat):Int)+1)).toNat))] [] [(0,ro 0 3 1 ((w64 (((a1.length:Nat):Int)+1)).toNat) (rf e_i64 (List.replicate ((w64 (((a1.length:Nat):Int)+1)).toNat) 0)))] ?_;refine q_sq ?_
 refine s_vu [] 1 [0] [(10,vc (tl e_i64 default a1)),(11,vi ((a1.length:Nat):Int)),(12,vi 0)] [] [] ?_;obtain⟨o10,h11,hm⟩:=qB hm;refine zL (nd Tryz.f194 116) 0 (by kernel_rfl) FUEL (λo=>qAB o) o10 (q_hl (FM a1 (List.replicate ((w64 (((a1.length:Nat):Int)+1)).toNat) 0) ((w64 (((a1.length:Nat):Int)+1)).toNat) 0) (qE6 E a1 FUEL (List.replicate ((w64 (((a1.length:Nat):Int)+1)).toNat) 0) ((w64 (((a1.length:Nat):Int)+1)).toNat) 0 o10 qGd h11)) ?_;refine s_vu [] 1 [3] [(2,vo 0 0 1 o10.length)] [] [] ?_;obtain rfl:=oi hm;refine q_rt ?_;exact q_rm
end Saw
end Go.SL

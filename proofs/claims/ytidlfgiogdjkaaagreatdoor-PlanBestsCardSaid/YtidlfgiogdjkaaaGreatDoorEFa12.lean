import Derived.Test.YtidlfgiogdjkaaaGreatDoorEBase
import Derived.Test.YtidlfgiogdjkaaaGreatDoorEFa9
import Derived.Test.YtidlfgiogdjkaaaGreatDoorEFa11
set_option linter.unusedVariables false
set_option linter.unusedSimpArgs false
namespace Go.SL
namespace Saw
open Go.Proofs Go.Proofs.Tryz
set_option maxHeartbeats 4000000
set_option maxRecDepth 100000
def qWA (r:Line×Int):V:= .tup [.agg [ci r.1.Len,ci r.1.Kerf,ci r.1.Pitch,.own 0 0 1 r.1.Sizes.length,.own 1 0 1 r.1.Gain.length,.own 2 0 1 r.1.Chip.length,.own 3 0 1 r.1.Dust.length],.one (ci r.2)]
def qWn (r:Line×Int):List (Nat×(Nat×O)):=[(0,ro 0 3 1 r.1.Sizes.length (rf qA r.1.Sizes)),(1,ro 0 28 1 r.1.Gain.length (rf (qM qA) r.1.Gain)),(2,ro 0 3 1 r.1.Chip.length (rf qA r.1.Chip)),(3,ro 0 3 1 r.1.Dust.length (rf qA r.1.Dust))]
def GJ (a1:List qC) (a2:List qF) (a3:List Product) (a4:Rect) (a5:Saw) (a6:Rates) (v10:(List Int)×(List Int)) (x12:Int) (l13:List (List Int)):St:=
 ⟨[(0,vc (tl qL du a1)),(1,vc (tl qP du a2)),(2,vc (tl qH du a3)),(9,vp 0 0),(10,vp 1 0),(11,vp 2 0),(12,vp 3 0),(15,vo 4 0 1 v10.1.length),(16,vo 5 0 1 v10.2.length),(17,vp 6 0),(18,vi x12)],[(0,bx 33 (qO a4)),(1,bx 38 (zW a5)),(2,bx 40 (zN a6)),(3,bx 84 [ci 0,ci 0,ci 0,.emp,.emp,.emp,.emp]),(4,ro 0 3 1 v10.1.length (rf qA v10.1)),(5,ro 0 3 1 v10.2.length (rf qA v10.2)),(6,bx 84 [ci (w64 (a4.X.B-a4.X.A)),ci a5.Kerf,ci 1,.own 4 0 1 v10.1.length,.own 7 0 1 l13.length,.emp,.emp]),(7,ro 0 28 1 l13.length (rf (qM qA) l13))]⟩
def II (v10:(List Int)×(List Int)):St:=
 ⟨[(12,vp 3 0),(17,vp 6 0)],[(3,bx 84 [ci 0,ci 0,ci 0,.emp,.emp,.emp,.emp]),(4,ro 0 3 1 v10.1.length (rf qA v10.1))]⟩
def qOR (a1:List qC) (a2:List qF) (a3:List Product) (a4:Rect) (a5:Saw) (a6:Rates) (v10:(List Int)×(List Int)) (x12:Int) (l13:List (List Int)) (l15:List Int) (x16:Int) (x27:Int):St:=
 (GJ a1 a2 a3 a4 a5 a6 v10 x12 l13).up [] [(19,vo 8 0 1 l15.length),(20,vi x16),(21,vi x27)] [] [(8,ro 0 3 1 l15.length (rf qA l15))]
def qBQ (a1:List qC) (a2:List qF) (a3:List Product) (a4:Rect) (a5:Saw) (a6:Rates) (v10:(List Int)×(List Int)) (x12:Int) (l13:List (List Int)) (l15:List Int) (l15n:Nat) (x16:Int):St:=
 (GJ a1 a2 a3 a4 a5 a6 v10 x12 l13).up [] [(19,vo 8 0 1 l15n),(20,vi x16)] [] [(8,ro 0 3 1 l15n (rf qA l15))]
def qGm (a1:List qC) (a2:List qF) (a3:List Product) (a4:Rect) (a5:Saw) (a6:Rates) (v10:(List Int)×(List Int)) (x12:Int) (l13:List (List Int)) (l29:List Int):St:=
 (GJ a1 a2 a3 a4 a5 a6 v10 x12 l13).up [] [(19,vo 8 0 1 l29.length)] [] [(8,ro 0 3 1 l29.length (rf qA l29))]
def qAY (a1:List qC) (a2:List qF) (a3:List Product) (a4:Rect) (a5:Saw) (a6:Rates) (v10:(List Int)×(List Int)) (x12:Int) (l13:List (List Int)) (l13n:Nat):St:=
 (GJ a1 a2 a3 a4 a5 a6 v10 x12 l13).up [] [] [6,7] [(6,bx 84 [ci (w64 (a4.X.B-a4.X.A)),ci a5.Kerf,ci 1,.own 4 0 1 v10.1.length,.own 7 0 1 l13n,.emp,.emp]),(7,ro 0 28 1 l13n (rf (qM qA) l13))]
def qGC (a1:List qC) (a4:Rect) (a5:Saw) (a6:Rates) (v10:(List Int)×(List Int)) (l33:List (List Int)):St:=
 (II v10).up [] [(0,vc (tl qL du a1)),(9,vp 0 0),(11,vp 2 0)] [] [(0,bx 33 (qO a4)),(2,bx 40 (zN a6)),(6,bx 84 [ci (w64 (a4.X.B-a4.X.A)),ci a5.Kerf,ci 1,.own 4 0 1 v10.1.length,.own 7 0 1 l33.length,.emp,.emp]),(7,ro 0 28 1 l33.length (rf (qM qA) l33))]
def qA5 (a1:List qC) (a4:Rect) (a5:Saw) (a6:Rates) (v10:(List Int)×(List Int)) (o34:(List (List Int))) (x36:Int) (l37:List Int) (l37n:Nat) (l38:List Int) (l38n:Nat):St:=
 (II v10).up [] [(0,vc (tl qL du a1)),(9,vp 0 0),(11,vp 2 0),(22,vi x36)] [] [(0,bx 33 (qO a4)),(2,bx 40 (zN a6)),(6,bx 84 [ci (w64 (a4.X.B-a4.X.A)),ci a5.Kerf,ci 1,.own 4 0 1 v10.1.length,.own 7 0 1 o34.length,.own 8 0 1 l37n,.own 9 0 1 l38n]),(7,ro 0 28 1 o34.length (rf (qM qA) o34)),(8,ro 0 3 1 l37n (rf qA l37)),(9,ro 0 3 1 l38n (rf qA l38))]
def qFN (a4:Rect) (a5:Saw) (v10:(List Int)×(List Int)) (o34:(List (List Int))) (l46:List Int) (l47:List Int):St:=
 (II v10).up [] [] [] [(6,bx 84 [ci (w64 (a4.X.B-a4.X.A)),ci a5.Kerf,ci 1,.own 4 0 1 v10.1.length,.own 7 0 1 o34.length,.own 8 0 1 l46.length,.own 9 0 1 l47.length]),(7,ro 0 28 1 o34.length (rf (qM qA) o34)),(8,ro 0 3 1 l46.length (rf qA l46)),(9,ro 0 3 1 l47.length (rf qA l47))]
theorem qOp (E:Env 0) (a1:List qC) (a2:List qF) (a3:List Product) (a4:Rect) (a5:Saw) (a6:Rates) (v10:(List Int)×(List Int)) (x12:Int) (l13:List (List Int)):∀(n:Nat) (l15:List Int) (l15n:Nat) (x16:Int) (res:(List Int)),l15.length=l15n->ZN a1 a2 a3 a4 a5 a6 v10 x12 n l15 x16=some res->HL (kx E 143 0) (nd f98 128148) (zL 2 (λo=>qGm a1 a2 a3 a4 a5 a6 v10 x12 l13 o) res) n (qBQ a1 a2 a3 a4 a5 a6 v10 x12 l13 l15 l15n x16):=by
 intro n
 induction n with
 |zero=>
  intro l15 l15n x16 res hl0 hm;cases hm
 |succ n ih=>
  intro l15 l15n x16 res hl0 hm;subst hl0;refine qT (q_sq ?_);obtain⟨g17,hm⟩:=qI hm;refine s_du [qi 3 g17,qd 4 dN (qV (zC g17))] [0,0,0,6,14,31,0,64,255] 9 [] [(72,vb (decide ((w64 (x16+(v10.1.getD x12.toNat du)))<=(w64 (a4.X.B-a4.X.A)))))] [] [] (q_cq hm (λhm=>?_) (λhm=>?_))
  ·refine q_sk (q_sq ?_);refine q_bk 3 (s_vv [] 9 [72] [(21,vi (-1))] ?_);refine q_jn (qOR a1 a2 a3 a4 a5 a6 v10 x12 l13 l15 x16) (λp=>CG l15 x16 (ZN a1 a2 a3 a4 a5 a6 v10 x12 n) p=some res) ?_ ?_
   ·rintro x27 hm;obtain⟨g28,hm⟩:=qI hm;refine q_vu [qd 2 (drw 9 0 (rf qA [x27])) (litP qA du 1 (λ_=>rfl) ([x27]:List Int) 1 rfl),qd 3 (drw 8 1 (rf qA (l15++[x27]))) (apP qA du l15 ([x27]:List Int) l15.length 1 1 8 (1<=1) (ki _) rfl rfl (λ_=>rfl) (zI g28))] 9 [19,21] [(19,vo 8 1 1 (l15.length+1))] [8] [(8,ro 1 3 1 (l15.length+1) (rf qA (l15++[x27])))] (q_vv [] 10 [20] [(20,vi (w64 (x16+1)))] ?_);exact q_hl (qBQ a1 a2 a3 a4 a5 a6 v10 x12 l13 (l15++[x27]) (l15.length+1) (w64 (x16+1))) (ih (l15++[x27]) (l15.length+1) (w64 (x16+1)) _ (zE rfl rfl) hm)
   ·obtain⟨g19,hm⟩:=qI hm;refine s_vv [qd 3 dN (AP g19)] 9 [] [(79,vb ((Int.tmod x16 a5.Pitch)==0))] (q_cq hm (λhm=>?_) (λhm=>?_))
    ·obtain⟨g21,hm⟩:=qI hm;obtain⟨g22,hm⟩:=qI hm;obtain⟨v23,h24,hm⟩:=qB hm;obtain⟨v25,h26,hm⟩:=qB hm;exact q_du [qi 5 g21,qd 6 dN (qV (zC g21)),qi 7 g22,qi 14 g17,qd 15 dN (qV (zC g17)),qc 17 [89,90,96] 9 (qDK a4 x16 (w64 (x16+(v10.1.getD x12.toNat du))) v23 h24),qc 20 [80,81,88,97,98,99] 9 (qUA a1 a2 (a3.getD (v10.2.getD x12.toNat du).toNat du) v23 a5 a6 v25 h26)] [0,0,0,0,0,24,56,124,252,0,0,0,0,0,12288,28672,63488,130560,0,0,1048575,2097151] 9 [21,79] [(21,vi v25)] [] [] (q_J (v25) hm)
    ·exact q_sk (q_J ((-1)) hm)
  ·refine q_ex 2 ?_;obtain rfl:=oi hm;exact q_l0
theorem qOg (E:Env 0) (a1:List qC) (a2:List qF) (a3:List Product) (a4:Rect) (a5:Saw) (a6:Rates) (v10:(List Int)×(List Int)):∀(n:Nat) (x12:Int) (l13:List (List Int)) (l13n:Nat) (res:(List (List Int))),l13.length=l13n->KZ a1 a2 a3 a4 a5 a6 v10 n x12 l13=some res->HL (kx E 143 0) (nd f98 500) (zL 0 (λo=>qGC a1 a4 a5 a6 v10 o) res) n (qAY a1 a2 a3 a4 a5 a6 v10 x12 l13 l13n):=by
 intro n
 induction n with
 |zero=>
  intro x12 l13 l13n res hl0 hm;cases hm
 |succ n ih=>
  intro x12 l13 l13n res hl0 hm;subst hl0;refine qT (q_sq ?_);refine s_va 8 [(61,vb (decide (x12<(v10.1.length:Int))))] (q_cq hm (λhm=>?_) (λhm=>?_))
  ·refine q_sk (q_sq ?_);refine q_bk 1 (s_vv [] 8 [61] [(19,vc (.emp))] ?_);refine q_sq (s_va 8 [(20,vi 0)] ?_);refine q_fo 19 8 3 1 qA ?_;obtain⟨o30,h31,hm⟩:=qB hm;refine zF (nd f98 128148) 2 (by kernel_rfl) FUEL (λo=>qGm a1 a2 a3 a4 a5 a6 v10 x12 l13 o) o30 (q_hl (qBQ a1 a2 a3 a4 a5 a6 v10 x12 l13 ([]:List Int) 0 0) (qOp E a1 a2 a3 a4 a5 a6 v10 x12 l13 FUEL ([]:List Int) 0 0 o30 rfl h31)) ?_;obtain⟨g32,hm⟩:=qI hm
   refine q_vu [qd 3 (dpr [.frz 8] (drw 9 0 (rf (qM qA) [o30]))) (And.intro (ki o30.length) (ki o30.length)),qd 3 dN (litP (qM qA) du 1 (λ_=>rfl) ([o30]:List (List Int)) 1 rfl),qd 4 (drw 7 1 (rf (qM qA) (l13++[o30]))) (apP (qM qA) du l13 ([o30]:List (List Int)) l13.length 1 1 24 (1<=1) (ki _) rfl rfl (λ_=>rfl) (zI g32))] 9 [19] [] [6,7,8] [(6,bx 84 [ci (w64 (a4.X.B-a4.X.A)),ci a5.Kerf,ci 1,.own 4 0 1 v10.1.length,.own 7 1 1 (l13.length+1),.emp,.emp]),(7,ro 1 28 1 (l13.length+1) (rf (qM qA) (l13++[o30])))] (q_vv [] 10 [18] [(18,vi (w64 (x12+1)))] ?_)
   exact q_hl (qAY a1 a2 a3 a4 a5 a6 v10 (w64 (x12+1)) (l13++[o30]) (l13.length+1)) (ih (w64 (x12+1)) (l13++[o30]) (l13.length+1) _ (zE rfl rfl) hm)
  ·refine q_ex 0 ?_;obtain rfl:=oi hm;exact q_l0
theorem qM1 (E:Env 0) (a1:List qC) (a4:Rect) (a5:Saw) (a6:Rates) (v10:(List Int)×(List Int)) (o34:(List (List Int))):∀(n:Nat) (x36:Int) (l37:List Int) (l37n:Nat) (l38:List Int) (l38n:Nat) (res:(List Int)×(List Int)),l37.length=l37n->l38.length=l38n->PA a1 a4 a6 n x36 l37 l38=some res->HL (kx E 143 0) (nd f98 1012) (zL 4 (λo=>qFN a4 a5 v10 o34 o.1 o.2) res) n (qA5 a1 a4 a5 a6 v10 o34 x36 l37 l37n l38 l38n):=by
 intro n
 induction n with
 |zero=>
  intro x36 l37 l37n l38 l38n res hl0 hl1 hm;cases hm
 |succ n ih=>
  intro x36 l37 l37n l38 l38n res hl0 hl1 hm;subst hl0;subst hl1;refine qT (q_sq ?_);refine s_va 10 [(114,vb (decide (x36<(w64 (a4.X.B-a4.X.A)))))] (q_cq hm (λhm=>?_) (λhm=>?_))
  ·refine q_sk (q_sq ?_);refine q_bk 5 ?_;obtain⟨v40,h41,hm⟩:=qB hm;obtain⟨v42,h43,hm⟩:=qB hm;refine s_vv [qc 5 [118,119,121] 10 (qDK a4 x36 (w64 (x36+1)) v40 h41),qc 6 [117,122] 10 (qGU a1 v40 v42 h43)] 10 [114] [(23,vi v42)] ?_;obtain⟨g44,hm⟩:=qI hm
   refine s_vu [qd 6 (drw 10 0 (rf qA [w64 (a6.Chip*v42)])) (litP qA du 1 (λ_=>rfl) ([w64 (a6.Chip*v42)]:List Int) 1 rfl),qd 7 (drw 8 1 (rf qA (l37++[w64 (a6.Chip*v42)]))) (apP qA du l37 ([w64 (a6.Chip*v42)]:List Int) l37.length 1 1 8 (1<=1) (ki _) rfl rfl (λ_=>rfl) (zI g44))] 10 [] [] [6,8] [(6,bx 84 [ci (w64 (a4.X.B-a4.X.A)),ci a5.Kerf,ci 1,.own 4 0 1 v10.1.length,.own 7 0 1 o34.length,.own 8 1 1 (l37.length+1),.own 9 0 1 l38.length]),(8,ro 1 3 1 (l37.length+1) (rf qA (l37++[w64 (a6.Chip*v42)])))] ?_;obtain⟨g45,hm⟩:=qI hm
   refine q_vu [qd 6 (drw 11 0 (rf qA [w64 (a6.Dust*v42)])) (litP qA du 1 (λ_=>rfl) ([w64 (a6.Dust*v42)]:List Int) 1 rfl),qd 7 (drw 9 1 (rf qA (l38++[w64 (a6.Dust*v42)]))) (apP qA du l38 ([w64 (a6.Dust*v42)]:List Int) l38.length 1 1 8 (1<=1) (ki _) rfl rfl (λ_=>rfl) (zI g45))] 11 [23] [] [6,9] [(6,bx 84 [ci (w64 (a4.X.B-a4.X.A)),ci a5.Kerf,ci 1,.own 4 0 1 v10.1.length,.own 7 0 1 o34.length,.own 8 1 1 (l37.length+1),.own 9 1 1 (l38.length+1)]),(9,ro 1 3 1 (l38.length+1) (rf qA (l38++[w64 (a6.Dust*v42)])))] (q_vv [] 12 [22] [(22,vi (w64 (x36+1)))] ?_)
   exact q_hl (qA5 a1 a4 a5 a6 v10 o34 (w64 (x36+1)) (l37++[w64 (a6.Chip*v42)]) (l37.length+1) (l38++[w64 (a6.Dust*v42)]) (l38.length+1)) (ih (w64 (x36+1)) (l37++[w64 (a6.Chip*v42)]) (l37.length+1) (l38++[w64 (a6.Dust*v42)]) (l38.length+1) _ (zE rfl rfl) (zE rfl rfl) hm)
  ·refine q_ex 4 ?_;obtain rfl:=oi hm;exact q_l0
theorem qTK (a1:List qC) (a2:List qF) (a3:List Product) (a4:Rect) (a5:Saw) (a6:Rates) (r:Line×Int) (hm:qBU a1 a2 a3 a4 a5 a6=some r):CtX Tryz.prog globs 98 0 0 [.one (tl qL du a1),.one (tl qP du a2),.one (tl qH du a3),.agg (qO a4),.agg (zW a5),.agg (zN a6)] [] (qWA r) (qWn r):=by
 unfold qBU at hm;refine q_E f98 143 λE=>?_;refine s_vn [] 0 ⟨[(0,vc (tl qL du a1)),(1,vc (tl qP du a2)),(2,vc (tl qH du a3)),(9,vp 0 0),(10,vp 1 0),(11,vp 2 0),(12,vp 3 0)],[(0,bx 33 (qO a4)),(1,bx 38 (zW a5)),(2,bx 40 (zN a6)),(3,bx 84 [ci 0,ci 0,ci 0,.emp,.emp,.emp,.emp])]⟩ (q_sq ?_);obtain⟨v7,h8,hm⟩:=qB hm;refine s_vv [qc 6 [24,25,26,27,28,29] 4 (qRI a1 a2 a3 a4 a5 a6 v7 h8)] 4 [] [(14,vi v7)] (s_va 4 [(32,vb (v7 !=0))] ?_);refine q_cq hm (λhm=>?_) (λhm=>?_)
 ·refine s_vu [] 4 [0,1,2,9,10,11,14,32] [(13,vi v7)] [0,1,2] [] (q_fu [.ownB 3 3 4 3 1 (rf qA [])] [] [] [3] [(3,bx 84 [ci 0,ci 0,ci 0,.own 4 0 1 0,.emp,.emp,.emp]),(4,ro 0 3 1 0 (rf qA []))] o0 ?_);refine q_fu [.ownB 3 4 5 28 1 (rf (qM qA) [])] [] [] [3] [(3,bx 84 [ci 0,ci 0,ci 0,.own 4 0 1 0,.own 5 0 1 0,.emp,.emp]),(5,ro 0 28 1 0 (rf (qM qA) []))] o0 (q_fu [.ownB 3 5 6 3 1 (rf qA [])] [] [] [3] [(3,bx 84 [ci 0,ci 0,ci 0,.own 4 0 1 0,.own 5 0 1 0,.own 6 0 1 0,.emp]),(6,ro 0 3 1 0 (rf qA []))] o0 ?_)
  refine q_fu [.ownB 3 6 7 3 1 (rf qA [])] [] [] [3] [(3,bx 84 [ci 0,ci 0,ci 0,.own 4 0 1 0,.own 5 0 1 0,.own 6 0 1 0,.own 7 0 1 0]),(7,ro 0 3 1 0 (rf qA []))] o0 (q_fu [.len 4 (([]:List Int).length)] [] [] [3,4] [(3,bx 84 [ci 0,ci 0,ci 0,.own 4 0 1 (([]:List Int).length),.own 5 0 1 0,.own 6 0 1 0,.own 7 0 1 0]),(4,ro 0 3 1 (([]:List Int).length) (rf qA []))] (o1 (And.intro (show 0=([]:List Int).length from rfl) (show 0=([]:List Int).length from rfl))) ?_)
  refine q_fu [.len 5 (([]:List (List Int)).length)] [] [] [3,5] [(3,bx 84 [ci 0,ci 0,ci 0,.own 4 0 1 (([]:List Int).length),.own 5 0 1 (([]:List (List Int)).length),.own 6 0 1 0,.own 7 0 1 0]),(5,ro 0 28 1 (([]:List (List Int)).length) (rf (qM qA) []))] (o1 (And.intro (show 0=([]:List (List Int)).length from rfl) (show 0=([]:List (List Int)).length from rfl))) (q_fu [.len 6 (([]:List Int).length)] [] [] [3,6] [(3,bx 84 [ci 0,ci 0,ci 0,.own 4 0 1 (([]:List Int).length),.own 5 0 1 (([]:List (List Int)).length),.own 6 0 1 (([]:List Int).length),.own 7 0 1 0]),(6,ro 0 3 1 (([]:List Int).length) (rf qA []))] (o1 (And.intro (show 0=([]:List Int).length from rfl) (show 0=([]:List Int).length from rfl))) ?_)
  refine q_fu [.len 7 (([]:List Int).length)] [] [] [3,7] [(3,bx 84 [ci 0,ci 0,ci 0,.own 4 0 1 (([]:List Int).length),.own 5 0 1 (([]:List (List Int)).length),.own 6 0 1 (([]:List Int).length),.own 7 0 1 (([]:List Int).length)]),(7,ro 0 3 1 (([]:List Int).length) (rf qA []))] (o1 (And.intro (show 0=([]:List Int).length from rfl) (show 0=([]:List Int).length from rfl))) ?_;obtain rfl:=oi hm;refine q_sw 4 0 (q_sw 5 1 ?_);refine q_sw 6 2 (q_sw 7 3 ?_);exact q_rt q_rm
 ·refine q_sk ?_;obtain⟨v10,h11,hm⟩:=qB hm;refine s_vu [qc 8 [36,43] 4 (qHO a3 (w64 (a4.Y.B-a4.Y.A)) v10 h11)] 4 [14,32] [(15,vo 4 0 1 v10.1.length),(16,vo 5 0 1 v10.2.length)] [] [(4,ro 0 3 1 v10.1.length (rf qA v10.1)),(5,ro 0 3 1 v10.2.length (rf qA v10.2))] (s_vu [] 6 [] [(17,vp 6 0)] [] [(6,bx 84 [ci (w64 (a4.X.B-a4.X.A)),ci a5.Kerf,ci 1,.own 4 0 1 v10.1.length,.emp,.emp,.emp])] ?_);refine q_sq (s_va 7 [(18,vi 0)] ?_)
  refine q_fu [.ownB 6 4 7 28 1 (rf (qM qA) [])] [] [] [6] [(6,bx 84 [ci (w64 (a4.X.B-a4.X.A)),ci a5.Kerf,ci 1,.own 4 0 1 v10.1.length,.own 7 0 1 0,.emp,.emp]),(7,ro 0 28 1 0 (rf (qM qA) []))] o0 ?_;obtain⟨o34,h35,hm⟩:=qB hm;refine zF (nd f98 500) 0 (by kernel_rfl) FUEL (λo=>qGC a1 a4 a5 a6 v10 o) o34 (q_hl (qAY a1 a2 a3 a4 a5 a6 v10 0 ([]:List (List Int)) 0) (qOg E a1 a2 a3 a4 a5 a6 v10 FUEL 0 ([]:List (List Int)) 0 o34 rfl h35)) (q_sq ?_)
  refine s_va 8 [(22,vi 0)] (q_fu [.ownB 6 5 8 3 1 (rf qA [])] [] [] [6] [(6,bx 84 [ci (w64 (a4.X.B-a4.X.A)),ci a5.Kerf,ci 1,.own 4 0 1 v10.1.length,.own 7 0 1 o34.length,.own 8 0 1 0,.emp]),(8,ro 0 3 1 0 (rf qA []))] o0 ?_);refine q_fu [.ownB 6 6 9 3 1 (rf qA [])] [] [] [6] [(6,bx 84 [ci (w64 (a4.X.B-a4.X.A)),ci a5.Kerf,ci 1,.own 4 0 1 v10.1.length,.own 7 0 1 o34.length,.own 8 0 1 0,.own 9 0 1 0]),(9,ro 0 3 1 0 (rf qA []))] o0 ?_;obtain⟨o48,h49,hm⟩:=qB hm
  refine zF (nd f98 1012) 4 (by kernel_rfl) FUEL (λo=>qFN a4 a5 v10 o34 o.1 o.2) o48 (q_hl (qA5 a1 a4 a5 a6 v10 o34 0 ([]:List Int) 0 ([]:List Int) 0) (qM1 E a1 a4 a5 a6 v10 o34 FUEL 0 ([]:List Int) 0 ([]:List Int) 0 o48 rfl rfl h49)) (s_vu [] 10 [17] [(13,vi 0)] [3,6] [(3,bx 84 [ci (w64 (a4.X.B-a4.X.A)),ci a5.Kerf,ci 1,.own 4 0 1 v10.1.length,.own 7 0 1 o34.length,.own 8 0 1 o48.1.length,.own 9 0 1 o48.2.length])] ?_);obtain rfl:=oi hm;refine q_sw 4 0 (q_sw 7 1 ?_);refine q_sw 8 2 (q_sw 9 3 ?_);exact q_rt q_rm
def qTS (r:Int):V:=vi r
def qTC (r:Int):List (Nat×(Nat×O)):=[]
theorem qRc (a1:Line) (a2:qX) (a3:List Int) (a4:List qS) (r:Int) (hm:OQ a1 a2 a3 a4=some r):CtX Tryz.prog globs 159 0 0 [.agg (wB a1),.agg (zY a2),.one (tl qA du a3),.one (tl zU du a4)] [] (qTS r) (qTC r):=by
 unfold OQ at hm;refine q_E f159 60 λE=>?_;refine s_vn [] 0 ⟨[(2,vc (tl qA du a3)),(3,vc (tl zU du a4)),(4,vp 0 0),(5,vp 1 0)],[(0,bx 84 (wB a1)),(1,bx 92 (zY a2))]⟩ ?_;obtain⟨g5,hm⟩:=qI hm;obtain⟨g6,hm⟩:=qI hm;refine s_du [qi 4 g5,qi 8 g6] [0,1,0,4,15,31,0,64,255,511,1023] 2 [] [(9,vi ((a1.Gain.getD a2.Size.toNat du).getD a2.At.toNat du))] [] [] ?_;obtain⟨g7,hm⟩:=qI hm;refine s_du [qi 6 g7] [0,1,0,4,0,16,60,124,255,511] 2 [5] [(10,vi (w64 (a2.At+(a1.Sizes.getD a2.Size.toNat du))))] [1] [] (q_sq ?_)
 refine s_va 2 [(34,vb ((w64 (a2.At+(a1.Sizes.getD a2.Size.toNat du)))==a1.Len))] (q_cq hm (λhm=>?_) (λhm=>?_))
 ·refine s_vn [] 2 ⟨[(8,vi ((a1.Gain.getD a2.Size.toNat du).getD a2.At.toNat du))],[]⟩ ?_;obtain rfl:=oi hm;exact q_rt q_rm
 ·refine q_sk (s_vu [] 2 [4,34] [(11,vi (imin (w64 ((w64 (a2.At+(a1.Sizes.getD a2.Size.toNat du)))+a1.Kerf)) a1.Len))] [0] [] ?_);obtain⟨g9,hm⟩:=qI hm;obtain⟨g10,hm⟩:=qI hm;obtain⟨g11,hm⟩:=qI hm
  refine s_dn [qi 3 g9,qi 8 g10,qi 13 g11] [0,0,0,6,14,31,0,0,192,448,1023,0,0,6144,14336,30720,65535,131071] 2 ⟨[(8,vi (w64 ((w64 ((w64 (((a1.Gain.getD a2.Size.toNat du).getD a2.At.toNat du)+(a3.getD (imin (w64 ((w64 (a2.At+(a1.Sizes.getD a2.Size.toNat du)))+a1.Kerf)) a1.Len).toNat du)))-(a3.getD (w64 (a2.At+(a1.Sizes.getD a2.Size.toNat du))).toNat du)))+((a4.getD (imin (w64 ((w64 (a2.At+(a1.Sizes.getD a2.Size.toNat du)))+a1.Kerf)) a1.Len).toNat du).value))))],[]⟩ ?_;obtain rfl:=oi hm;exact q_rt q_rm
def qK1 (r:qS):V:=va (zU r)
def qBW (r:qS):List (Nat×(Nat×O)):=[]
theorem qWy (r:qS):jS (qBW r):=by
 intro i k o h;unfold qBW at h;cases h
def JP (a1:Line) (a2:Int) (a3:List Int) (a4:List Int) (a5:List qS) (x8:Int):St:=
 ⟨[(1,vi a2),(2,vc (tl qA du a3)),(3,vc (tl qA du a4)),(4,vc (tl zU du a5)),(5,vp 0 0),(10,vp 1 0),(11,vp 2 0),(12,vi x8)],[(0,bx 84 (wB a1)),(1,bx 156 [ci 0,ci 0,ci 0])]⟩
def qPZ (a1:Line) (a2:Int) (a3:List Int) (a4:List Int) (a5:List qS) (x8:Int) (x17:Int) (x18:Int) (x19:Int) (x31:qS):St:=
 (JP a1 a2 a3 a4 a5 x8).up [] [(13,vi x17),(14,vi x18),(15,vi x19)] [] [(2,bx 156 (zU x31))]
def qPq (a1:Line) (a2:Int) (a3:List Int) (a4:List Int) (a5:List qS) (x8:Int) (x17:Int) (x18:Int) (x19:Int) (x20:qS) (x26:Bool):St:=
 (JP a1 a2 a3 a4 a5 x8).up [] [(13,vi x17),(14,vi x18),(15,vi x19),(103,vb x26)] [] [(2,bx 156 (zU x20))]
def qBs (a1:Line) (a2:Int) (a3:List Int) (a4:List Int) (a5:List qS) (x8:Int) (x17:Int) (x18:Int) (x19:Int) (x20:qS):St:=
 (JP a1 a2 a3 a4 a5 x8).up [] [(13,vi x17),(14,vi x18),(15,vi x19)] [] [(2,bx 156 (zU x20))]
def qGB (a1:Line) (a2:Int) (a3:List Int) (a4:List Int) (a5:List qS) (x8:Int) (x32:qS):St:=
 (JP a1 a2 a3 a4 a5 x8).up [] [] [] [(2,bx 156 (zU x32))]
def qGJ (a1:Line) (a2:Int) (a3:List Int) (a4:List Int) (a5:List qS) (x8:Int) (x9:qS) (x17:Int) (x18:Int):St:=
 (JP a1 a2 a3 a4 a5 x8).up [] [(13,vi x17),(14,vi x18)] [] [(2,bx 156 (zU x9))]
def qBr (a1:Line) (a2:Int) (a3:List Int) (a4:List Int) (a5:List qS) (x8:Int) (x9:qS):St:=
 (JP a1 a2 a3 a4 a5 x8).up [] [] [] [(2,bx 156 (zU x9))]
def qGu (x35:qS):St:=
 ⟨[(10,vp 1 0),(11,vp 2 0)],[(1,bx 156 [ci 0,ci 0,ci 0]),(2,bx 156 (zU x35))]⟩
theorem qOA (E:Env 0) (a1:Line) (a2:Int) (a3:List Int) (a4:List Int) (a5:List qS) (x8:Int) (x17:Int) (x18:Int):∀(n:Nat) (x19:Int) (x20:qS) (res:qS),QF a1 a4 a5 x17 x18 n x19 x20=some res->HL (kx E 122 0) (nd f97 29852) (zL 2 (λo=>qGB a1 a2 a3 a4 a5 x8 o) res) n (qBs a1 a2 a3 a4 a5 x8 x17 x18 x19 x20):=by
 intro n
 induction n with
 |zero=>
  intro x19 x20 res hm;cases hm
 |succ n ih=>
  intro x19 x20 res hm;refine qT (q_sq ?_);refine s_va 3 [(80,vb (decide (x19<(a1.Sizes.length:Int))))] (q_cq hm (λhm=>?_) (λhm=>?_))
  ·refine q_sk (q_jn (qPZ a1 a2 a3 a4 a5 x8 x17 x18 x19) (λp=>FR x19 (QF a1 a4 a5 x17 x18 n) p=some res) ?_ ?_)
   ·rintro x31 hm;exact q_vv [] 4 [15] [(15,vi (w64 (x19+1)))] (q_hl (qBs a1 a2 a3 a4 a5 x8 x17 x18 (w64 (x19+1)) x31) (ih (w64 (x19+1)) x31 _ hm))
   ·refine q_bk 3 (q_sq ?_);refine q_jn (qPq a1 a2 a3 a4 a5 x8 x17 x18 x19 x20) (λp=>CS a1 a4 a5 x17 x18 x19 x20 (QF a1 a4 a5 x17 x18 n) p=some res) ?_ ?_
    ·rintro x26 hm;refine q_cq hm (λhm=>?_) (λhm=>?_)
     ·exact q_ex 3 (q_J (x20) hm)
     ·refine q_sk (s_vu [] 3 [103] [(16,vp 3 0)] [] [(3,bx 92 [ci x19,ci x17])] ?_);obtain⟨v28,h29,hm⟩:=qB hm;refine s_vv [qc 5 [108,109,110,111] 4 (qRc a1 (qX.mk x19 x17) a4 a5 v28 h29)] 4 [] [(17,vi (w64 (x18+v28)))] (s_va 4 [(117,vb (decide ((w64 (x18+v28))>x20.value)))] ?_);refine q_cq hm (λhm=>?_) (λhm=>?_)
      ·exact q_vu [] 4 [16,17,117] [] [2,3] [(2,bx 156 [ci (w64 (x18+v28)),ci x19,ci x17])] (q_J ((qS.mk (w64 (x18+v28)) (qX.mk x19 x17))) hm)
      ·exact q_sk (q_J (x20) hm)
    ·obtain⟨g22,hm⟩:=qI hm;rcases bif_c hm with⟨b23,hm⟩|⟨b23,hm⟩
     ·exact q_du [qi 6 g22,qf 10 b23] [0,0,2,0,8,0,56,120,254,511,1023,2047,4095,2047,16383,32767,2047,131071,262143,524287,1048575] 3 [80] [(103,vb true)] [] [] (q_J (true) hm)
     ·obtain⟨g24,hm⟩:=qI hm;obtain⟨g25,hm⟩:=qI hm;exact q_du [qi 6 g22,qf 10 b23,qi 14 g24,qi 17 g25] [0,0,2,0,8,0,56,120,254,511,1023,2047,4095,2047,16383,32767,2047,131071,262143,524287,1048575] 3 [80] [(103,vb (decide (((a1.Gain.getD x19.toNat du).getD x17.toNat du)<0)))] [] [] (q_J (decide (((a1.Gain.getD x19.toNat du).getD x17.toNat du)<0)) hm)
  ·refine q_ex 2 ?_;obtain rfl:=oi hm;exact q_l0
theorem qOy (E:Env 0) (a1:Line) (a2:Int) (a3:List Int) (a4:List Int) (a5:List qS):∀(n:Nat) (x8:Int) (x9:qS) (res:qS),QE a1 a2 a3 a4 a5 n x8 x9=some res->HL (kx E 122 0) (nd f97 116) (zL 0 qGu res) n (qBr a1 a2 a3 a4 a5 x8 x9):=by
 intro n
 induction n with
 |zero=>
  intro x8 x9 res hm;cases hm
 |succ n ih=>
  intro x8 x9 res hm;refine qT (q_sq ?_);refine s_va 3 [(35,vb (decide ((w64 (a2+x8))<=a1.Len)))] (q_cq hm (λhm=>?_) (λhm=>?_))
  ·refine q_sk (q_sq ?_);refine q_bk 1 (s_vv [] 3 [35] [(13,vi a2),(14,vi 0)] ?_);refine q_jn (ι:=Int×Int) (λp=>qGJ a1 a2 a3 a4 a5 x8 x9 p.1 p.2) (λp=>FP a1 a4 a5 x8 x9 (QE a1 a2 a3 a4 a5 n) p.1 p.2=some res) ?_ ?_
   ·rintro⟨x17,x18⟩ hm;show H _ (qGJ a1 a2 a3 a4 a5 x8 x9 x17 x18) _ _;refine s_va 3 [(15,vi 0)] ?_;obtain⟨o33,h34,hm⟩:=qB hm;refine zF (nd f97 29852) 2 (by kernel_rfl) FUEL (λo=>qGB a1 a2 a3 a4 a5 x8 o) o33 (q_hl (qBs a1 a2 a3 a4 a5 x8 x17 x18 0 x9) (qOA E a1 a2 a3 a4 a5 x8 x17 x18 FUEL 0 x9 o33 h34)) (q_vv [] 3 [12] [(12,vi (w64 (x8+a1.Pitch)))] ?_);exact q_hl (qBr a1 a2 a3 a4 a5 (w64 (x8+a1.Pitch)) o33) (ih (w64 (x8+a1.Pitch)) o33 _ hm)
   ·refine s_va 3 [(42,vb (decide (x8>0)))] (q_cq hm (λhm=>?_) (λhm=>?_))
    ·refine s_vv [] 3 [13,14,42] [(13,vi (w64 ((w64 (a2+x8))+a1.Kerf)))] (q_sq ?_);refine s_va 3 [(52,vb (decide ((w64 ((w64 (a2+x8))+a1.Kerf))>a1.Len)))] (q_cq hm (λhm=>?_) (λhm=>?_))
     ·refine q_ex 0 ?_;obtain rfl:=oi hm;exact q_l0
     ·refine q_sk ?_;obtain⟨g13,hm⟩:=qI hm;obtain⟨g14,hm⟩:=qI hm;obtain⟨g15,hm⟩:=qI hm;obtain⟨g16,hm⟩:=qI hm
      exact q_du [qi 4 g13,qi 8 g14,qi 13 g15,qi 20 g16] [0,0,0,6,15,31,0,0,192,448,1023,0,0,6144,14336,32767,0,0,0,393216,983040,2031616,4194303,8388607] 3 [52] [(14,vi (w64 ((w64 ((w64 ((a3.getD (w64 (a2+x8)).toNat du)-(a3.getD a2.toNat du)))+(a4.getD (w64 ((w64 (a2+x8))+a1.Kerf)).toNat du)))-(a4.getD (w64 (a2+x8)).toNat du))))] [] [] (q_J (w64 ((w64 (a2+x8))+a1.Kerf),w64 ((w64 ((w64 ((a3.getD (w64 (a2+x8)).toNat du)-(a3.getD a2.toNat du)))+(a4.getD (w64 ((w64 (a2+x8))+a1.Kerf)).toNat du)))-(a4.getD (w64 (a2+x8)).toNat du))) hm)
    ·exact q_sk (q_J (a2,0) hm)
  ·refine q_ex 0 ?_;obtain rfl:=oi hm;exact q_l0
theorem qTB (a1:Line) (a2:Int) (a3:List Int) (a4:List Int) (a5:List qS) (r:qS) (hm:qA4 a1 a2 a3 a4 a5=some r):CtX Tryz.prog globs 97 0 0 [.agg (wB a1),.one (ci a2),.one (tl qA du a3),.one (tl qA du a4),.one (tl zU du a5)] [] (qK1 r) (qBW r):=by
 unfold qA4 at hm;refine q_E f97 122 λE=>?_;refine s_vn [] 0 ⟨[(1,vi a2),(2,vc (tl qA du a3)),(3,vc (tl qA du a4)),(4,vc (tl zU du a5)),(5,vp 0 0),(10,vp 1 0)],[(0,bx 84 (wB a1)),(1,bx 156 [ci 0,ci 0,ci 0])]⟩ ?_;obtain⟨g6,hm⟩:=qI hm;obtain⟨g7,hm⟩:=qI hm;refine s_du [qi 3 g6,qi 7 g7] [0,0,2,7,15,0,0,96,224,511,0,2047,0,8191] 2 [] [(11,vp 2 0)] [] [(2,bx 156 [ci (w64 ((a3.getD a1.Len.toNat du)-(a3.getD a2.toNat du))),ci (-1),ci 0])] (q_sq ?_);refine s_va 3 [(12,vi 0)] ?_;obtain⟨o36,h37,hm⟩:=qB hm
 refine zF (nd f97 116) 0 (by kernel_rfl) FUEL qGu o36 (q_hl (qBr a1 a2 a3 a4 a5 0 (qS.mk (w64 ((a3.getD a1.Len.toNat du)-(a3.getD a2.toNat du))) (qX.mk (-1) 0))) (qOy E a1 a2 a3 a4 a5 FUEL 0 (qS.mk (w64 ((a3.getD a1.Len.toNat du)-(a3.getD a2.toNat du))) (qX.mk (-1) 0)) o36 h37)) (s_vu [] 3 [11] [] [1,2] [(1,bx 156 (zU o36))] ?_);obtain rfl:=oi hm;exact q_rt q_rm
open Go.Proofs Go.Proofs.Tryz
def qDD (r:Bool):V:=vb r
def qDC (r:Bool):List (Nat×(Nat×O)):=[]
def qOt (a1:List Int) (x2:Int) (x6:Bool):St:=
 ⟨[(0,vc (tl qA du a1)),(3,vi x2),(21,vb x6)],[]⟩
def qAg (a1:List Int) (x2:Int):St:=
 ⟨[(0,vc (tl qA du a1)),(3,vi x2)],[]⟩
def qFA :St:=
 ⟨[],[]⟩
theorem qMf (E:Env 0) (a1:List Int):∀(n:Nat) (x2:Int) (res:Bool⊕Unit),WF a1 n x2=some res->HL (kx E 22 0) (nd f158 52) (wN 0 (λo=>qFA) (λv st=>RetQ Tryz.prog f158 (qDD v) (qDC v) .ret st) res) n (qAg a1 x2):=by
 intro n
 induction n with
 |zero=>
  intro x2 res hm;cases hm
 |succ n ih=>
  intro x2 res hm;refine qT (q_sq ?_);refine s_va 0 [(7,vb (decide (x2<(a1.length:Int))))] (q_cq hm (λhm=>?_) (λhm=>?_))
  ·refine q_sk (q_sq ?_);refine q_bk 1 (q_jn (qOt a1 x2) (λp=>SV x2 (WF a1 n) p=some res) ?_ ?_)
   ·rintro x6 hm;refine q_cq hm (λhm=>?_) (λhm=>?_)
    ·refine s_vn [] 0 ⟨[(2,vb false)],[]⟩ ?_;obtain rfl:=oi hm;refine q_rt (zG false ?_);exact q_rm
    ·refine q_sk (q_vv [] 0 [3,21] [(3,vi (w64 (x2+1)))] ?_);exact q_hl (qAg a1 (w64 (x2+1))) (ih (w64 (x2+1)) _ hm)
   ·obtain⟨g4,hm⟩:=qI hm;rcases bif_c hm with⟨b5,hm⟩|⟨b5,hm⟩
    ·exact q_vv [qi 2 g4,qf 5 b5] 0 [7] [(21,vb true)] (q_J (true) hm)
    ·exact q_vv [qi 2 g4,qf 5 b5,qi 8 g4] 0 [7] [(21,vb (decide ((a1.getD x2.toNat du)>1125899906842624)))] (q_J (decide ((a1.getD x2.toNat du)>1125899906842624)) hm)
  ·refine q_ex 0 ?_;obtain rfl:=oi hm;exact q_l1 ()
theorem ET (a1:List Int) (r:Bool) (hm:GB a1=some r):CtX Tryz.prog globs 158 0 0 [.one (tl qA du a1)] [] (qDD r) (qDC r):=by
 unfold GB at hm;refine q_E f158 22 λE=>?_;refine s_vn [] 0 ⟨[(0,vc (tl qA du a1))],[]⟩ (q_sq ?_);refine s_va 0 [(3,vi 0)] ?_;obtain⟨u10,h9,hm⟩:=qB hm;refine zT (nd f158 52) 0 (by kernel_rfl) FUEL (λo=>qFA) (λv st=>RetQ Tryz.prog f158 (qDD v) (qDC v) .ret st) u10 (q_hl (qAg a1 0) (qMf E a1 FUEL 0 u10 h9)) ?_ ?_
 ·rintro v11 rfl st hr;obtain rfl:=oi hm;exact hr
 ·rintro o8 rfl;replace hm:_=some r:=hm;refine s_vn [] 0 ⟨[(2,vb true)],[]⟩ ?_;obtain rfl:=oi hm;exact q_rt q_rm
def FE (r:Int):V:=vi r
def FK (r:Int):List (Nat×(Nat×O)):=[]
def qOl (a1:Line) (x10:Int) (x14:Bool):St:=
 ⟨[(1,vp 0 0),(3,vi x10),(59,vb x14)],[(0,bx 84 (wB a1))]⟩
def qAm (a1:Line) (x10:Int):St:=
 ⟨[(1,vp 0 0),(3,vi x10)],[(0,bx 84 (wB a1))]⟩
def qFy (a1:Line):St:=
 ⟨[(1,vp 0 0)],[(0,bx 84 (wB a1))]⟩
def qAn (a1:Line) (x24:Int):St:=
 ⟨[(1,vp 0 0),(4,vi x24)],[(0,bx 84 (wB a1))]⟩
def qFE (a1:Line):St:=
 ⟨[(1,vp 0 0)],[(0,bx 84 (wB a1))]⟩
def qND (a1:Line) (x40:Int) (x46:Bool):St:=
 ⟨[(1,vp 0 0),(5,vb x46),(6,vi x40)],[(0,bx 84 (wB a1))]⟩
def qAB (a1:Line) (x39:Bool) (x40:Int):St:=
 ⟨[(1,vp 0 0),(5,vb x39),(6,vi x40)],[(0,bx 84 (wB a1))]⟩
def qFB (x47:Bool):St:=
 ⟨[(5,vb x47)],[]⟩
def qNy (a1:Line) (x38:Bool):St:=
 ⟨[(1,vp 0 0),(5,vb x38)],[(0,bx 84 (wB a1))]⟩
def qN1 (a1:Line) (x22:Bool):St:=
 ⟨[(1,vp 0 0),(82,vb x22)],[(0,bx 84 (wB a1))]⟩
def qNL (a1:Line) (x7:Bool):St:=
 ⟨[(1,vp 0 0),(34,vb x7)],[(0,bx 84 (wB a1))]⟩
theorem qLv (E:Env 0) (a1:Line):∀(n:Nat) (x10:Int) (res:Int⊕Unit),WC a1 n x10=some res->HL (kx E 133 0) (nd f95 244) (wN 0 (λo=>qFy a1) (λv st=>RetQ Tryz.prog f95 (FE v) (FK v) .ret st) res) n (qAm a1 x10):=by
 intro n
 induction n with
 |zero=>
  intro x10 res hm;cases hm
 |succ n ih=>
  intro x10 res hm;refine qT (q_sq ?_);refine s_va 1 [(43,vb (decide (x10<(a1.Sizes.length:Int))))] (q_cq hm (λhm=>?_) (λhm=>?_))
  ·refine q_sk (q_sq ?_);refine q_bk 1 (q_jn (qOl a1 x10) (λp=>SY x10 (WC a1 n) p=some res) ?_ ?_)
   ·rintro x14 hm;refine q_cq hm (λhm=>?_) (λhm=>?_)
    ·refine s_vn [] 1 ⟨[(2,vi 9)],[]⟩ ?_;obtain rfl:=oi hm;refine q_rt (zG 9 ?_);exact q_rm
    ·refine q_sk (q_vv [] 1 [3,59] [(3,vi (w64 (x10+1)))] ?_);exact q_hl (qAm a1 (w64 (x10+1))) (ih (w64 (x10+1)) _ hm)
   ·obtain⟨g12,hm⟩:=qI hm;rcases bif_c hm with⟨b13,hm⟩|⟨b13,hm⟩
    ·exact q_vv [qi 3 g12,qf 6 b13] 1 [43] [(59,vb true)] (q_J (true) hm)
    ·exact q_vv [qi 3 g12,qf 6 b13,qi 10 g12] 1 [43] [(59,vb (decide ((a1.Sizes.getD x10.toNat du)>2000)))] (q_J (decide ((a1.Sizes.getD x10.toNat du)>2000)) hm)
  ·refine q_ex 0 ?_;obtain rfl:=oi hm;exact q_l1 ()
theorem qLq (E:Env 0) (a1:Line):∀(n:Nat) (x24:Int) (res:Int⊕Unit),PZ a1 n x24=some res->HL (kx E 133 0) (nd f95 1012) (wN 2 (λo=>qFE a1) (λv st=>RetQ Tryz.prog f95 (FE v) (FK v) .ret st) res) n (qAn a1 x24):=by
 intro n
 induction n with
 |zero=>
  intro x24 res hm;cases hm
 |succ n ih=>
  intro x24 res hm;refine qT (q_sq ?_);refine s_va 1 [(87,vb (decide (x24<(a1.Gain.length:Int))))] (q_cq hm (λhm=>?_) (λhm=>?_))
  ·refine q_sk (q_sq ?_);refine q_bk 3 ?_;obtain⟨g26,hm⟩:=qI hm;obtain⟨g27,hm⟩:=qI hm;refine s_du [qi 3 g26,qi 11 g27] [0,1,0,7,15,31,0,64,0,256,0,1792,3840,8128,16320,32704,65535] 1 [87] [(106,vb (((a1.Gain.getD x24.toNat du).length:Int) !=(imax 0 (w64 ((w64 (a1.Len-(a1.Sizes.getD x24.toNat du)))+1)))))] [] [] (q_cq hm (λhm=>?_) (λhm=>?_))
   ·refine s_vn [] 1 ⟨[(2,vi 19)],[]⟩ ?_;obtain rfl:=oi hm;refine q_rt (zG 19 ?_);exact q_rm
   ·refine q_sk (q_vv [] 1 [4,106] [(4,vi (w64 (x24+1)))] ?_);exact q_hl (qAn a1 (w64 (x24+1))) (ih (w64 (x24+1)) _ hm)
  ·refine q_ex 2 ?_;obtain rfl:=oi hm;exact q_l1 ()
theorem qLG (E:Env 0) (a1:Line):∀(n:Nat) (x39:Bool) (x40:Int) (res:Bool),WB a1 n x39 x40=some res->HL (kx E 133 0) (nd f95 4084) (zL 4 qFB res) n (qAB a1 x39 x40):=by
 intro n
 induction n with
 |zero=>
  intro x39 x40 res hm;cases hm
 |succ n ih=>
  intro x39 x40 res hm;refine qT (q_sq ?_);refine s_va 1 [(119,vb (decide (x40<(a1.Gain.length:Int))))] (q_cq hm (λhm=>?_) (λhm=>?_))
  ·refine q_sk (q_jn (qND a1 x40) (λp=>EP x40 (WB a1 n) p=some res) ?_ ?_)
   ·rintro x46 hm;exact q_vv [] 1 [6] [(6,vi (w64 (x40+1)))] (q_hl (qAB a1 x46 (w64 (x40+1))) (ih x46 (w64 (x40+1)) _ hm))
   ·refine q_bk 5 ?_;rcases bif_c hm with⟨b42,hm⟩|⟨b42,hm⟩
    ·obtain⟨g43,hm⟩:=qI hm;obtain⟨v44,h45,hm⟩:=qB hm;exact q_vv [qf 1 b42,qi 5 g43,qk 7 [123,128] 1 ⟨[(123,vb true),(128,vc (tl qA du (a1.Gain.getD x40.toNat du)))],[]⟩ (ET (a1.Gain.getD x40.toNat du) v44 h45)] 1 [5,119] [(5,vb v44)] (q_J (v44) hm)
    ·exact q_vv [qf 1 b42] 1 [5,119] [(5,vb false)] (q_J (false) hm)
  ·refine q_ex 4 ?_;obtain rfl:=oi hm;exact q_l0
theorem qSg (a1:Line) (r:Int) (hm:OR a1=some r):CtX Tryz.prog globs 95 0 0 [.agg (wB a1)] [] (FE r) (FK r):=by
 unfold OR at hm;refine q_E f95 133 λE=>?_;refine s_vn [] 0 ⟨[(1,vp 0 0)],[(0,bx 84 (wB a1))]⟩ (q_sq ?_);refine q_jn (qNL a1) (λp=>WD a1 p=some r) ?_ ?_
 ·rintro x7 hm;refine q_cq hm (λhm=>?_) (λhm=>?_)
  ·refine s_vn [] 1 ⟨[(2,vi 9)],[]⟩ ?_;obtain rfl:=oi hm;exact q_rt q_rm
  ·refine q_sk (q_sq ?_);refine s_vv [] 1 [34] [(38,vb (decide ((a1.Sizes.length:Int)>32)))] (q_cq hm (λhm=>?_) (λhm=>?_))
   ·refine s_vn [] 1 ⟨[(2,vi 4)],[]⟩ ?_;obtain rfl:=oi hm;exact q_rt q_rm
   ·refine q_sk (q_sq ?_);refine s_vv [] 1 [38] [(3,vi 0)] ?_;obtain⟨u18,h17,hm⟩:=qB hm;refine zT (nd f95 244) 0 (by kernel_rfl) FUEL (λo=>qFy a1) (λv st=>RetQ Tryz.prog f95 (FE v) (FK v) .ret st) u18 (q_hl (qAm a1 0) (qLv E a1 FUEL 0 u18 h17)) ?_ ?_
    ·rintro v19 rfl st hr;obtain rfl:=oi hm;exact hr
    ·rintro o16 rfl;replace hm:_=some r:=hm;refine q_sq (q_jn (qN1 a1) (λp=>GV a1 p=some r) ?_ ?_)
     ·rintro x22 hm;refine q_cq hm (λhm=>?_) (λhm=>?_)
      ·refine s_vn [] 1 ⟨[(2,vi 19)],[]⟩ ?_;obtain rfl:=oi hm;exact q_rt q_rm
      ·refine q_sk (q_sq ?_);refine s_vv [] 1 [82] [(4,vi 0)] ?_;obtain⟨u31,h30,hm⟩:=qB hm;refine zT (nd f95 1012) 2 (by kernel_rfl) FUEL (λo=>qFE a1) (λv st=>RetQ Tryz.prog f95 (FE v) (FK v) .ret st) u31 (q_hl (qAn a1 0) (qLq E a1 FUEL 0 u31 h30)) ?_ ?_
       ·rintro v32 rfl st hr;obtain rfl:=oi hm;exact hr
       ·rintro o29 rfl;replace hm:_=some r:=hm;refine q_jn (qNy a1) (λp=>AE a1 p=some r) ?_ ?_
        ·rintro x38 hm;refine q_sq (s_va 1 [(6,vi 0)] ?_);obtain⟨o48,h49,hm⟩:=qB hm;refine zF (nd f95 4084) 4 (by kernel_rfl) FUEL qFB o48 (q_hl (qAB a1 x38 0) (qLG E a1 FUEL x38 0 o48 h49)) (q_sq ?_);refine s_vn [] 1 ⟨[(132,vb (!o48))],[]⟩ (q_cq hm (λhm=>?_) (λhm=>?_))
         ·refine s_vn [] 1 ⟨[(2,vi 9)],[]⟩ ?_;obtain rfl:=oi hm;exact q_rt q_rm
         ·refine q_sk (s_vn [] 1 ⟨[(2,vi 0)],[]⟩ ?_);obtain rfl:=oi hm;exact q_rt q_rm
        ·obtain⟨v33,h34,hm⟩:=qB hm;rcases bif_c hm with⟨b35,hm⟩|⟨b35,hm⟩
         ·obtain⟨v36,h37,hm⟩:=qB hm;exact q_vv [qc 2 [108] 1 (ET a1.Chip v33 h34),qf 3 b35,qk 6 [110,112] 1 ⟨[(110,vb true),(112,vc (tl qA du a1.Dust))],[]⟩ (ET a1.Dust v36 h37)] 1 [] [(5,vb v36)] (q_J (v36) hm)
         ·exact q_vv [qc 2 [108] 1 (ET a1.Chip v33 h34),qf 3 b35] 1 [] [(5,vb false)] (q_J (false) hm)
     ·rcases bif_c hm with⟨b20,hm⟩|⟨b20,hm⟩
      ·exact q_vv [qf 7 b20] 1 [] [(82,vb true)] (q_J (true) hm)
      ·rcases bif_c hm with⟨b21,hm⟩|⟨b21,hm⟩
       ·exact q_vv [qf 7 b20,qf 15 b21] 1 [] [(82,vb true)] (q_J (true) hm)
       ·exact q_vv [qf 7 b20,qf 15 b21] 1 [] [(82,vb ((a1.Dust.length:Int) !=a1.Len))] (q_J ((a1.Dust.length:Int) !=a1.Len) hm)
 ·rcases bif_c hm with⟨b2,hm⟩|⟨b2,hm⟩
  ·exact q_vv [qf 3 b2] 1 [] [(34,vb true)] (q_J (true) hm)
  ·rcases bif_c hm with⟨b3,hm⟩|⟨b3,hm⟩
   ·exact q_vv [qf 3 b2,qf 8 b3] 1 [] [(34,vb true)] (q_J (true) hm)
   ·rcases bif_c hm with⟨b4,hm⟩|⟨b4,hm⟩
    ·exact q_vv [qf 3 b2,qf 8 b3,qf 13 b4] 1 [] [(34,vb true)] (q_J (true) hm)
    ·rcases bif_c hm with⟨b5,hm⟩|⟨b5,hm⟩
     ·exact q_vv [qf 3 b2,qf 8 b3,qf 13 b4,qf 18 b5] 1 [] [(34,vb true)] (q_J (true) hm)
     ·rcases bif_c hm with⟨b6,hm⟩|⟨b6,hm⟩
      ·exact q_vv [qf 3 b2,qf 8 b3,qf 13 b4,qf 18 b5,qf 23 b6] 1 [] [(34,vb true)] (q_J (true) hm)
      ·exact q_vv [qf 3 b2,qf 8 b3,qf 13 b4,qf 18 b5,qf 23 b6] 1 [] [(34,vb (decide (a1.Pitch>2000)))] (q_J (decide (a1.Pitch>2000)) hm)
def qRU (r:(List Int)):V:=vo 0 0 1 r.length
def qRJ (r:(List Int)):List (Nat×(Nat×O)):=[(0,ro 0 3 1 r.length (rf qA r))]
def AZ (a1:List Int) (l2:List Int) (l2n:Nat) (x3:Int):St:=
 ⟨[(0,vc (tl qA du a1)),(3,vo 0 0 1 l2n),(4,vi x3)],[(0,ro 0 3 1 l2n (rf qA l2))]⟩
def qD9 (l8:List Int):St:=
 ⟨[(3,vo 0 0 1 l8.length)],[(0,ro 0 3 1 l8.length (rf qA l8))]⟩
theorem qJL (E:Env 0) (a1:List Int):∀(n:Nat) (l2:List Int) (l2n:Nat) (x3:Int) (res:(List Int)),l2.length=l2n->KK a1 n l2 x3=some res->HL (kx E 25 0) (nd f96 116) (zL 0 qD9 res) n (AZ a1 l2 l2n x3):=by
 intro n
 induction n with
 |zero=>
  intro l2 l2n x3 res hl0 hm;cases hm
 |succ n ih=>
  intro l2 l2n x3 res hl0 hm;subst hl0;refine qT (q_sq ?_);refine s_va 1 [(9,vb (decide (x3<(a1.length:Int))))] (q_cq hm (λhm=>?_) (λhm=>?_))
  ·refine q_sk (q_sq ?_);refine q_bk 1 ?_;obtain⟨g5,hm⟩:=qI hm;obtain⟨g6,hm⟩:=qI hm;obtain⟨g7,hm⟩:=qI hm
   refine q_du [qi 3 g5,qd 4 dN (qV (zC g5)),qi 7 g6,qd 10 (drw 1 0 (rf qA [w64 ((l2.getD x3.toNat du)+(a1.getD x3.toNat du))])) (litP qA du 1 (λ_=>rfl) ([w64 ((l2.getD x3.toNat du)+(a1.getD x3.toNat du))]:List Int) 1 rfl),qd 11 (drw 0 1 (rf qA (l2++[w64 ((l2.getD x3.toNat du)+(a1.getD x3.toNat du))]))) (apP qA du l2 ([w64 ((l2.getD x3.toNat du)+(a1.getD x3.toNat du))]:List Int) l2.length 1 1 8 (1<=1) (ki _) rfl rfl (λ_=>rfl) (zI g7))] [0,0,0,6,14,0,0,96,224,510,1022,2047,4095] 1 [3,9] [(3,vo 0 1 1 (l2.length+1))] [0] [(0,ro 1 3 1 (l2.length+1) (rf qA (l2++[w64 ((l2.getD x3.toNat du)+(a1.getD x3.toNat du))])))] (q_vv [] 2 [4] [(4,vi (w64 (x3+1)))] ?_)
   exact q_hl (AZ a1 (l2++[w64 ((l2.getD x3.toNat du)+(a1.getD x3.toNat du))]) (l2.length+1) (w64 (x3+1))) (ih (l2++[w64 ((l2.getD x3.toNat du)+(a1.getD x3.toNat du))]) (l2.length+1) (w64 (x3+1)) _ (zE rfl rfl) hm)
  ·refine q_ex 0 ?_;obtain rfl:=oi hm;exact q_l0
theorem qGy (a1:List Int) (r:(List Int)) (hm:BG a1=some r):CtX Tryz.prog globs 96 0 0 [.one (tl qA du a1)] [] (qRU r) (qRJ r):=by
 unfold BG at hm;refine q_E f96 25 λE=>?_;refine s_vn [] 0 ⟨[(0,vc (tl qA du a1))],[]⟩ (s_vu [qd 0 (drw 0 0 (rf qA [0])) (litP qA du 1 (λ_=>rfl) ([0]:List Int) 1 rfl)] 0 [] [(3,vo 0 0 1 1)] [] [(0,ro 0 3 1 1 (rf qA [0]))] ?_);refine q_sq (s_va 1 [(4,vi 0)] ?_);obtain⟨o9,h10,hm⟩:=qB hm;refine zF (nd f96 116) 0 (by kernel_rfl) FUEL qD9 o9 (q_hl (AZ a1 ([0]:List Int) 1 0) (qJL E a1 FUEL ([0]:List Int) 1 0 o9 rfl h10)) (s_vv [] 1 [3] [(2,vo 0 0 1 o9.length)] ?_);obtain rfl:=oi hm;exact q_rt q_rm
end Saw
end Go.SL

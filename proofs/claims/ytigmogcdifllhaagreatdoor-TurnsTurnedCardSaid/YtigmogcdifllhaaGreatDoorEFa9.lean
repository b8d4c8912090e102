import Derived.Test.YtigmogcdifllhaaGreatDoorEBase
import Derived.Test.YtigmogcdifllhaaGreatDoorEFa6
import Derived.Test.YtigmogcdifllhaaGreatDoorEFa7
import Derived.Test.YtigmogcdifllhaaGreatDoorEFa8
set_option linter.unusedVariables false
set_option linter.unusedSimpArgs false
namespace Go.SL
namespace Saw
open Go.Proofs Go.Proofs.Tryz
set_option maxHeartbeats 4000000
set_option maxRecDepth 100000
def qVB (r:(List Int)×(List Int)):V:= .tup [.one (.own 0 0 1 r.1.length),.one (.own 1 0 1 r.2.length)]
def qVR (r:(List Int)×(List Int)):List (Nat×(Nat×O)):=[(0,ro 0 3 1 r.1.length (rf qD r.1)),(1,ro 0 3 1 r.2.length (rf qD r.2))]
def qGn (a1:List qE) (a2:Int) (x8:Int) (l19:List Int) (l19n:Nat) (l20:List Int) (l20n:Nat):St:=
 ⟨[(1,vi a2),(6,vo 0 0 1 l19n),(7,vo 1 0 1 l20n),(15,vc (tl qP dd a1)),(16,vi (a1.length:Int)),(17,vi x8)],[(0,ro 0 3 1 l19n (rf qD l19)),(1,ro 0 3 1 l20n (rf qD l20))]⟩
def qGf (a1:List qE) (a2:Int) (l7:List Int) (x8:Int) (l17:List Int) (l17n:Nat):St:=
 ⟨[(1,vi a2),(6,vo 0 0 1 l17n),(7,vo 1 0 1 l7.length),(8,vi x8),(15,vc (tl qP dd a1)),(16,vi (a1.length:Int)),(17,vi x8)],[(0,ro 0 3 1 l17n (rf qD l17)),(1,ro 0 3 1 l7.length (rf qD l7))]⟩
def qAe (a1:List qE) (a2:Int) (l6:List Int) (l6n:Nat) (l7:List Int) (l7n:Nat) (x8:Int):St:=
 ⟨[(1,vi a2),(6,vo 0 0 1 l6n),(7,vo 1 0 1 l7n),(15,vc (tl qP dd a1)),(16,vi (a1.length:Int)),(17,vi x8)],[(0,ro 0 3 1 l6n (rf qD l6)),(1,ro 0 3 1 l7n (rf qD l7))]⟩
def qGs (l21:List Int) (l22:List Int):St:=
 ⟨[(6,vo 0 0 1 l21.length),(7,vo 1 0 1 l22.length)],[(0,ro 0 3 1 l21.length (rf qD l21)),(1,ro 0 3 1 l22.length (rf qD l22))]⟩
theorem qNk (E:Env 0) (a1:List qE) (a2:Int):∀(n:Nat) (l6:List Int) (l6n:Nat) (l7:List Int) (l7n:Nat) (x8:Int) (res:(List Int)×(List Int)),l6.length=l6n->l7.length=l7n->yM a1 a2 n l6 l7 x8=some res->HL (kx E 49 0) (nd f173 244) (zL 0 (λo=>qGs o.1 o.2) res) n (qAe a1 a2 l6 l6n l7 l7n x8):=by
 intro n
 induction n with
 |zero=>
  intro l6 l6n l7 l7n x8 res hl0 hl1 hm;cases hm
 |succ n ih=>
  intro l6 l6n l7 l7n x8 res hl0 hl1 hm;subst hl0;subst hl1;refine qS (s_va 2 [(18,vb (decide (x8<(a1.length:Int))))] ?_);refine q_sq (q_cq hm (λhm=>?_) (λhm=>?_))
  ·refine q_sk (q_jn (ι:=(List Int)×Nat×(List Int)×Nat) (λp=>qGn a1 a2 x8 p.1 p.2.1 p.2.2.1 p.2.2.2) (λp=>p.1.length=p.2.1/\p.2.2.1.length=p.2.2.2/\qDu x8 (yM a1 a2 n) p.1 p.2.2.1=some res) ?_ ?_)
   ·rintro⟨l19,l19n,l20,l20n⟩ ⟨el19,el20,hm⟩;replace el19:l19.length=l19n:=el19;subst el19;replace el20:l20.length=l20n:=el20;subst el20;show H _ (qGn a1 a2 x8 l19 l19.length l20 l20.length) _ _;exact q_vv [] 5 [17] [(17,vi (w64 (x8+1)))] (q_hl (qAe a1 a2 l19 l19.length l20 l20.length (w64 (x8+1))) (ih l19 l19.length l20 l20.length (w64 (x8+1)) _ rfl rfl hm))
   ·refine q_bk 1 ?_;obtain⟨g10,hm⟩:=qJ hm;refine s_vu [qi 1 g10] 2 [18] [(8,vi x8),(9,vp 2 0)] [] [(2,bx 74 (qP (a1.getD x8.toNat dd)))] ?_;obtain⟨v11,h12,hm⟩:=qC hm;refine s_vu [qc 1 [23] 3 (DX (a1.getD x8.toNat dd) v11 h12)] 3 [9] [(10,vi v11.1),(11,vi v11.2)] [2] [] (q_jn (ι:=(List Int)×Nat) (λp=>qGf a1 a2 l7 x8 p.1 p.2) (λp=>p.1.length=p.2/\BT l7 x8 (yM a1 a2 n) p.1=some res) ?_ ?_)
    ·rintro⟨l17,l17n⟩ ⟨el17,hm⟩;replace el17:l17.length=l17n:=el17;subst el17;show H _ (qGf a1 a2 l7 x8 l17 l17.length) _ _;obtain⟨g18,hm⟩:=qJ hm;exact q_vu [qd 2 (drw 4 0 (rf qD [x8])) (litP qD dd 1 (λ_=>rfl) ([x8]:List Int) 1 rfl),qd 3 (drw 1 1 (rf qD (l7++[x8]))) (apP qD dd l7 ([x8]:List Int) l7.length 1 1 8 (1<=1) (ke _) rfl rfl (λ_=>rfl) (wA g18))] 4 [7,8] [(7,vo 1 1 1 (l7.length+1))] [1] [(1,ro 1 3 1 (l7.length+1) (rf qD (l7++[x8])))] (q_J (l17,l17.length,(l7++[x8]),(l7.length+1)) ⟨rfl,(wB rfl rfl),hm⟩)
    ·refine s_va 3 [(27,vi a2)] (q_bk 2 ?_);refine s_va 3 [(28,vb (a2==v11.1))] (q_cq hm (λhm=>?_) (λhm=>?_))
     ·obtain⟨g14,hm⟩:=qJ hm;exact q_vu [qd 2 (drw 3 0 (rf qD [v11.2])) (litP qD dd 1 (λ_=>rfl) ([v11.2]:List Int) 1 rfl),qd 3 (drw 0 1 (rf qD (l6++[v11.2]))) (apP qD dd l6 ([v11.2]:List Int) l6.length 1 1 8 (1<=1) (ke _) rfl rfl (λ_=>rfl) (wA g14))] 3 [6,10,11,27,28] [(6,vo 0 1 1 (l6.length+1))] [0] [(0,ro 1 3 1 (l6.length+1) (rf qD (l6++[v11.2])))] (q_J ((l6++[v11.2]),(l6.length+1)) ⟨(wB rfl rfl),hm⟩)
     ·refine s_vv [] 3 [11,27,28] [(35,vb (a2==v11.2))] (q_cq hm (λhm=>?_) (λhm=>?_))
      ·obtain⟨g16,hm⟩:=qJ hm;exact q_vu [qd 2 (drw 3 0 (rf qD [v11.1])) (litP qD dd 1 (λ_=>rfl) ([v11.1]:List Int) 1 rfl),qd 3 (drw 0 1 (rf qD (l6++[v11.1]))) (apP qD dd l6 ([v11.1]:List Int) l6.length 1 1 8 (1<=1) (ke _) rfl rfl (λ_=>rfl) (wA g16))] 3 [6,10,35] [(6,vo 0 1 1 (l6.length+1))] [0] [(0,ro 1 3 1 (l6.length+1) (rf qD (l6++[v11.1])))] (q_J ((l6++[v11.1]),(l6.length+1)) ⟨(wB rfl rfl),hm⟩)
      ·exact q_ex 1 (q_J (l6,l6.length,l7,l7.length) ⟨rfl,rfl,hm⟩)
  ·refine q_ex 0 ?_;obtain rfl:=oi hm;exact q_l0
theorem qJq (a1:List qE) (a2:Int) (r:(List Int)×(List Int)) (hm:VA a1 a2=some r):CtX Tryz.prog globs 173 0 0 [.one (tl qP dd a1),.one (ci a2)] [] (qVB r) (qVR r):=by
 unfold VA at hm;refine q_E f173 49 λE=>?_;refine s_vn [] 0 ⟨[(0,vc (tl qP dd a1)),(1,vi a2)],[]⟩ (q_sq ?_);obtain⟨v3,h4,hm⟩:=qC hm;refine s_vv [qc 1 [12] 0 (YE a1 v3 h4)] 0 [] [(14,vb (v3 !=0))] (q_cq hm (λhm=>?_) (λhm=>?_))
 ·refine s_vn [] 0 ⟨[(4,vc (.emp)),(5,vc (.emp))],[]⟩ (q_fo 4 0 3 1 qD ?_);refine q_fo 5 1 3 1 qD (q_fl 4 0 3 1 qD ?_);refine q_fl 5 1 3 1 qD ?_;obtain rfl:=oi hm;exact q_rt q_rm
 ·refine q_sk (s_vv [] 0 [14] [(6,vc (.emp)),(7,vc (.emp))] ?_);refine q_sq (s_vv [] 0 [0] [(15,vc (tl qP dd a1)),(16,vi (a1.length:Int)),(17,vi 0)] ?_);refine q_fo 6 0 3 1 qD (q_fo 7 1 3 1 qD ?_);obtain⟨o23,h24,hm⟩:=qC hm;refine zG (nd f173 244) 0 (by kernel_rfl) FUEL (λo=>qGs o.1 o.2) o23 (q_hl (qAe a1 a2 ([]:List Int) 0 ([]:List Int) 0 0) (qNk E a1 a2 FUEL ([]:List Int) 0 ([]:List Int) 0 0 o23 rfl rfl h24)) (s_vv [] 2 [6,7] [(4,vo 0 0 1 o23.1.length),(5,vo 1 0 1 o23.2.length)] ?_);obtain rfl:=oi hm;exact q_rt q_rm
def qWB (r:Line×Int):V:= .tup [.agg [ci r.1.Len,ci r.1.Kerf,ci r.1.Pitch,.own 0 0 1 r.1.Sizes.length,.own 1 0 1 r.1.Gain.length,.own 2 0 1 r.1.Chip.length,.own 3 0 1 r.1.Dust.length],.one (ci r.2)]
def qWF (r:Line×Int):List (Nat×(Nat×O)):=[(0,ro 0 3 1 r.1.Sizes.length (rf qD r.1.Sizes)),(1,ro 0 72 1 r.1.Gain.length (rf (qU qD) r.1.Gain)),(2,ro 0 3 1 r.1.Chip.length (rf qD r.1.Chip)),(3,ro 0 3 1 r.1.Dust.length (rf qD r.1.Dust))]
def BL (a1:List qN) (a2:List qG) (a3:List qE) (a4:Rect) (a5:Saw) (a6:Rates) (v10:(List Int)×(List Int)) (x12:Int) (l13:List (List Int)):St:=
 ⟨[(0,vc (tl qR dd a1)),(1,vc (tl qM dd a2)),(2,vc (tl qP dd a3)),(9,vp 0 0),(10,vp 1 0),(11,vp 2 0),(12,vp 3 0),(15,vi (w64 (a4.X.B-a4.X.A))),(17,vo 5 0 1 v10.2.length),(18,vp 6 0),(62,vo 4 0 1 v10.1.length),(63,vi (v10.1.length:Int)),(64,vi x12)],[(0,bx 55 (qT a4)),(1,bx 39 (jY a5)),(2,bx 41 (wC a6)),(3,bx 123 [ci 0,ci 0,ci 0,.emp,.emp,.emp,.emp]),(4,ro 0 3 1 v10.1.length (rf qD v10.1)),(5,ro 0 3 1 v10.2.length (rf qD v10.2)),(6,bx 123 [ci (w64 (a4.X.B-a4.X.A)),ci a5.Kerf,ci 1,.own 4 0 1 v10.1.length,.own 7 0 1 l13.length,.emp,.emp]),(7,ro 0 72 1 l13.length (rf (qU qD) l13))]⟩
def CD (v10:(List Int)×(List Int)):St:=
 ⟨[(12,vp 3 0),(18,vp 6 0)],[(3,bx 123 [ci 0,ci 0,ci 0,.emp,.emp,.emp,.emp]),(4,ro 0 3 1 v10.1.length (rf qD v10.1))]⟩
def qRj (a1:List qN) (a2:List qG) (a3:List qE) (a4:Rect) (a5:Saw) (a6:Rates) (v10:(List Int)×(List Int)) (x12:Int) (l13:List (List Int)) (l16:List Int) (x17:Int) (x27:Int):St:=
 (BL a1 a2 a3 a4 a5 a6 v10 x12 l13).up [] [(19,vi x12),(20,vi (v10.1.getD x12.toNat dd)),(21,vo 8 0 1 l16.length),(22,vi x17),(23,vi x27)] [] [(8,ro 0 3 1 l16.length (rf qD l16))]
def qB8 (a1:List qN) (a2:List qG) (a3:List qE) (a4:Rect) (a5:Saw) (a6:Rates) (v10:(List Int)×(List Int)) (x12:Int) (l13:List (List Int)) (l16:List Int) (l16n:Nat) (x17:Int):St:=
 (BL a1 a2 a3 a4 a5 a6 v10 x12 l13).up [] [(19,vi x12),(20,vi (v10.1.getD x12.toNat dd)),(21,vo 8 0 1 l16n),(22,vi x17)] [] [(8,ro 0 3 1 l16n (rf qD l16))]
def qHq (a1:List qN) (a2:List qG) (a3:List qE) (a4:Rect) (a5:Saw) (a6:Rates) (v10:(List Int)×(List Int)) (x12:Int) (l13:List (List Int)) (l29:List Int):St:=
 (BL a1 a2 a3 a4 a5 a6 v10 x12 l13).up [] [(21,vo 8 0 1 l29.length)] [] [(8,ro 0 3 1 l29.length (rf qD l29))]
def qBh (a1:List qN) (a2:List qG) (a3:List qE) (a4:Rect) (a5:Saw) (a6:Rates) (v10:(List Int)×(List Int)) (x12:Int) (l13:List (List Int)) (l13n:Nat):St:=
 (BL a1 a2 a3 a4 a5 a6 v10 x12 l13).up [] [] [6,7] [(6,bx 123 [ci (w64 (a4.X.B-a4.X.A)),ci a5.Kerf,ci 1,.own 4 0 1 v10.1.length,.own 7 0 1 l13n,.emp,.emp]),(7,ro 0 72 1 l13n (rf (qU qD) l13))]
def qHX (a1:List qN) (a4:Rect) (a5:Saw) (a6:Rates) (v10:(List Int)×(List Int)) (l33:List (List Int)):St:=
 (CD v10).up [] [(0,vc (tl qR dd a1)),(9,vp 0 0),(11,vp 2 0),(15,vi (w64 (a4.X.B-a4.X.A)))] [] [(0,bx 55 (qT a4)),(2,bx 41 (wC a6)),(6,bx 123 [ci (w64 (a4.X.B-a4.X.A)),ci a5.Kerf,ci 1,.own 4 0 1 v10.1.length,.own 7 0 1 l33.length,.emp,.emp]),(7,ro 0 72 1 l33.length (rf (qU qD) l33))]
def qBU (a1:List qN) (a4:Rect) (a5:Saw) (a6:Rates) (v10:(List Int)×(List Int)) (o34:(List (List Int))) (v36:Int) (x38:Int) (l39:List Int) (l39n:Nat) (l40:List Int) (l40n:Nat):St:=
 (CD v10).up [] [(0,vc (tl qR dd a1)),(9,vp 0 0),(11,vp 2 0),(24,vp 8 0),(113,vi (w64 (a4.X.B-a4.X.A))),(114,vi x38)] [] [(0,bx 55 (qT a4)),(2,bx 41 (wC a6)),(6,bx 123 [ci (w64 (a4.X.B-a4.X.A)),ci a5.Kerf,ci 1,.own 4 0 1 v10.1.length,.own 7 0 1 o34.length,.own 9 0 1 l39n,.own 10 0 1 l40n]),(7,ro 0 72 1 o34.length (rf (qU qD) o34)),(8,bx 53 [ci 0,ci v36]),(9,ro 0 3 1 l39n (rf qD l39)),(10,ro 0 3 1 l40n (rf qD l40))]
def qHu (a4:Rect) (a5:Saw) (v10:(List Int)×(List Int)) (o34:(List (List Int))) (l48:List Int) (l49:List Int):St:=
 (CD v10).up [] [] [] [(6,bx 123 [ci (w64 (a4.X.B-a4.X.A)),ci a5.Kerf,ci 1,.own 4 0 1 v10.1.length,.own 7 0 1 o34.length,.own 9 0 1 l48.length,.own 10 0 1 l49.length]),(7,ro 0 72 1 o34.length (rf (qU qD) o34)),(9,ro 0 3 1 l48.length (rf qD l48)),(10,ro 0 3 1 l49.length (rf qD l49))]
theorem qOV (E:Env 0) (a1:List qN) (a2:List qG) (a3:List qE) (a4:Rect) (a5:Saw) (a6:Rates) (v10:(List Int)×(List Int)) (x12:Int) (l13:List (List Int)):∀(n:Nat) (l16:List Int) (l16n:Nat) (x17:Int) (res:(List Int)),l16.length=l16n->WP a1 a2 a3 a4 a5 a6 v10 x12 n l16 x17=some res->HL (kx E 145 0) (nd f172 1037108) (zL 2 (λo=>qHq a1 a2 a3 a4 a5 a6 v10 x12 l13 o) res) n (qB8 a1 a2 a3 a4 a5 a6 v10 x12 l13 l16 l16n x17):=by
 intro n
 induction n with
 |zero=>
  intro l16 l16n x17 res hl0 hm;cases hm
 |succ n ih=>
  intro l16 l16n x17 res hl0 hm;subst hl0;refine qS (q_sq ?_);refine s_va 9 [(73,vb (decide ((w64 (x17+(v10.1.getD x12.toNat dd)))<=(w64 (a4.X.B-a4.X.A)))))] (q_cq hm (λhm=>?_) (λhm=>?_))
  ·refine q_sk (q_sq ?_);refine q_bk 3 (s_vv [] 9 [73] [(23,vi (-1))] ?_);refine q_jn (qRj a1 a2 a3 a4 a5 a6 v10 x12 l13 l16 x17) (λp=>HE l16 x17 (WP a1 a2 a3 a4 a5 a6 v10 x12 n) p=some res) ?_ ?_
   ·rintro x27 hm;obtain⟨g28,hm⟩:=qJ hm;refine q_vu [qd 2 (drw 9 0 (rf qD [x27])) (litP qD dd 1 (λ_=>rfl) ([x27]:List Int) 1 rfl),qd 3 (drw 8 1 (rf qD (l16++[x27]))) (apP qD dd l16 ([x27]:List Int) l16.length 1 1 8 (1<=1) (ke _) rfl rfl (λ_=>rfl) (wA g28))] 9 [21,23] [(21,vo 8 1 1 (l16.length+1))] [8] [(8,ro 1 3 1 (l16.length+1) (rf qD (l16++[x27])))] (q_vv [] 10 [22] [(22,vi (w64 (x17+1)))] ?_);exact q_hl (qB8 a1 a2 a3 a4 a5 a6 v10 x12 l13 (l16++[x27]) (l16.length+1) (w64 (x17+1))) (ih (l16++[x27]) (l16.length+1) (w64 (x17+1)) _ (wB rfl rfl) hm)
   ·obtain⟨g19,hm⟩:=qJ hm;refine s_vv [qd 3 dN (IM g19)] 9 [] [(80,vb ((Int.tmod x17 a5.Pitch)==0))] (q_cq hm (λhm=>?_) (λhm=>?_))
    ·obtain⟨g21,hm⟩:=qJ hm;obtain⟨g22,hm⟩:=qJ hm;obtain⟨v23,h24,hm⟩:=qC hm;obtain⟨v25,h26,hm⟩:=qC hm;exact q_du [qi 5 g21,qd 6 dN (qW (zC g21)),qi 7 g22,qc 14 [90,91,94] 9 (qER a4 x17 (w64 (x17+(v10.1.getD x12.toNat dd))) v23 h24),qc 17 [81,82,89,95,96,97] 9 (qUS a1 a2 (a3.getD (v10.2.getD x12.toNat dd).toNat dd) v23 a5 a6 v25 h26)] [0,0,0,0,0,24,56,124,252,0,0,0,0,6144,15872,0,0,131071,262143] 9 [23,80] [(23,vi v25)] [] [] (q_J (v25) hm)
    ·exact q_sk (q_J ((-1)) hm)
  ·refine q_ex 2 ?_;obtain rfl:=oi hm;exact q_l0
theorem qQi (E:Env 0) (a1:List qN) (a2:List qG) (a3:List qE) (a4:Rect) (a5:Saw) (a6:Rates) (v10:(List Int)×(List Int)):∀(n:Nat) (x12:Int) (l13:List (List Int)) (l13n:Nat) (res:(List (List Int))),l13.length=l13n->GS a1 a2 a3 a4 a5 a6 v10 n x12 l13=some res->HL (kx E 145 0) (nd f172 1012) (zL 0 (λo=>qHX a1 a4 a5 a6 v10 o) res) n (qBh a1 a2 a3 a4 a5 a6 v10 x12 l13 l13n):=by
 intro n
 induction n with
 |zero=>
  intro x12 l13 l13n res hl0 hm;cases hm
 |succ n ih=>
  intro x12 l13 l13n res hl0 hm;subst hl0;refine qS (s_va 8 [(65,vb (decide (x12<(v10.1.length:Int))))] ?_);refine q_sq (q_cq hm (λhm=>?_) (λhm=>?_))
  ·refine q_sk (q_sq ?_);refine q_bk 1 ?_;obtain⟨g15,hm⟩:=qJ hm;refine s_vv [qi 1 g15,qd 2 dN (qW (zC g15))] 8 [65] [(19,vi x12),(20,vi (v10.1.getD x12.toNat dd))] (s_va 8 [(21,vc (.emp))] ?_);refine q_sq (s_va 8 [(22,vi 0)] ?_);refine q_fo 21 8 3 1 qD ?_;obtain⟨o30,h31,hm⟩:=qC hm;refine zG (nd f172 1037108) 2 (by kernel_rfl) FUEL (λo=>qHq a1 a2 a3 a4 a5 a6 v10 x12 l13 o) o30 (q_hl (qB8 a1 a2 a3 a4 a5 a6 v10 x12 l13 ([]:List Int) 0 0) (qOV E a1 a2 a3 a4 a5 a6 v10 x12 l13 FUEL ([]:List Int) 0 0 o30 rfl h31)) ?_;obtain⟨g32,hm⟩:=qJ hm
   refine q_vu [qd 3 (dpr [.frz 8] (drw 9 0 (rf (qU qD) [o30]))) (And.intro (ke o30.length) (ke o30.length)),qd 3 dN (litP (qU qD) dd 1 (λ_=>rfl) ([o30]:List (List Int)) 1 rfl),qd 4 (drw 7 1 (rf (qU qD) (l13++[o30]))) (apP (qU qD) dd l13 ([o30]:List (List Int)) l13.length 1 1 24 (1<=1) (ke _) rfl rfl (λ_=>rfl) (wA g32))] 9 [21] [] [6,7,8] [(6,bx 123 [ci (w64 (a4.X.B-a4.X.A)),ci a5.Kerf,ci 1,.own 4 0 1 v10.1.length,.own 7 1 1 (l13.length+1),.emp,.emp]),(7,ro 1 72 1 (l13.length+1) (rf (qU qD) (l13++[o30])))] (q_vv [] 10 [64] [(64,vi (w64 (x12+1)))] ?_)
   exact q_hl (qBh a1 a2 a3 a4 a5 a6 v10 (w64 (x12+1)) (l13++[o30]) (l13.length+1)) (ih (w64 (x12+1)) (l13++[o30]) (l13.length+1) _ (wB rfl rfl) hm)
  ·refine q_ex 0 ?_;obtain rfl:=oi hm;exact q_l0
theorem qOH (E:Env 0) (a1:List qN) (a4:Rect) (a5:Saw) (a6:Rates) (v10:(List Int)×(List Int)) (o34:(List (List Int))) (v36:Int):∀(n:Nat) (x38:Int) (l39:List Int) (l39n:Nat) (l40:List Int) (l40n:Nat) (res:(List Int)×(List Int)),l39.length=l39n->l40.length=l40n->VP a1 a4 a6 v36 n x38 l39 l40=some res->HL (kx E 145 0) (nd f172 4084) (zL 4 (λo=>qHu a4 a5 v10 o34 o.1 o.2) res) n (qBU a1 a4 a5 a6 v10 o34 v36 x38 l39 l39n l40 l40n):=by
 intro n
 induction n with
 |zero=>
  intro x38 l39 l39n l40 l40n res hl0 hl1 hm;cases hm
 |succ n ih=>
  intro x38 l39 l39n l40 l40n res hl0 hl1 hm;subst hl0;subst hl1;refine qS (s_va 11 [(115,vb (decide (x38<(w64 (a4.X.B-a4.X.A)))))] ?_);refine q_sq (q_cq hm (λhm=>?_) (λhm=>?_))
  ·refine q_sk (q_sq ?_);refine q_bk 5 (s_vv [] 11 [115] [(25,vi x38)] ?_);obtain⟨v42,h43,hm⟩:=qC hm;obtain⟨v44,h45,hm⟩:=qC hm;refine s_du [qc 5 [118,119,121] 11 (qER a4 x38 (w64 (x38+1)) v42 h43),qc 7 [117,122,123] 11 (GV a1 v42 (Span.mk 0 v36) v44 h45)] [0,0,0,0,8,30,0,127,255] 11 [25] [(26,vi v44)] [] [] ?_;obtain⟨g46,hm⟩:=qJ hm
   refine s_vu [qd 6 (drw 11 0 (rf qD [w64 (a6.Chip*v44)])) (litP qD dd 1 (λ_=>rfl) ([w64 (a6.Chip*v44)]:List Int) 1 rfl),qd 7 (drw 9 1 (rf qD (l39++[w64 (a6.Chip*v44)]))) (apP qD dd l39 ([w64 (a6.Chip*v44)]:List Int) l39.length 1 1 8 (1<=1) (ke _) rfl rfl (λ_=>rfl) (wA g46))] 11 [] [] [6,9] [(6,bx 123 [ci (w64 (a4.X.B-a4.X.A)),ci a5.Kerf,ci 1,.own 4 0 1 v10.1.length,.own 7 0 1 o34.length,.own 9 1 1 (l39.length+1),.own 10 0 1 l40.length]),(9,ro 1 3 1 (l39.length+1) (rf qD (l39++[w64 (a6.Chip*v44)])))] ?_;obtain⟨g47,hm⟩:=qJ hm
   refine q_vu [qd 6 (drw 12 0 (rf qD [w64 (a6.Dust*v44)])) (litP qD dd 1 (λ_=>rfl) ([w64 (a6.Dust*v44)]:List Int) 1 rfl),qd 7 (drw 10 1 (rf qD (l40++[w64 (a6.Dust*v44)]))) (apP qD dd l40 ([w64 (a6.Dust*v44)]:List Int) l40.length 1 1 8 (1<=1) (ke _) rfl rfl (λ_=>rfl) (wA g47))] 12 [26] [] [6,10] [(6,bx 123 [ci (w64 (a4.X.B-a4.X.A)),ci a5.Kerf,ci 1,.own 4 0 1 v10.1.length,.own 7 0 1 o34.length,.own 9 1 1 (l39.length+1),.own 10 1 1 (l40.length+1)]),(10,ro 1 3 1 (l40.length+1) (rf qD (l40++[w64 (a6.Dust*v44)])))] (q_vv [] 13 [114] [(114,vi (w64 (x38+1)))] ?_)
   exact q_hl (qBU a1 a4 a5 a6 v10 o34 v36 (w64 (x38+1)) (l39++[w64 (a6.Chip*v44)]) (l39.length+1) (l40++[w64 (a6.Dust*v44)]) (l40.length+1)) (ih (w64 (x38+1)) (l39++[w64 (a6.Chip*v44)]) (l39.length+1) (l40++[w64 (a6.Dust*v44)]) (l40.length+1) _ (wB rfl rfl) (wB rfl rfl) hm)
  ·refine q_ex 4 ?_;obtain rfl:=oi hm;exact q_l0
theorem qUn (a1:List qN) (a2:List qG) (a3:List qE) (a4:Rect) (a5:Saw) (a6:Rates) (r:Line×Int) (hm:CN a1 a2 a3 a4 a5 a6=some r):CtX Tryz.prog globs 172 0 0 [.one (tl qR dd a1),.one (tl qM dd a2),.one (tl qP dd a3),.agg (qT a4),.agg (jY a5),.agg (wC a6)] [] (qWB r) (qWF r):=by
 unfold CN at hm;refine q_E f172 145 λE=>?_;refine s_vn [] 0 ⟨[(0,vc (tl qR dd a1)),(1,vc (tl qM dd a2)),(2,vc (tl qP dd a3)),(9,vp 0 0),(10,vp 1 0),(11,vp 2 0),(12,vp 3 0)],[(0,bx 55 (qT a4)),(1,bx 39 (jY a5)),(2,bx 41 (wC a6)),(3,bx 123 [ci 0,ci 0,ci 0,.emp,.emp,.emp,.emp])]⟩ (q_sq ?_);obtain⟨v7,h8,hm⟩:=qC hm;refine s_vv [qc 6 [27,28,29,30,31,32] 4 (qSW a1 a2 a3 a4 a5 a6 v7 h8)] 4 [] [(14,vi v7)] (s_va 4 [(35,vb (v7 !=0))] ?_);refine q_cq hm (λhm=>?_) (λhm=>?_)
 ·refine s_vu [] 4 [0,1,2,9,10,11,14,35] [(13,vi v7)] [0,1,2] [] (q_fu [.ownB 3 3 4 3 1 (rf qD [])] [] [] [3] [(3,bx 123 [ci 0,ci 0,ci 0,.own 4 0 1 0,.emp,.emp,.emp]),(4,ro 0 3 1 0 (rf qD []))] o0 ?_);refine q_fu [.ownB 3 4 5 72 1 (rf (qU qD) [])] [] [] [3] [(3,bx 123 [ci 0,ci 0,ci 0,.own 4 0 1 0,.own 5 0 1 0,.emp,.emp]),(5,ro 0 72 1 0 (rf (qU qD) []))] o0 (q_fu [.ownB 3 5 6 3 1 (rf qD [])] [] [] [3] [(3,bx 123 [ci 0,ci 0,ci 0,.own 4 0 1 0,.own 5 0 1 0,.own 6 0 1 0,.emp]),(6,ro 0 3 1 0 (rf qD []))] o0 ?_)
  refine q_fu [.ownB 3 6 7 3 1 (rf qD [])] [] [] [3] [(3,bx 123 [ci 0,ci 0,ci 0,.own 4 0 1 0,.own 5 0 1 0,.own 6 0 1 0,.own 7 0 1 0]),(7,ro 0 3 1 0 (rf qD []))] o0 (q_fu [.len 4 (([]:List Int).length)] [] [] [3,4] [(3,bx 123 [ci 0,ci 0,ci 0,.own 4 0 1 (([]:List Int).length),.own 5 0 1 0,.own 6 0 1 0,.own 7 0 1 0]),(4,ro 0 3 1 (([]:List Int).length) (rf qD []))] (o1 (And.intro (show 0=([]:List Int).length from rfl) (show 0=([]:List Int).length from rfl))) ?_)
  refine q_fu [.len 5 (([]:List (List Int)).length)] [] [] [3,5] [(3,bx 123 [ci 0,ci 0,ci 0,.own 4 0 1 (([]:List Int).length),.own 5 0 1 (([]:List (List Int)).length),.own 6 0 1 0,.own 7 0 1 0]),(5,ro 0 72 1 (([]:List (List Int)).length) (rf (qU qD) []))] (o1 (And.intro (show 0=([]:List (List Int)).length from rfl) (show 0=([]:List (List Int)).length from rfl))) (q_fu [.len 6 (([]:List Int).length)] [] [] [3,6] [(3,bx 123 [ci 0,ci 0,ci 0,.own 4 0 1 (([]:List Int).length),.own 5 0 1 (([]:List (List Int)).length),.own 6 0 1 (([]:List Int).length),.own 7 0 1 0]),(6,ro 0 3 1 (([]:List Int).length) (rf qD []))] (o1 (And.intro (show 0=([]:List Int).length from rfl) (show 0=([]:List Int).length from rfl))) ?_)
  refine q_fu [.len 7 (([]:List Int).length)] [] [] [3,7] [(3,bx 123 [ci 0,ci 0,ci 0,.own 4 0 1 (([]:List Int).length),.own 5 0 1 (([]:List (List Int)).length),.own 6 0 1 (([]:List Int).length),.own 7 0 1 (([]:List Int).length)]),(7,ro 0 3 1 (([]:List Int).length) (rf qD []))] (o1 (And.intro (show 0=([]:List Int).length from rfl) (show 0=([]:List Int).length from rfl))) ?_;obtain rfl:=oi hm;refine q_sw 4 0 (q_sw 5 1 ?_);refine q_sw 6 2 (q_sw 7 3 ?_);exact q_rt q_rm
 ·refine q_sk (s_vv [] 4 [14,35] [(15,vi (w64 (a4.X.B-a4.X.A)))] ?_);obtain⟨v10,h11,hm⟩:=qC hm;refine s_vu [qc 8 [46,53] 4 (qJq a3 (w64 (a4.Y.B-a4.Y.A)) v10 h11)] 4 [] [(16,vo 4 0 1 v10.1.length),(17,vo 5 0 1 v10.2.length)] [] [(4,ro 0 3 1 v10.1.length (rf qD v10.1)),(5,ro 0 3 1 v10.2.length (rf qD v10.2))] (s_vu [] 6 [] [(18,vp 6 0)] [] [(6,bx 123 [ci (w64 (a4.X.B-a4.X.A)),ci a5.Kerf,ci 1,.own 4 0 1 v10.1.length,.emp,.emp,.emp])] ?_);refine q_sq (s_vv [] 7 [16] [(62,vo 4 0 1 v10.1.length),(63,vi (v10.1.length:Int)),(64,vi 0)] ?_)
  refine q_fu [.ownB 6 4 7 72 1 (rf (qU qD) [])] [] [] [6] [(6,bx 123 [ci (w64 (a4.X.B-a4.X.A)),ci a5.Kerf,ci 1,.own 4 0 1 v10.1.length,.own 7 0 1 0,.emp,.emp]),(7,ro 0 72 1 0 (rf (qU qD) []))] o0 ?_;obtain⟨o34,h35,hm⟩:=qC hm;refine zG (nd f172 1012) 0 (by kernel_rfl) FUEL (λo=>qHX a1 a4 a5 a6 v10 o) o34 (q_hl (qBh a1 a2 a3 a4 a5 a6 v10 0 ([]:List (List Int)) 0) (qQi E a1 a2 a3 a4 a5 a6 v10 FUEL 0 ([]:List (List Int)) 0 o34 rfl h35)) ?_;obtain⟨v36,h37,hm⟩:=qC hm;refine s_vu [qc 1 [110] 8 (FL a1 v36 h37)] 8 [] [(24,vp 8 0)] [] [(8,bx 53 [ci 0,ci v36])] (q_sq ?_)
  refine s_vv [] 9 [15] [(113,vi (w64 (a4.X.B-a4.X.A))),(114,vi 0)] (q_fu [.ownB 6 5 9 3 1 (rf qD [])] [] [] [6] [(6,bx 123 [ci (w64 (a4.X.B-a4.X.A)),ci a5.Kerf,ci 1,.own 4 0 1 v10.1.length,.own 7 0 1 o34.length,.own 9 0 1 0,.emp]),(9,ro 0 3 1 0 (rf qD []))] o0 ?_);refine q_fu [.ownB 6 6 10 3 1 (rf qD [])] [] [] [6] [(6,bx 123 [ci (w64 (a4.X.B-a4.X.A)),ci a5.Kerf,ci 1,.own 4 0 1 v10.1.length,.own 7 0 1 o34.length,.own 9 0 1 0,.own 10 0 1 0]),(10,ro 0 3 1 0 (rf qD []))] o0 ?_;obtain⟨o50,h51,hm⟩:=qC hm
  refine zG (nd f172 4084) 4 (by kernel_rfl) FUEL (λo=>qHu a4 a5 v10 o34 o.1 o.2) o50 (q_hl (qBU a1 a4 a5 a6 v10 o34 v36 0 ([]:List Int) 0 ([]:List Int) 0) (qOH E a1 a4 a5 a6 v10 o34 v36 FUEL 0 ([]:List Int) 0 ([]:List Int) 0 o50 rfl rfl h51)) (s_vu [] 11 [18] [(13,vi 0)] [3,6] [(3,bx 123 [ci (w64 (a4.X.B-a4.X.A)),ci a5.Kerf,ci 1,.own 4 0 1 v10.1.length,.own 7 0 1 o34.length,.own 9 0 1 o50.1.length,.own 10 0 1 o50.2.length])] ?_);obtain rfl:=oi hm;refine q_sw 4 0 (q_sw 7 1 ?_);refine q_sw 9 2 (q_sw 10 3 ?_);exact q_rt q_rm
def qNr (r:Int):V:=vi r
def qNU (r:Int):List (Nat×(Nat×O)):=[]
theorem qDQ (a1:Line) (a2:Int) (r:Int) (hm:PW a1 a2=some r):CtX Tryz.prog globs 115 0 0 [.agg (QK a1),.one (ci a2)] [] (qNr r) (qNU r):=by
 unfold PW at hm;refine q_E f115 16 λE=>?_;refine s_vn [] 0 ⟨[(1,vi a2),(2,vp 0 0)],[(0,bx 123 (QK a1))]⟩ (q_sq ?_);refine s_va 1 [(8,vb (a2==a1.Len))] (q_cq hm (λhm=>?_) (λhm=>?_))
 ·refine s_vn [] 1 ⟨[(4,vi (-1))],[]⟩ ?_;obtain rfl:=oi hm;exact q_rt q_rm
 ·refine q_sk (s_vn [] 1 ⟨[(4,vi (imin (w64 (a2+a1.Kerf)) a1.Len))],[]⟩ ?_);obtain rfl:=oi hm;exact q_rt q_rm
open Go.Proofs Go.Proofs.Tryz
def qMQ (r:Int):V:=vi r
def qMY (r:Int):List (Nat×(Nat×O)):=[]
theorem qLV (a1:Line) (a2:Int) (r:Int) (hm:qB1 a1 a2=some r):CtX Tryz.prog globs 179 0 0 [.agg (QK a1),.one (ci a2)] [] (qMQ r) (qMY r):=by
 unfold qB1 at hm;refine q_E f179 11 λE=>?_;refine s_vn [] 0 ⟨[(1,vi a2),(2,vp 0 0)],[(0,bx 123 (QK a1))]⟩ (s_vn [] 1 ⟨[(4,vi (imax 0 (w64 ((w64 (a1.Len-a2))+1))))],[]⟩ ?_);obtain rfl:=oi hm;exact q_rt q_rm
def MI (r:Int):V:=vi r
def LN (r:Int):List (Nat×(Nat×O)):=[]
def qH8 (a1:Line) (x10:Int) (x14:Bool):St:=
 ⟨[(38,vc (tl qD dd a1.Sizes)),(39,vi (a1.Sizes.length:Int)),(40,vi x10),(49,vb x14)],[]⟩
def GB (a1:Line) (x10:Int):St:=
 ⟨[(38,vc (tl qD dd a1.Sizes)),(39,vi (a1.Sizes.length:Int)),(40,vi x10)],[]⟩
def CS :St:=
 ⟨[],[]⟩
def qHS (a1:Line) (x7:Bool):St:=
 ⟨[(1,vp 0 0),(32,vb x7)],[(0,bx 123 (QK a1))]⟩
theorem qGV (E:Env 0) (a1:Line):∀(n:Nat) (x10:Int) (res:Int⊕Unit),jN a1 n x10=some res->HL (kx E 51 0) (nd f178 244) (wL 0 (λo=>CS) (λv st=>RetQ Tryz.prog f178 (MI v) (LN v) .ret st) res) n (GB a1 x10):=by
 intro n
 induction n with
 |zero=>
  intro x10 res hm;cases hm
 |succ n ih=>
  intro x10 res hm;refine qS (s_va 1 [(41,vb (decide (x10<(a1.Sizes.length:Int))))] ?_);refine q_sq (q_cq hm (λhm=>?_) (λhm=>?_))
  ·refine q_sk (q_sq ?_);refine q_bk 1 ?_;obtain⟨g12,hm⟩:=qJ hm;refine s_vv [qi 0 g12] 1 [41] [(4,vi (a1.Sizes.getD x10.toNat dd))] (q_jn (qH8 a1 x10) (λp=>RU x10 (jN a1 n) p=some res) ?_ ?_)
   ·rintro x14 hm;refine q_cq hm (λhm=>?_) (λhm=>?_)
    ·refine s_vn [] 1 ⟨[(2,vi 9)],[]⟩ ?_;obtain rfl:=oi hm;refine q_rt (zJ 9 ?_);exact q_rm
    ·refine q_sk (q_vv [] 1 [40,49] [(40,vi (w64 (x10+1)))] ?_);exact q_hl (GB a1 (w64 (x10+1))) (ih (w64 (x10+1)) _ hm)
   ·rcases bif_c hm with⟨b13,hm⟩|⟨b13,hm⟩
    ·exact q_vv [qf 2 b13] 1 [4] [(49,vb true)] (q_J (true) hm)
    ·exact q_vv [qf 2 b13] 1 [4] [(49,vb (decide ((a1.Sizes.getD x10.toNat dd)>2000)))] (q_J (decide ((a1.Sizes.getD x10.toNat dd)>2000)) hm)
  ·refine q_ex 0 ?_;obtain rfl:=oi hm;exact q_l1 ()
theorem qJA (a1:Line) (r:Int) (hm:RH a1=some r):CtX Tryz.prog globs 178 0 0 [.agg (QK a1)] [] (MI r) (LN r):=by
 unfold RH at hm;refine q_E f178 51 λE=>?_;refine s_vn [] 0 ⟨[(1,vp 0 0)],[(0,bx 123 (QK a1))]⟩ (q_sq ?_);refine q_jn (qHS a1) (λp=>jM a1 p=some r) ?_ ?_
 ·rintro x7 hm;refine q_cq hm (λhm=>?_) (λhm=>?_)
  ·refine s_vn [] 1 ⟨[(2,vi 9)],[]⟩ ?_;obtain rfl:=oi hm;exact q_rt q_rm
  ·refine q_sk (q_sq ?_);refine s_vv [] 1 [32] [(36,vb (decide ((a1.Sizes.length:Int)>32)))] (q_cq hm (λhm=>?_) (λhm=>?_))
   ·refine s_vn [] 1 ⟨[(2,vi 4)],[]⟩ ?_;obtain rfl:=oi hm;exact q_rt q_rm
   ·refine q_sk (q_sq ?_);refine s_vn [] 1 ⟨[(38,vc (tl qD dd a1.Sizes)),(39,vi (a1.Sizes.length:Int)),(40,vi 0)],[]⟩ ?_;obtain⟨u18,h17,hm⟩:=qC hm;refine zO (nd f178 244) 0 (by kernel_rfl) FUEL (λo=>CS) (λv st=>RetQ Tryz.prog f178 (MI v) (LN v) .ret st) u18 (q_hl (GB a1 0) (qGV E a1 FUEL 0 u18 h17)) ?_ ?_
    ·rintro v19 rfl st hr;obtain rfl:=oi hm;exact hr
    ·rintro o16 rfl;replace hm:_=some r:=hm;refine s_vn [] 1 ⟨[(2,vi 0)],[]⟩ ?_;obtain rfl:=oi hm;exact q_rt q_rm
 ·rcases bif_c hm with⟨b2,hm⟩|⟨b2,hm⟩
  ·exact q_vv [qf 3 b2] 1 [] [(32,vb true)] (q_J (true) hm)
  ·rcases bif_c hm with⟨b3,hm⟩|⟨b3,hm⟩
   ·exact q_vv [qf 3 b2,qf 8 b3] 1 [] [(32,vb true)] (q_J (true) hm)
   ·rcases bif_c hm with⟨b4,hm⟩|⟨b4,hm⟩
    ·exact q_vv [qf 3 b2,qf 8 b3,qf 13 b4] 1 [] [(32,vb true)] (q_J (true) hm)
    ·rcases bif_c hm with⟨b5,hm⟩|⟨b5,hm⟩
     ·exact q_vv [qf 3 b2,qf 8 b3,qf 13 b4,qf 18 b5] 1 [] [(32,vb true)] (q_J (true) hm)
     ·rcases bif_c hm with⟨b6,hm⟩|⟨b6,hm⟩
      ·exact q_vv [qf 3 b2,qf 8 b3,qf 13 b4,qf 18 b5,qf 23 b6] 1 [] [(32,vb true)] (q_J (true) hm)
      ·exact q_vv [qf 3 b2,qf 8 b3,qf 13 b4,qf 18 b5,qf 23 b6] 1 [] [(32,vb (decide (a1.Pitch>2000)))] (q_J (decide (a1.Pitch>2000)) hm)
def XR (r:Bool):V:=vb r
def ZK (r:Bool):List (Nat×(Nat×O)):=[]
theorem qOI (r:Bool):ZE (ZK r):=by
 intro i k o h;unfold ZK at h;cases h
def qA2 (a1:List (List Int)) (x2:Int) (x5:Int):St:=
 ⟨[(7,vc (tl (qU qD) dd a1)),(8,vi (a1.length:Int)),(9,vi x2),(13,vc (tl qD dd (a1.getD x2.toNat dd))),(14,vi ((a1.getD x2.toNat dd).length:Int)),(15,vi x5)],[]⟩
def qKv (a1:List (List Int)) (x2:Int) (x5:Int) (x9:Bool):St:=
 (qA2 a1 x2 x5).up [] [(24,vb x9)] [] []
def MH (a1:List (List Int)) (x2:Int) (x5:Int):St:=
 (qA2 a1 x2 x5).up [] [] [] []
def qC4 (a1:List (List Int)) (x2:Int):St:=
 ⟨[(7,vc (tl (qU qD) dd a1)),(8,vi (a1.length:Int)),(9,vi x2)],[]⟩
def LU (a1:List (List Int)) (x2:Int):St:=
 ⟨[(7,vc (tl (qU qD) dd a1)),(8,vi (a1.length:Int)),(9,vi x2)],[]⟩
def qCR :St:=
 ⟨[],[]⟩
theorem qJx (E:Env 0) (a1:List (List Int)) (x2:Int):∀(n:Nat) (x5:Int) (res:Bool⊕Unit),QM a1 x2 n x5=some res->HL (kx E 27 0) (nd f180 13516) (wL 2 (λo=>qC4 a1 x2) (λv st=>RetQ Tryz.prog f180 (XR v) (ZK v) .ret st) res) n (MH a1 x2 x5):=by
 intro n
 induction n with
 |zero=>
  intro x5 res hm;cases hm
 |succ n ih=>
  intro x5 res hm;refine qS (s_va 0 [(16,vb (decide (x5<((a1.getD x2.toNat dd).length:Int))))] ?_);refine q_sq (q_cq hm (λhm=>?_) (λhm=>?_))
  ·refine q_sk (q_sq ?_);refine q_bk 3 ?_;obtain⟨g7,hm⟩:=qJ hm;refine s_vv [qi 0 g7] 0 [16] [(6,vi ((a1.getD x2.toNat dd).getD x5.toNat dd))] (q_jn (qKv a1 x2 x5) (λp=>DT x5 (QM a1 x2 n) p=some res) ?_ ?_)
   ·rintro x9 hm;refine q_cq hm (λhm=>?_) (λhm=>?_)
    ·refine s_vn [] 0 ⟨[(2,vb false)],[]⟩ ?_;obtain rfl:=oi hm;refine q_rt (zJ false ?_);exact q_rm
    ·refine q_sk (q_vv [] 0 [15,24] [(15,vi (w64 (x5+1)))] ?_);exact q_hl (MH a1 x2 (w64 (x5+1))) (ih (w64 (x5+1)) _ hm)
   ·rcases bif_c hm with⟨b8,hm⟩|⟨b8,hm⟩
    ·exact q_vv [qf 2 b8] 0 [6] [(24,vb true)] (q_J (true) hm)
    ·exact q_vv [qf 2 b8] 0 [6] [(24,vb (decide (((a1.getD x2.toNat dd).getD x5.toNat dd)>1125899906842624)))] (q_J (decide (((a1.getD x2.toNat dd).getD x5.toNat dd)>1125899906842624)) hm)
  ·refine q_ex 2 ?_;obtain rfl:=oi hm;exact q_l1 ()
theorem qJL (E:Env 0) (a1:List (List Int)):∀(n:Nat) (x2:Int) (res:Bool⊕Unit),YS a1 n x2=some res->HL (kx E 27 0) (nd f180 52) (wL 0 (λo=>qCR) (λv st=>RetQ Tryz.prog f180 (XR v) (ZK v) .ret st) res) n (LU a1 x2):=by
 intro n
 induction n with
 |zero=>
  intro x2 res hm;cases hm
 |succ n ih=>
  intro x2 res hm;refine qS (s_va 0 [(10,vb (decide (x2<(a1.length:Int))))] ?_);refine q_sq (q_cq hm (λhm=>?_) (λhm=>?_))
  ·refine q_sk (q_sq ?_);refine q_bk 1 ?_;obtain⟨g4,hm⟩:=qJ hm;refine s_vv [qi 0 g4] 0 [10] [(4,vc (tl qD dd (a1.getD x2.toNat dd)))] (s_vv [] 0 [4] [(13,vc (tl qD dd (a1.getD x2.toNat dd))),(14,vi ((a1.getD x2.toNat dd).length:Int)),(15,vi 0)] ?_);obtain⟨u13,h12,hm⟩:=qC hm;refine zO (nd f180 13516) 2 (by kernel_rfl) FUEL (λo=>qC4 a1 x2) (λv st=>RetQ Tryz.prog f180 (XR v) (ZK v) .ret st) u13 (q_hl (MH a1 x2 0) (qJx E a1 x2 FUEL 0 u13 h12)) ?_ ?_
   ·rintro v14 rfl st hr;obtain rfl:=oi hm;exact zJ v14 hr
   ·rintro o11 rfl;replace hm:_=some res:=hm;exact q_vv [] 0 [9] [(9,vi (w64 (x2+1)))] (q_hl (LU a1 (w64 (x2+1))) (ih (w64 (x2+1)) _ hm))
  ·refine q_ex 0 ?_;obtain rfl:=oi hm;exact q_l1 ()
theorem OH (a1:List (List Int)) (r:Bool) (hm:TK a1=some r):CtX Tryz.prog globs 180 0 0 [.one (tl (qU qD) dd a1)] [] (XR r) (ZK r):=by
 unfold TK at hm;refine q_E f180 27 λE=>?_;refine s_vn [] 0 ⟨[(0,vc (tl (qU qD) dd a1))],[]⟩ (q_sq ?_);refine s_vn [] 0 ⟨[(7,vc (tl (qU qD) dd a1)),(8,vi (a1.length:Int)),(9,vi 0)],[]⟩ ?_;obtain⟨u17,h16,hm⟩:=qC hm;refine zO (nd f180 52) 0 (by kernel_rfl) FUEL (λo=>qCR) (λv st=>RetQ Tryz.prog f180 (XR v) (ZK v) .ret st) u17 (q_hl (LU a1 0) (qJL E a1 FUEL 0 u17 h16)) ?_ ?_
 ·rintro v18 rfl st hr;obtain rfl:=oi hm;exact hr
 ·rintro o15 rfl;replace hm:_=some r:=hm;refine s_vn [] 0 ⟨[(2,vb true)],[]⟩ ?_;obtain rfl:=oi hm;exact q_rt q_rm
open Go.Proofs Go.Proofs.Tryz
def CU (r:Int):V:=vi r
def qAY (r:Int):List (Nat×(Nat×O)):=[]
def MJ (a1:Line) (x9:Int):St:=
 ⟨[(1,vp 0 0),(35,vc (tl (qU qD) dd a1.Gain)),(36,vi (a1.Gain.length:Int)),(37,vi x9)],[(0,bx 123 (QK a1))]⟩
def qCM (a1:Line):St:=
 ⟨[(1,vp 0 0)],[(0,bx 123 (QK a1))]⟩
def qK1 (x25:Bool):St:=
 ⟨[(65,vb x25)],[]⟩
def qKU (a1:Line) (x7:Bool):St:=
 ⟨[(1,vp 0 0),(33,vb x7)],[(0,bx 123 (QK a1))]⟩
theorem qJF (E:Env 0) (a1:Line):∀(n:Nat) (x9:Int) (res:Int⊕Unit),YR a1 n x9=some res->HL (kx E 66 0) (nd f113 244) (wL 0 (λo=>qCM a1) (λv st=>RetQ Tryz.prog f113 (CU v) (qAY v) .ret st) res) n (MJ a1 x9):=by
 intro n
 induction n with
 |zero=>
  intro x9 res hm;cases hm
 |succ n ih=>
  intro x9 res hm;refine qS (s_va 1 [(38,vb (decide (x9<(a1.Gain.length:Int))))] ?_);refine q_sq (q_cq hm (λhm=>?_) (λhm=>?_))
  ·refine q_sk (q_sq ?_);refine q_bk 1 ?_;obtain⟨g11,hm⟩:=qJ hm;refine s_vv [qi 1 g11] 1 [38] [(4,vi x9),(5,vc (tl qD dd (a1.Gain.getD x9.toNat dd)))] ?_;obtain⟨g12,hm⟩:=qJ hm;obtain⟨v13,h14,hm⟩:=qC hm;refine s_du [qi 6 g12,qc 8 [44,49] 1 (qLV a1 (a1.Sizes.getD x9.toNat dd) v13 h14)] [0,1,0,0,8,0,56,120,252,511] 1 [4,5] [(51,vb (((a1.Gain.getD x9.toNat dd).length:Int) !=v13))] [] [] (q_cq hm (λhm=>?_) (λhm=>?_))
   ·refine s_vn [] 1 ⟨[(2,vi 19)],[]⟩ ?_;obtain rfl:=oi hm;refine q_rt (zJ 19 ?_);exact q_rm
   ·refine q_sk (q_vv [] 1 [37,51] [(37,vi (w64 (x9+1)))] ?_);exact q_hl (MJ a1 (w64 (x9+1))) (ih (w64 (x9+1)) _ hm)
  ·refine q_ex 0 ?_;obtain rfl:=oi hm;exact q_l1 ()
theorem qOd (a1:Line) (r:Int) (hm:NN a1=some r):CtX Tryz.prog globs 113 0 0 [.agg (QK a1)] [] (CU r) (qAY r):=by
 unfold NN at hm;refine q_E f113 66 λE=>?_;refine s_vn [] 0 ⟨[(1,vp 0 0)],[(0,bx 123 (QK a1))]⟩ (q_sq ?_);obtain⟨v2,h3,hm⟩:=qC hm;refine s_vv [qc 1 [6] 1 (qJA a1 v2 h3)] 1 [] [(3,vi v2)] (s_va 1 [(9,vb (v2 !=0))] ?_);refine q_cq hm (λhm=>?_) (λhm=>?_)
 ·refine s_vn [] 1 ⟨[(2,vi v2)],[]⟩ ?_;obtain rfl:=oi hm;exact q_rt q_rm
 ·refine q_sk (q_sq ?_);refine q_jn (qKU a1) (λp=>RS a1 p=some r) ?_ ?_
  ·rintro x7 hm;refine q_cq hm (λhm=>?_) (λhm=>?_)
   ·refine s_vn [] 1 ⟨[(2,vi 19)],[]⟩ ?_;obtain rfl:=oi hm;exact q_rt q_rm
   ·refine q_sk (q_sq ?_);refine s_vv [] 1 [33] [(35,vc (tl (qU qD) dd a1.Gain)),(36,vi (a1.Gain.length:Int)),(37,vi 0)] ?_;obtain⟨u18,h17,hm⟩:=qC hm;refine zO (nd f113 244) 0 (by kernel_rfl) FUEL (λo=>qCM a1) (λv st=>RetQ Tryz.prog f113 (CU v) (qAY v) .ret st) u18 (q_hl (MJ a1 0) (qJF E a1 FUEL 0 u18 h17)) ?_ ?_
    ·rintro v19 rfl st hr;obtain rfl:=oi hm;exact hr
    ·rintro o16 rfl;replace hm:_=some r:=hm;refine q_sq (q_jn (qK1) (λp=>OR p=some r) ?_ ?_)
     ·rintro x25 hm;refine q_cq hm (λhm=>?_) (λhm=>?_)
      ·refine s_vn [] 2 ⟨[(2,vi 9)],[]⟩ ?_;obtain rfl:=oi hm;exact q_rt q_rm
      ·refine q_sk (s_vn [] 2 ⟨[(2,vi 0)],[]⟩ ?_);obtain rfl:=oi hm;exact q_rt q_rm
     ·obtain⟨v20,h21,hm⟩:=qC hm;rcases bif_c hm with⟨b22,hm⟩|⟨b22,hm⟩
      ·exact q_vn [qc 2 [54] 1 (OH a1.Gain v20 h21),qf 4 b22] 1 ⟨[(65,vb true)],[]⟩ (q_J (true) hm)
      ·obtain⟨v23,h24,hm⟩:=qC hm
       exact q_vn [qc 2 [54] 1 (OH a1.Gain v20 h21),qf 4 b22,qd 9 (drw 1 0 (rf (qU qD) [a1.Chip,a1.Dust])) (litP (qU qD) dd 1 (λ_=>rfl) ([a1.Chip,a1.Dust]:List (List Int)) 2 rfl),qd 10 (dex (cen [] [] 2 0 (XR v23) (ZK v23) [57,62] [1])) (wK (K:=(kx E 66 0)) (xs':=[.one (.lst 2 (rf (qU qD) [a1.Chip,a1.Dust]))]) (b:=false) ⟨[(57,vb false),(62,vo 1 0 1 2)],[(1,ro 0 72 1 2 (rf (qU qD) [a1.Chip,a1.Dust]))]⟩ (opAt (rg f113 124) 10) [] [] 2 (o1 (ke 2)) (by simp only[tl,rf,show([a1.Chip,a1.Dust]:List (List Int)).length=2 from rfl]) (OH ([a1.Chip,a1.Dust]:List (List Int)) v23 h24) (.inr ⟨(by kernel_rfl),qOI v23⟩) (by kernel_rfl))] 1 ⟨[(65,vb (!v23))],[]⟩ (q_J (!v23) hm)
  ·rcases bif_c hm with⟨b5,hm⟩|⟨b5,hm⟩
   ·exact q_vv [qf 7 b5] 1 [3,9] [(33,vb true)] (q_J (true) hm)
   ·rcases bif_c hm with⟨b6,hm⟩|⟨b6,hm⟩
    ·exact q_vv [qf 7 b5,qf 15 b6] 1 [3,9] [(33,vb true)] (q_J (true) hm)
    ·exact q_vv [qf 7 b5,qf 15 b6] 1 [3,9] [(33,vb ((a1.Dust.length:Int) !=a1.Len))] (q_J ((a1.Dust.length:Int) !=a1.Len) hm)
end Saw
end Go.SL

import Derived.Test.YtigmogcdifllhaaGreatDoorEBase
import Derived.Test.YtigmogcdifllhaaGreatDoorEFa4
import Derived.Test.YtigmogcdifllhaaGreatDoorEFa6
import Derived.Test.YtigmogcdifllhaaGreatDoorEFa1
import Derived.Test.YtigmogcdifllhaaGreatDoorEFa3
set_option linter.unusedVariables false
set_option linter.unusedSimpArgs false
namespace Go.SL
namespace Saw
open Go.Proofs Go.Proofs.Tryz
set_option maxHeartbeats 4000000
set_option maxRecDepth 100000
def qWm (r:Line×(List (List (List Node)))):V:= .tup [.agg [ci r.1.Len,ci r.1.Kerf,ci r.1.Pitch,.own 0 0 1 r.1.Sizes.length,.own 1 0 1 r.1.Gain.length,.own 2 0 1 r.1.Chip.length,.own 3 0 1 r.1.Dust.length],.one (.own 4 0 1 r.2.length)]
def qWk (r:Line×(List (List (List Node)))):List (Nat×(Nat×O)):=[(0,ro 0 3 1 r.1.Sizes.length (rf qE r.1.Sizes)),(1,ro 0 72 1 r.1.Gain.length (rf (qW qE) r.1.Gain)),(2,ro 0 3 1 r.1.Chip.length (rf qE r.1.Chip)),(3,ro 0 3 1 r.1.Dust.length (rf qE r.1.Dust)),(4,ro 0 130 1 r.2.length (rf (qW (qW qK)) r.2))]
def RJ (a1:List qO) (a2:List qH) (a3:List qD) (a4:Rect) (a5:Saw) (a6:Rates) (v7:(List Int)) (l9:List (List (List Node))) (x10:Int) (l11:List (List Int)):St:=
 ⟨[(0,vc (tl qS du a1)),(1,vc (tl qN du a2)),(2,vc (tl qM du a3)),(9,vp 0 0),(10,vp 1 0),(11,vp 2 0),(12,vp 3 0),(14,vi (w64 (a4.Y.B-a4.Y.A))),(15,vp 5 0),(16,vo 6 0 1 l9.length),(43,vo 4 0 1 v7.length),(44,vi (v7.length:Int)),(45,vi x10)],[(0,bx 55 (qR a4)),(1,bx 39 (yK a5)),(2,bx 41 (wI a6)),(3,bx 123 [ci 0,ci 0,ci 0,.emp,.emp,.emp,.emp]),(4,ro 0 3 1 v7.length (rf qE v7)),(5,bx 123 [ci (w64 (a4.Y.B-a4.Y.A)),ci a5.Kerf,ci 1,.own 4 0 1 v7.length,.own 7 0 1 l11.length,.emp,.emp]),(6,ro 0 130 1 l9.length (rf (qW (qW qK)) l9)),(7,ro 0 72 1 l11.length (rf (qW qE) l11))]⟩
def CJ (v7:(List Int)):St:=
 ⟨[(12,vp 3 0),(15,vp 5 0)],[(3,bx 123 [ci 0,ci 0,ci 0,.emp,.emp,.emp,.emp]),(4,ro 0 3 1 v7.length (rf qE v7))]⟩
def qH9 (a1:List qO) (a2:List qH) (a3:List qD) (a4:Rect) (a5:Saw) (a6:Rates) (v7:(List Int)) (l9:List (List (List Node))) (x10:Int) (l11:List (List Int)) (l14:List Int) (l15:List (List Node)) (x16:Int) (x30:Int) (l31:List Node) (l31n:Nat):St:=
 (RJ a1 a2 a3 a4 a5 a6 v7 l9 x10 l11).up [] [(18,vi (v7.getD x10.toNat du)),(19,vo 8 0 1 l14.length),(20,vo 9 0 1 l15.length),(21,vi x16),(22,vi x30),(23,vo 10 0 2 l31n)] [] [(8,ro 0 3 1 l14.length (rf qE l14)),(9,ro 0 56 1 l15.length (rf (qW qK) l15)),(10,ro 0 156 2 l31n (rf qK l31))]
def qQ8 (a1:List qO) (a2:List qH) (a3:List qD) (a4:Rect) (a5:Saw) (a6:Rates) (v7:(List Int)) (l9:List (List (List Node))) (x10:Int) (l11:List (List Int)) (l14:List Int) (l15:List (List Node)) (x16:Int) (v22:(List Node)×Int×Int) (x27:Bool):St:=
 (RJ a1 a2 a3 a4 a5 a6 v7 l9 x10 l11).up [] [(18,vi (v7.getD x10.toNat du)),(19,vo 8 0 1 l14.length),(20,vo 9 0 1 l15.length),(21,vi x16),(22,vi (-1)),(23,vc (.emp)),(24,vo 10 0 2 v22.1.length),(25,vi v22.2.1),(82,vb x27)] [] [(8,ro 0 3 1 l14.length (rf qE l14)),(9,ro 0 56 1 l15.length (rf (qW qK) l15)),(10,ro 0 156 2 v22.1.length (rf qK v22.1))]
def qBR (a1:List qO) (a2:List qH) (a3:List qD) (a4:Rect) (a5:Saw) (a6:Rates) (v7:(List Int)) (l9:List (List (List Node))) (x10:Int) (l11:List (List Int)) (l14:List Int) (l14n:Nat) (l15:List (List Node)) (l15n:Nat) (x16:Int):St:=
 (RJ a1 a2 a3 a4 a5 a6 v7 l9 x10 l11).up [] [(18,vi (v7.getD x10.toNat du)),(19,vo 8 0 1 l14n),(20,vo 9 0 1 l15n),(21,vi x16)] [] [(8,ro 0 3 1 l14n (rf qE l14)),(9,ro 0 56 1 l15n (rf (qW qK) l15))]
def qId (a1:List qO) (a2:List qH) (a3:List qD) (a4:Rect) (a5:Saw) (a6:Rates) (v7:(List Int)) (l9:List (List (List Node))) (x10:Int) (l11:List (List Int)) (l34:List Int) (l35:List (List Node)):St:=
 (RJ a1 a2 a3 a4 a5 a6 v7 l9 x10 l11).up [] [(19,vo 8 0 1 l34.length),(20,vo 9 0 1 l35.length)] [] [(8,ro 0 3 1 l34.length (rf qE l34)),(9,ro 0 56 1 l35.length (rf (qW qK) l35))]
def qBv (a1:List qO) (a2:List qH) (a3:List qD) (a4:Rect) (a5:Saw) (a6:Rates) (v7:(List Int)) (l9:List (List (List Node))) (l9n:Nat) (x10:Int) (l11:List (List Int)) (l11n:Nat):St:=
 (RJ a1 a2 a3 a4 a5 a6 v7 l9 x10 l11).up [16] [(16,vo 6 0 1 l9n)] [5,6,7] [(5,bx 123 [ci (w64 (a4.Y.B-a4.Y.A)),ci a5.Kerf,ci 1,.own 4 0 1 v7.length,.own 7 0 1 l11n,.emp,.emp]),(6,ro 0 130 1 l9n (rf (qW (qW qK)) l9)),(7,ro 0 72 1 l11n (rf (qW qE) l11))]
def qH5 (a1:List qO) (a4:Rect) (a5:Saw) (a6:Rates) (v7:(List Int)) (l40:List (List (List Node))) (l41:List (List Int)):St:=
 (CJ v7).up [] [(0,vc (tl qS du a1)),(9,vp 0 0),(11,vp 2 0),(14,vi (w64 (a4.Y.B-a4.Y.A))),(16,vo 6 0 1 l40.length)] [] [(0,bx 55 (qR a4)),(2,bx 41 (wI a6)),(5,bx 123 [ci (w64 (a4.Y.B-a4.Y.A)),ci a5.Kerf,ci 1,.own 4 0 1 v7.length,.own 7 0 1 l41.length,.emp,.emp]),(6,ro 0 130 1 l40.length (rf (qW (qW qK)) l40)),(7,ro 0 72 1 l41.length (rf (qW qE) l41))]
def qCg (a1:List qO) (a4:Rect) (a5:Saw) (a6:Rates) (v7:(List Int)) (o42:(List (List (List Node)))×(List (List Int))) (x44:Int) (l45:List Int) (l45n:Nat) (l46:List Int) (l46n:Nat):St:=
 (CJ v7).up [] [(0,vc (tl qS du a1)),(9,vp 0 0),(11,vp 2 0),(16,vo 6 0 1 o42.1.length),(104,vi (w64 (a4.Y.B-a4.Y.A))),(105,vi x44)] [] [(0,bx 55 (qR a4)),(2,bx 41 (wI a6)),(5,bx 123 [ci (w64 (a4.Y.B-a4.Y.A)),ci a5.Kerf,ci 1,.own 4 0 1 v7.length,.own 7 0 1 o42.2.length,.own 8 0 1 l45n,.own 9 0 1 l46n]),(6,ro 0 130 1 o42.1.length (rf (qW (qW qK)) o42.1)),(7,ro 0 72 1 o42.2.length (rf (qW qE) o42.2)),(8,ro 0 3 1 l45n (rf qE l45)),(9,ro 0 3 1 l46n (rf qE l46))]
def qHz (a4:Rect) (a5:Saw) (v7:(List Int)) (o42:(List (List (List Node)))×(List (List Int))) (l54:List Int) (l55:List Int):St:=
 (CJ v7).up [] [(16,vo 6 0 1 o42.1.length)] [] [(5,bx 123 [ci (w64 (a4.Y.B-a4.Y.A)),ci a5.Kerf,ci 1,.own 4 0 1 v7.length,.own 7 0 1 o42.2.length,.own 8 0 1 l54.length,.own 9 0 1 l55.length]),(6,ro 0 130 1 o42.1.length (rf (qW (qW qK)) o42.1)),(7,ro 0 72 1 o42.2.length (rf (qW qE) o42.2)),(8,ro 0 3 1 l54.length (rf qE l54)),(9,ro 0 3 1 l55.length (rf qE l55))]
theorem qOG (E:Env 0) (a1:List qO) (a2:List qH) (a3:List qD) (a4:Rect) (a5:Saw) (a6:Rates) (v7:(List Int)) (l9:List (List (List Node))) (x10:Int) (l11:List (List Int)):∀(n:Nat) (l14:List Int) (l14n:Nat) (l15:List (List Node)) (l15n:Nat) (x16:Int) (res:(List Int)×(List (List Node))),l14.length=l14n->l15.length=l15n->zS a1 a2 a3 a4 a5 a6 v7 x10 n l14 l15 x16=some res->HL (kx E 136 0) (nd f54 1025652) (zN 2 (λo=>qId a1 a2 a3 a4 a5 a6 v7 l9 x10 l11 o.1 o.2) res) n (qBR a1 a2 a3 a4 a5 a6 v7 l9 x10 l11 l14 l14n l15 l15n x16):=by
 intro n
 induction n with
 |zero=>
  intro l14 l14n l15 l15n x16 res hl0 hl1 hm;cases hm
 |succ n ih=>
  intro l14 l14n l15 l15n x16 res hl0 hl1 hm;subst hl0;subst hl1;refine qU (q_sq ?_);refine s_va 10 [(53,vb (decide ((w64 (x16+(v7.getD x10.toNat du)))<=(w64 (a4.Y.B-a4.Y.A)))))] (q_cq hm (λhm=>?_) (λhm=>?_))
  ·refine q_sk (q_sq ?_);refine q_bk 3 (s_vv [] 10 [53] [(22,vi (-1))] ?_);refine s_va 10 [(23,vc (.emp))] (q_jn (ι:=Int×(List Node)×Nat) (λp=>qH9 a1 a2 a3 a4 a5 a6 v7 l9 x10 l11 l14 l15 x16 p.1 p.2.1 p.2.2) (λp=>p.2.1.length=p.2.2/\XN l14 l15 x16 (zS a1 a2 a3 a4 a5 a6 v7 x10 n) p.1 p.2.1=some res) ?_ ?_)
   ·rintro⟨x30,l31,l31n⟩ ⟨el31,hm⟩;replace el31:l31.length=l31n:=el31;subst el31;show H _ (qH9 a1 a2 a3 a4 a5 a6 v7 l9 x10 l11 l14 l15 x16 x30 l31 l31.length) _ _;obtain⟨g32,hm⟩:=qJ hm;refine s_vu [qd 2 (drw 12 0 (rf qE [x30])) (litP qE du 1 (λ_=>rfl) ([x30]:List Int) 1 rfl),qd 3 (drw 8 1 (rf qE (l14++[x30]))) (apP qE du l14 ([x30]:List Int) l14.length 1 1 8 (1<=1) (ke _) rfl rfl (λ_=>rfl) (wB g32))] 12 [19,22] [(19,vo 8 1 1 (l14.length+1))] [8] [(8,ro 1 3 1 (l14.length+1) (rf qE (l14++[x30])))] ?_;obtain⟨g33,hm⟩:=qJ hm
    refine q_vu [qd 2 (dpr [.frz 10] (drw 13 0 (rf (qW qK) [l31]))) (And.intro (ke l31.length) (ke l31.length)),qd 2 dN (litP (qW qK) du 1 (λ_=>rfl) ([l31]:List (List Node)) 1 rfl),qd 3 (drw 9 1 (rf (qW qK) (l15++[l31]))) (apP (qW qK) du l15 ([l31]:List (List Node)) l15.length 1 1 24 (1<=1) (ke _) rfl rfl (λ_=>rfl) (wB g33))] 13 [20,23] [(20,vo 9 1 1 (l15.length+1))] [9,10] [(9,ro 1 56 1 (l15.length+1) (rf (qW qK) (l15++[l31])))] (q_vv [] 14 [21] [(21,vi (w64 (x16+1)))] ?_)
    exact q_hl (qBR a1 a2 a3 a4 a5 a6 v7 l9 x10 l11 (l14++[x30]) (l14.length+1) (l15++[l31]) (l15.length+1) (w64 (x16+1))) (ih (l14++[x30]) (l14.length+1) (l15++[l31]) (l15.length+1) (w64 (x16+1)) _ (wC rfl rfl) (wC rfl rfl) hm)
   ·obtain⟨g18,hm⟩:=qJ hm;refine s_vv [qd 3 dN (OA g18)] 10 [] [(60,vb ((Int.tmod x16 a5.Pitch)==0))] (q_cq hm (λhm=>?_) (λhm=>?_))
    ·obtain⟨v20,h21,hm⟩:=qC hm;obtain⟨v22,h23,hm⟩:=qC hm;refine s_du [qc 8 [65,66,69] 10 (qDx a4 x16 (w64 (x16+(v7.getD x10.toNat du))) v20 h21),qc 11 [62,63,64,70,71,72] 10 (qVX a1 a2 a3 v20 a5 a6 v22 h23)] [0,0,0,0,0,0,0,96,248,0,0,2047,4095,8191,8191,8191,16383,98303,262143] 10 [60] [(24,vo 10 0 2 v22.1.length),(25,vi v22.2.1),(26,vi v22.2.2)] [] [(10,ro 0 156 2 v22.1.length (rf qK v22.1))] (q_jn (qQ8 a1 a2 a3 a4 a5 a6 v7 l9 x10 l11 l14 l15 x16 v22) (λp=>MM l14 l15 x16 (zS a1 a2 a3 a4 a5 a6 v7 x10 n) v22 p=some res) ?_ ?_)
     ·rintro x27 hm;refine q_cq hm (λhm=>?_) (λhm=>?_)
      ·exact q_vv [] 11 [22,23,24,25,82] [(22,vi v22.2.1),(23,vo 10 0 2 v22.1.length)] (q_J (v22.2.1,v22.1,v22.1.length) ⟨rfl,hm⟩)
      ·refine q_fu [.swp 10 11] [24] [(24,vo 11 0 2 v22.1.length)] [10] [(11,ro 0 156 2 v22.1.length (rf qK v22.1))] o0 (q_fo 23 10 156 2 qK ?_);exact q_sk (q_J ((-1),([]:List Node),0) ⟨rfl,hm⟩)
     ·rcases bif_c hm with⟨b24,hm⟩|⟨b24,hm⟩
      ·obtain⟨v25,h26,hm⟩:=qC hm;exact q_vv [qf 2 b24,qd 4 (dex (cen [] [] 11 0 (qGv v25) (LY v25) [79,80] [10])) (wO (K:=(kx E 136 0)) (b:=false) ⟨[(79,vb true),(80,vo 10 0 2 v22.1.length)],[(10,ro 0 156 2 v22.1.length (rf qK v22.1))]⟩ (opAt (rg f54 1050268266) 4) [] [] 11 (o1 (ke v22.1.length)) rfl (qOw v22.1 v25 h26) (.inr ⟨(by kernel_rfl),qQR v25⟩) (by kernel_rfl))] 11 [26] [(82,vb v25)] (q_J (v25) hm)
      ·exact q_vv [qf 2 b24] 11 [26] [(82,vb false)] (q_J (false) hm)
    ·refine q_fo 23 10 156 2 qK (q_sk ?_);exact q_J ((-1),([]:List Node),0) ⟨rfl,hm⟩
  ·refine q_ex 2 ?_;obtain rfl:=oi hm;exact q_l0
theorem qQh (E:Env 0) (a1:List qO) (a2:List qH) (a3:List qD) (a4:Rect) (a5:Saw) (a6:Rates) (v7:(List Int)):∀(n:Nat) (l9:List (List (List Node))) (l9n:Nat) (x10:Int) (l11:List (List Int)) (l11n:Nat) (res:(List (List (List Node)))×(List (List Int))),l9.length=l9n->l11.length=l11n->yO a1 a2 a3 a4 a5 a6 v7 n l9 x10 l11=some res->HL (kx E 136 0) (nd f54 500) (zN 0 (λo=>qH5 a1 a4 a5 a6 v7 o.1 o.2) res) n (qBv a1 a2 a3 a4 a5 a6 v7 l9 l9n x10 l11 l11n):=by
 intro n
 induction n with
 |zero=>
  intro l9 l9n x10 l11 l11n res hl0 hl1 hm;cases hm
 |succ n ih=>
  intro l9 l9n x10 l11 l11n res hl0 hl1 hm;subst hl0;subst hl1;refine qU (s_va 8 [(46,vb (decide (x10<(v7.length:Int))))] ?_);refine q_sq (q_cq hm (λhm=>?_) (λhm=>?_))
  ·refine q_sk (q_sq ?_);refine q_bk 1 ?_;obtain⟨g13,hm⟩:=qJ hm;refine s_vv [qi 0 g13,qd 1 dN (qT (zB g13))] 8 [46] [(18,vi (v7.getD x10.toNat du))] (s_va 8 [(19,vc (.emp))] ?_);refine s_va 8 [(20,vc (.emp))] (q_sq ?_);refine s_va 8 [(21,vi 0)] (q_fo 19 8 3 1 qE ?_);refine q_fo 20 9 56 1 (qW qK) ?_;obtain⟨o36,h37,hm⟩:=qC hm
   refine zI (nd f54 1025652) 2 (by kernel_rfl) FUEL (λo=>qId a1 a2 a3 a4 a5 a6 v7 l9 x10 l11 o.1 o.2) o36 (q_hl (qBR a1 a2 a3 a4 a5 a6 v7 l9 x10 l11 ([]:List Int) 0 ([]:List (List Node)) 0 0) (qOG E a1 a2 a3 a4 a5 a6 v7 l9 x10 l11 FUEL ([]:List Int) 0 ([]:List (List Node)) 0 0 o36 rfl rfl h37)) ?_;obtain⟨g38,hm⟩:=qJ hm
   refine s_vu [qd 3 (dpr [.frz 8] (drw 10 0 (rf (qW qE) [o36.1]))) (And.intro (ke o36.1.length) (ke o36.1.length)),qd 3 dN (litP (qW qE) du 1 (λ_=>rfl) ([o36.1]:List (List Int)) 1 rfl),qd 4 (drw 7 1 (rf (qW qE) (l11++[o36.1]))) (apP (qW qE) du l11 ([o36.1]:List (List Int)) l11.length 1 1 24 (1<=1) (ke _) rfl rfl (λ_=>rfl) (wB g38))] 10 [19] [] [5,7,8] [(5,bx 123 [ci (w64 (a4.Y.B-a4.Y.A)),ci a5.Kerf,ci 1,.own 4 0 1 v7.length,.own 7 1 1 (l11.length+1),.emp,.emp]),(7,ro 1 72 1 (l11.length+1) (rf (qW qE) (l11++[o36.1])))] ?_;obtain⟨g39,hm⟩:=qJ hm
   refine q_vu [qd 2 (dpr [.frz 9] (drw 11 0 (rf (qW (qW qK)) [o36.2]))) (And.intro (ke o36.2.length) (ke o36.2.length)),qd 2 dN (litP (qW (qW qK)) du 1 (λ_=>rfl) ([o36.2]:List (List (List Node))) 1 rfl),qd 3 (drw 6 1 (rf (qW (qW qK)) (l9++[o36.2]))) (apP (qW (qW qK)) du l9 ([o36.2]:List (List (List Node))) l9.length 1 1 24 (1<=1) (ke _) rfl rfl (λ_=>rfl) (wB g39))] 11 [16,20] [(16,vo 6 1 1 (l9.length+1))] [6,9] [(6,ro 1 130 1 (l9.length+1) (rf (qW (qW qK)) (l9++[o36.2])))] (q_vv [] 12 [45] [(45,vi (w64 (x10+1)))] ?_)
   exact q_hl (qBv a1 a2 a3 a4 a5 a6 v7 (l9++[o36.2]) (l9.length+1) (w64 (x10+1)) (l11++[o36.1]) (l11.length+1)) (ih (l9++[o36.2]) (l9.length+1) (w64 (x10+1)) (l11++[o36.1]) (l11.length+1) _ (wC rfl rfl) (wC rfl rfl) hm)
  ·refine q_ex 0 ?_;obtain rfl:=oi hm;exact q_l0
theorem qQi (E:Env 0) (a1:List qO) (a4:Rect) (a5:Saw) (a6:Rates) (v7:(List Int)) (o42:(List (List (List Node)))×(List (List Int))):∀(n:Nat) (x44:Int) (l45:List Int) (l45n:Nat) (l46:List Int) (l46n:Nat) (res:(List Int)×(List Int)),l45.length=l45n->l46.length=l46n->RO a1 a4 a6 n x44 l45 l46=some res->HL (kx E 136 0) (nd f54 1012) (zN 4 (λo=>qHz a4 a5 v7 o42 o.1 o.2) res) n (qCg a1 a4 a5 a6 v7 o42 x44 l45 l45n l46 l46n):=by
 intro n
 induction n with
 |zero=>
  intro x44 l45 l45n l46 l46n res hl0 hl1 hm;cases hm
 |succ n ih=>
  intro x44 l45 l45n l46 l46n res hl0 hl1 hm;subst hl0;subst hl1;refine qU (s_va 10 [(106,vb (decide (x44<(w64 (a4.Y.B-a4.Y.A)))))] ?_);refine q_sq (q_cq hm (λhm=>?_) (λhm=>?_))
  ·refine q_sk (q_sq ?_);refine q_bk 5 (s_vv [] 10 [106] [(27,vi x44)] ?_);obtain⟨v48,h49,hm⟩:=qC hm;obtain⟨v50,h51,hm⟩:=qC hm;refine s_vv [qc 5 [109,110,112] 10 (qDx a4 x44 (w64 (x44+1)) v48 h49),qc 6 [108,113] 10 (qHH a1 v48 v50 h51)] 10 [27] [(28,vi v50)] ?_;obtain⟨g52,hm⟩:=qJ hm
   refine s_vu [qd 6 (drw 10 0 (rf qE [w64 (a6.Chip*v50)])) (litP qE du 1 (λ_=>rfl) ([w64 (a6.Chip*v50)]:List Int) 1 rfl),qd 7 (drw 8 1 (rf qE (l45++[w64 (a6.Chip*v50)]))) (apP qE du l45 ([w64 (a6.Chip*v50)]:List Int) l45.length 1 1 8 (1<=1) (ke _) rfl rfl (λ_=>rfl) (wB g52))] 10 [] [] [5,8] [(5,bx 123 [ci (w64 (a4.Y.B-a4.Y.A)),ci a5.Kerf,ci 1,.own 4 0 1 v7.length,.own 7 0 1 o42.2.length,.own 8 1 1 (l45.length+1),.own 9 0 1 l46.length]),(8,ro 1 3 1 (l45.length+1) (rf qE (l45++[w64 (a6.Chip*v50)])))] ?_;obtain⟨g53,hm⟩:=qJ hm
   refine q_vu [qd 6 (drw 11 0 (rf qE [w64 (a6.Dust*v50)])) (litP qE du 1 (λ_=>rfl) ([w64 (a6.Dust*v50)]:List Int) 1 rfl),qd 7 (drw 9 1 (rf qE (l46++[w64 (a6.Dust*v50)]))) (apP qE du l46 ([w64 (a6.Dust*v50)]:List Int) l46.length 1 1 8 (1<=1) (ke _) rfl rfl (λ_=>rfl) (wB g53))] 11 [28] [] [5,9] [(5,bx 123 [ci (w64 (a4.Y.B-a4.Y.A)),ci a5.Kerf,ci 1,.own 4 0 1 v7.length,.own 7 0 1 o42.2.length,.own 8 1 1 (l45.length+1),.own 9 1 1 (l46.length+1)]),(9,ro 1 3 1 (l46.length+1) (rf qE (l46++[w64 (a6.Dust*v50)])))] (q_vv [] 12 [105] [(105,vi (w64 (x44+1)))] ?_)
   exact q_hl (qCg a1 a4 a5 a6 v7 o42 (w64 (x44+1)) (l45++[w64 (a6.Chip*v50)]) (l45.length+1) (l46++[w64 (a6.Dust*v50)]) (l46.length+1)) (ih (w64 (x44+1)) (l45++[w64 (a6.Chip*v50)]) (l45.length+1) (l46++[w64 (a6.Dust*v50)]) (l46.length+1) _ (wC rfl rfl) (wC rfl rfl) hm)
  ·refine q_ex 4 ?_;obtain rfl:=oi hm;exact q_l0
theorem qTV (a1:List qO) (a2:List qH) (a3:List qD) (a4:Rect) (a5:Saw) (a6:Rates) (r:Line×(List (List (List Node)))) (hm:PQ a1 a2 a3 a4 a5 a6=some r):CtX Tryz.prog globs 54 0 0 [.one (tl qS du a1),.one (tl qN du a2),.one (tl qM du a3),.agg (qR a4),.agg (yK a5),.agg (wI a6)] [] (qWm r) (qWk r):=by
 unfold PQ at hm;refine q_E f54 136 λE=>?_;refine s_vn [] 0 ⟨[(0,vc (tl qS du a1)),(1,vc (tl qN du a2)),(2,vc (tl qM du a3)),(9,vp 0 0),(10,vp 1 0),(11,vp 2 0),(12,vp 3 0)],[(0,bx 55 (qR a4)),(1,bx 39 (yK a5)),(2,bx 41 (wI a6)),(3,bx 123 [ci 0,ci 0,ci 0,.emp,.emp,.emp,.emp])]⟩ (s_va 4 [(14,vi (w64 (a4.Y.B-a4.Y.A)))] ?_);obtain⟨v7,h8,hm⟩:=qC hm;refine s_du [qc 4 [39] 4 (qPq a3 v7 h8)] [0,0,2,0,8,31,0,127] 4 [] [(15,vp 5 0)] [] [(4,ro 0 3 1 v7.length (rf qE v7)),(5,bx 123 [ci (w64 (a4.Y.B-a4.Y.A)),ci a5.Kerf,ci 1,.own 4 0 1 v7.length,.emp,.emp,.emp])] (s_va 6 [(16,vc (.emp))] ?_)
 refine q_sq (s_va 6 [(43,vo 4 0 1 v7.length),(44,vi (v7.length:Int)),(45,vi 0)] ?_);refine q_fo 16 6 130 1 (qW (qW qK)) (q_fu [.ownB 5 4 7 72 1 (rf (qW qE) [])] [] [] [5] [(5,bx 123 [ci (w64 (a4.Y.B-a4.Y.A)),ci a5.Kerf,ci 1,.own 4 0 1 v7.length,.own 7 0 1 0,.emp,.emp]),(7,ro 0 72 1 0 (rf (qW qE) []))] o0 ?_);obtain⟨o42,h43,hm⟩:=qC hm
 refine zI (nd f54 500) 0 (by kernel_rfl) FUEL (λo=>qH5 a1 a4 a5 a6 v7 o.1 o.2) o42 (q_hl (qBv a1 a2 a3 a4 a5 a6 v7 ([]:List (List (List Node))) 0 0 ([]:List (List Int)) 0) (qQh E a1 a2 a3 a4 a5 a6 v7 FUEL ([]:List (List (List Node))) 0 0 ([]:List (List Int)) 0 o42 rfl rfl h43)) (q_sq ?_);refine s_vv [] 8 [14] [(104,vi (w64 (a4.Y.B-a4.Y.A))),(105,vi 0)] (q_fu [.ownB 5 5 8 3 1 (rf qE [])] [] [] [5] [(5,bx 123 [ci (w64 (a4.Y.B-a4.Y.A)),ci a5.Kerf,ci 1,.own 4 0 1 v7.length,.own 7 0 1 o42.2.length,.own 8 0 1 0,.emp]),(8,ro 0 3 1 0 (rf qE []))] o0 ?_)
 refine q_fu [.ownB 5 6 9 3 1 (rf qE [])] [] [] [5] [(5,bx 123 [ci (w64 (a4.Y.B-a4.Y.A)),ci a5.Kerf,ci 1,.own 4 0 1 v7.length,.own 7 0 1 o42.2.length,.own 8 0 1 0,.own 9 0 1 0]),(9,ro 0 3 1 0 (rf qE []))] o0 ?_;obtain⟨o56,h57,hm⟩:=qC hm
 refine zI (nd f54 1012) 4 (by kernel_rfl) FUEL (λo=>qHz a4 a5 v7 o42 o.1 o.2) o56 (q_hl (qCg a1 a4 a5 a6 v7 o42 0 ([]:List Int) 0 ([]:List Int) 0) (qQi E a1 a4 a5 a6 v7 o42 FUEL 0 ([]:List Int) 0 ([]:List Int) 0 o56 rfl rfl h57)) (s_vu [] 10 [15,16] [(13,vo 6 0 1 o42.1.length)] [3,5] [(3,bx 123 [ci (w64 (a4.Y.B-a4.Y.A)),ci a5.Kerf,ci 1,.own 4 0 1 v7.length,.own 7 0 1 o42.2.length,.own 8 0 1 o56.1.length,.own 9 0 1 o56.2.length])] ?_);obtain rfl:=oi hm;refine q_sw 4 0 (q_sw 7 1 ?_);refine q_sw 8 2 (q_sw 9 3 ?_);exact q_sw 6 4 (q_rt q_rm)
def qRM (r:Int):V:=vi r
def qRs (r:Int):List (Nat×(Nat×O)):=[]
def AQ (v2:qG) (x4:Int) (x5:Int):St:=
 ⟨[(3,vi x4),(8,vc (tl qL du v2.Rows)),(9,vi (v2.Rows.length:Int)),(10,vi x5)],[]⟩
def qEj (x10:Int):St:=
 ⟨[(3,vi x10)],[]⟩
theorem qKV (E:Env 0) (v2:qG):∀(n:Nat) (x4:Int) (x5:Int) (res:Int),XZ v2 n x4 x5=some res->HL (kx E 21 0) (nd f120 116) (zN 0 qEj res) n (AQ v2 x4 x5):=by
 intro n
 induction n with
 |zero=>
  intro x4 x5 res hm;cases hm
 |succ n ih=>
  intro x4 x5 res hm;refine qU (s_va 1 [(11,vb (decide (x5<(v2.Rows.length:Int))))] ?_);refine q_sq (q_cq hm (λhm=>?_) (λhm=>?_))
  ·refine q_sk (q_sq ?_);refine q_bk 1 ?_;obtain⟨g7,hm⟩:=qJ hm;refine s_vu [qi 0 g7] 1 [11] [(5,vp 1 0)] [] [(1,bx 53 (qL (v2.Rows.getD x5.toNat du)))] ?_;obtain⟨v8,h9,hm⟩:=qC hm;refine q_vu [qc 2 [15] 2 (FU (v2.Rows.getD x5.toNat du) v8 h9)] 2 [3,5] [(3,vi (w64 (x4+v8)))] [1] [] (q_vv [] 2 [10] [(10,vi (w64 (x5+1)))] ?_);exact q_hl (AQ v2 (w64 (x4+v8)) (w64 (x5+1))) (ih (w64 (x4+v8)) (w64 (x5+1)) _ hm)
  ·refine q_ex 0 ?_;obtain rfl:=oi hm;exact q_l0
theorem qQI (a1:qG) (r:Int) (hm:HU a1=some r):CtX Tryz.prog globs 120 0 0 [.agg (zA a1)] [] (qRM r) (qRs r):=by
 unfold HU at hm;refine q_E f120 21 λE=>?_;refine s_vn [] 0 ⟨[(1,vp 0 0)],[(0,bx 78 (zA a1))]⟩ (s_va 1 [(3,vi 0)] ?_);refine q_sq ?_;obtain⟨v2,h3,hm⟩:=qC hm;refine s_vu [qc 1 [6] 1 (RW a1 v2 h3)] 1 [1] [(8,vc (tl qL du v2.Rows)),(9,vi (v2.Rows.length:Int)),(10,vi 0)] [0] [] ?_;obtain⟨o11,h12,hm⟩:=qC hm;refine zI (nd f120 116) 0 (by kernel_rfl) FUEL qEj o11 (q_hl (AQ v2 0 0) (qKV E v2 FUEL 0 0 o11 h12)) (s_vn [] 1 ⟨[(2,vi (w64 (10*o11)))],[]⟩ ?_);obtain rfl:=oi hm;exact q_rt q_rm
def qRQ (r:Int):V:=vi r
def qRg (r:Int):List (Nat×(Nat×O)):=[]
def AG (v2:(List qO)) (x4:Int) (x5:Int):St:=
 ⟨[(3,vi x4),(7,vc (tl qS du v2)),(8,vi (v2.length:Int)),(9,vi x5)],[]⟩
def qD1 (x10:Int):St:=
 ⟨[(3,vi x10)],[]⟩
theorem qKG (E:Env 0) (v2:(List qO)):∀(n:Nat) (x4:Int) (x5:Int) (res:Int),XY v2 n x4 x5=some res->HL (kx E 23 0) (nd f59 116) (zN 0 qD1 res) n (AG v2 x4 x5):=by
 intro n
 induction n with
 |zero=>
  intro x4 x5 res hm;cases hm
 |succ n ih=>
  intro x4 x5 res hm;refine qU (s_va 0 [(10,vb (decide (x5<(v2.length:Int))))] ?_);refine q_sq (q_cq hm (λhm=>?_) (λhm=>?_))
  ·refine q_sk (q_sq ?_);refine q_bk 1 ?_;obtain⟨g7,hm⟩:=qJ hm;refine s_vu [qi 0 g7] 0 [10] [(5,vp 0 0)] [] [(0,bx 80 (qS (v2.getD x5.toNat du)))] ?_;obtain⟨v8,h9,hm⟩:=qC hm;refine q_du [qc 5 [17] 1 (qQI ((v2.getD x5.toNat du).Sec) v8 h9)] [0,0,2,0,8,24,62,127,255] 1 [3,5] [(3,vi (w64 (x4+(w64 (((v2.getD x5.toNat du).Len)*v8)))))] [0] [] (q_vv [] 1 [9] [(9,vi (w64 (x5+1)))] ?_);exact q_hl (AG v2 (w64 (x4+(w64 (((v2.getD x5.toNat du).Len)*v8)))) (w64 (x5+1))) (ih (w64 (x4+(w64 (((v2.getD x5.toNat du).Len)*v8)))) (w64 (x5+1)) _ hm)
  ·refine q_ex 0 ?_;obtain rfl:=oi hm;exact q_l0
theorem qPO (a1:List qO) (r:Int) (hm:XM a1=some r):CtX Tryz.prog globs 59 0 0 [.one (tl qS du a1)] [] (qRQ r) (qRg r):=by
 unfold XM at hm;refine q_E f59 23 λE=>?_;refine s_vn [] 0 ⟨[(0,vc (tl qS du a1))],[]⟩ (s_va 0 [(3,vi 0)] ?_);refine q_sq ?_;obtain⟨v2,h3,hm⟩:=qC hm;refine s_vv [qc 1 [6] 0 (SZ a1 v2 h3)] 0 [0] [(7,vc (tl qS du v2)),(8,vi (v2.length:Int)),(9,vi 0)] ?_;obtain⟨o11,h12,hm⟩:=qC hm;refine zI (nd f59 116) 0 (by kernel_rfl) FUEL qD1 o11 (q_hl (AG v2 0 0) (qKG E v2 FUEL 0 0 o11 h12)) (s_vn [] 0 ⟨[(2,vi o11)],[]⟩ ?_);obtain rfl:=oi hm;exact q_rt q_rm
def qWu (r:Pattern×Int×Int):V:= .tup [.agg [ci r.1.Frame.X.A,ci r.1.Frame.X.B,ci r.1.Frame.Y.A,ci r.1.Frame.Y.B,.own 0 0 2 r.1.Nodes.length],.one (ci r.2.1),.one (ci r.2.2)]
def qWK (r:Pattern×Int×Int):List (Nat×(Nat×O)):=[(0,ro 0 156 2 r.1.Nodes.length (rf qK r.1.Nodes))]
def qCe (a1:List qO) (a4:Rect) (a5:Saw) (a6:Rates) (v10:Line×(List (List (List Node)))) (v12:(List zV)×Int×Int) (l15:List Span) (l15n:Nat) (l16:List (List Node)) (l16n:Nat) (x17:Int):St:=
 ⟨[(0,vc (tl qS du a1)),(9,vp 0 0),(10,vp 1 0),(11,vp 2 0),(12,vp 3 0),(16,vp 9 0),(17,vo 8 0 1 v10.2.length),(19,vi v12.2.1),(21,vo 11 0 2 l15n),(22,vo 12 0 1 l16n),(57,vo 10 0 2 v12.1.length),(58,vi (v12.1.length:Int)),(59,vi x17)],[(0,bx 55 (qR a4)),(1,bx 39 (yK a5)),(2,bx 41 (wI a6)),(3,bx 58 [ci 0,ci 0,ci 0,ci 0,.emp]),(4,ro 0 3 1 v10.1.Sizes.length (rf qE v10.1.Sizes)),(5,ro 0 72 1 v10.1.Gain.length (rf (qW qE) v10.1.Gain)),(6,ro 0 3 1 v10.1.Chip.length (rf qE v10.1.Chip)),(7,ro 0 3 1 v10.1.Dust.length (rf qE v10.1.Dust)),(8,ro 0 130 1 v10.2.length (rf (qW (qW qK)) v10.2)),(9,bx 123 [ci v10.1.Len,ci v10.1.Kerf,ci v10.1.Pitch,.own 4 0 1 v10.1.Sizes.length,.own 5 0 1 v10.1.Gain.length,.own 6 0 1 v10.1.Chip.length,.own 7 0 1 v10.1.Dust.length]),(10,ro 0 132 2 v12.1.length (rf QF v12.1)),(11,ro 0 53 2 l15n (rf qL l15)),(12,ro 0 56 1 l16n (rf (qW qK) l16))]⟩
def qHx (a1:List qO) (a4:Rect) (a5:Saw) (a6:Rates) (v12:(List zV)×Int×Int) (l28:List Span) (l29:List (List Node)):St:=
 ⟨[(0,vc (tl qS du a1)),(9,vp 0 0),(10,vp 1 0),(11,vp 2 0),(12,vp 3 0),(19,vi v12.2.1),(21,vo 11 0 2 l28.length),(22,vo 12 0 1 l29.length)],[(0,bx 55 (qR a4)),(1,bx 39 (yK a5)),(2,bx 41 (wI a6)),(3,bx 58 [ci 0,ci 0,ci 0,ci 0,.emp]),(11,ro 0 53 2 l28.length (rf qL l28)),(12,ro 0 56 1 l29.length (rf (qW qK) l29))]⟩
theorem qO7 (E:Env 0) (a1:List qO) (a4:Rect) (a5:Saw) (a6:Rates) (v10:Line×(List (List (List Node)))) (v12:(List zV)×Int×Int):∀(n:Nat) (l15:List Span) (l15n:Nat) (l16:List (List Node)) (l16n:Nat) (x17:Int) (res:(List Span)×(List (List Node))),l15.length=l15n->l16.length=l16n->JA a4 v10 v12 n l15 l16 x17=some res->HL (kx E 119 0) (nd f30 4084) (zN 0 (λo=>qHx a1 a4 a5 a6 v12 o.1 o.2) res) n (qCe a1 a4 a5 a6 v10 v12 l15 l15n l16 l16n x17):=by
 intro n
 induction n with
 |zero=>
  intro l15 l15n l16 l16n x17 res hl0 hl1 hm;cases hm
 |succ n ih=>
  intro l15 l15n l16 l16n x17 res hl0 hl1 hm;subst hl0;subst hl1;refine qU (s_va 13 [(60,vb (decide (x17<(v12.1.length:Int))))] ?_);refine q_sq (q_cq hm (λhm=>?_) (λhm=>?_))
  ·refine q_sk (q_sq ?_);refine q_bk 1 ?_;obtain⟨g19,hm⟩:=qJ hm;refine s_vu [qi 0 g19,qd 1 dN (qT (zB g19))] 13 [60] [(24,vp 13 0)] [] [(13,bx 132 (QF (v12.1.getD x17.toNat du)))] ?_;obtain⟨g20,hm⟩:=qJ hm;obtain⟨v21,h22,hm⟩:=qC hm;obtain⟨g23,hm⟩:=qJ hm
   refine s_du [qi 10 g20,qd 11 dN (qT (zB g20)),qc 13 [64,66,75] 14 (qDx a4 ((v12.1.getD x17.toNat du).At) (w64 (((v12.1.getD x17.toNat du).At)+(v10.1.Sizes.getD (((v12.1.getD x17.toNat du).Size).toNat) du))) v21 h22),qd 15 (drw 14 0 (rf qL [v21.Y])) (litP qL du 2 (λ_=>rfl) ([v21.Y]:List Span) 1 rfl),qd 16 (drw 11 1 (rf qL (l15++[v21.Y]))) (apP qL du l15 ([v21.Y]:List Span) l15.length 1 2 16 (1<=1) (ke _) rfl rfl (λ_=>rfl) (wB g23))] [0,0,0,4,0,16,0,64,0,256,960,1984,4080,8190,16382,32766,65535,131071] 14 [21] [(21,vo 11 1 2 (l15.length+1))] [11] [(11,ro 1 53 2 (l15.length+1) (rf qL (l15++[v21.Y])))] ?_
   obtain⟨g24,hm⟩:=qJ hm;obtain⟨g25,hm⟩:=qJ hm;obtain⟨v26,h27,hm⟩:=qC hm
   refine q_du [qi 4 g24,qd 5 dN (qT (zB g24)),qi 8 g25,qd 10 (dex (cen [(12,0)] [1] 14 0 (qEk ((v10.2.getD (((v12.1.getD x17.toNat du).Size).toNat) du).getD ((v12.1.getD x17.toNat du).At).toNat du) l16 v26) (qEc ((v10.2.getD (((v12.1.getD x17.toNat du).Size).toNat) du).getD ((v12.1.getD x17.toNat du).At).toNat du) l16 v26) [80,89] [12])) (wO (K:=(kx E 119 0)) ⟨[(80,vo 12 0 1 l16.length),(89,vc (tl qK du ((v10.2.getD (((v12.1.getD x17.toNat du).Size).toNat) du).getD ((v12.1.getD x17.toNat du).At).toNat du)))],[(12,ro 0 56 1 l16.length (rf (qW qK) l16))]⟩ (opAt (rg f30 261427) 10) [(12,0)] [1] 14 o0 rfl (qK6 ((v10.2.getD (((v12.1.getD x17.toNat du).Size).toNat) du).getD ((v12.1.getD x17.toNat du).At).toNat du) l16 v26 h27) (.inl rfl) (by kernel_rfl))] [0,0,0,4,14,30,0,64,254,510,1023,2047] 15 [22,24] [(22,vo 12 1 1 v26.2.length)] [12,13] [(12,ro 1 56 1 v26.2.length (rf (qW qK) v26.2))] ?_
   exact q_vv [] 15 [59] [(59,vi (w64 (x17+1)))] (q_hl (qCe a1 a4 a5 a6 v10 v12 (l15++[v21.Y]) (l15.length+1) v26.2 v26.2.length (w64 (x17+1))) (ih (l15++[v21.Y]) (l15.length+1) v26.2 v26.2.length (w64 (x17+1)) _ (wC rfl rfl) rfl hm))
  ·refine q_ex 0 ?_;obtain rfl:=oi hm;exact q_l0
theorem qUG (a1:List qO) (a2:List qH) (a3:List qD) (a4:Rect) (a5:Saw) (a6:Rates) (r:Pattern×Int×Int) (hm:JL a1 a2 a3 a4 a5 a6=some r):CtX Tryz.prog globs 30 0 0 [.one (tl qS du a1),.one (tl qN du a2),.one (tl qM du a3),.agg (qR a4),.agg (yK a5),.agg (wI a6)] [] (qWu r) (qWK r):=by
 unfold JL at hm;refine q_E f30 119 λE=>?_;refine s_vn [] 0 ⟨[(0,vc (tl qS du a1)),(1,vc (tl qN du a2)),(2,vc (tl qM du a3)),(9,vp 0 0),(10,vp 1 0),(11,vp 2 0),(12,vp 3 0)],[(0,bx 55 (qR a4)),(1,bx 39 (yK a5)),(2,bx 41 (wI a6)),(3,bx 58 [ci 0,ci 0,ci 0,ci 0,.emp])]⟩ (q_sq ?_);obtain⟨v7,h8,hm⟩:=qC hm;refine s_vv [qc 6 [26,27,28,29,30,31] 4 (qTc a1 a2 a3 a4 a5 a6 v7 h8)] 4 [] [(15,vi v7)] (s_va 4 [(34,vb (v7 !=0))] ?_);refine q_cq hm (λhm=>?_) (λhm=>?_)
 ·refine s_vu [] 4 [0,1,2,9,10,11,15,34] [(13,vi 0),(14,vi v7)] [0,1,2] [] (q_fu [.ownB 3 4 4 156 2 (rf qK [])] [] [] [3] [(3,bx 58 [ci 0,ci 0,ci 0,ci 0,.own 4 0 2 0]),(4,ro 0 156 2 0 (rf qK []))] o0 ?_);refine q_fu [.len 4 (([]:List Node).length)] [] [] [3,4] [(3,bx 58 [ci 0,ci 0,ci 0,ci 0,.own 4 0 2 (([]:List Node).length)]),(4,ro 0 156 2 (([]:List Node).length) (rf qK []))] (o1 (And.intro (show 0=([]:List Node).length from rfl) (show 0=([]:List Node).length from rfl))) ?_;obtain rfl:=oi hm;exact q_sw 4 0 (q_rt q_rm)
 ·refine q_sk ?_;obtain⟨v10,h11,hm⟩:=qC hm
  refine s_vu [qc 6 [38,39,40,41,42,43] 4 (qTV a1 a2 a3 a4 a5 a6 v10 h11)] 4 [1,2,15,34] [(16,vp 9 0),(17,vo 8 0 1 v10.2.length)] [] [(4,ro 0 3 1 v10.1.Sizes.length (rf qE v10.1.Sizes)),(5,ro 0 72 1 v10.1.Gain.length (rf (qW qE) v10.1.Gain)),(6,ro 0 3 1 v10.1.Chip.length (rf qE v10.1.Chip)),(7,ro 0 3 1 v10.1.Dust.length (rf qE v10.1.Dust)),(8,ro 0 130 1 v10.2.length (rf (qW (qW qK)) v10.2)),(9,bx 123 [ci v10.1.Len,ci v10.1.Kerf,ci v10.1.Pitch,.own 4 0 1 v10.1.Sizes.length,.own 5 0 1 v10.1.Gain.length,.own 6 0 1 v10.1.Chip.length,.own 7 0 1 v10.1.Dust.length])] ?_;obtain⟨v12,h13,hm⟩:=qC hm
  refine s_vu [qd 1 (dex (cen [] [] 10 0 (qBN v12) (DB v12) [48] [4,5,6,7])) (wO (K:=(kx E 119 0)) (b:=false) ⟨[(48,va [ci v10.1.Len,ci v10.1.Kerf,ci v10.1.Pitch,.own 4 0 1 v10.1.Sizes.length,.own 5 0 1 v10.1.Gain.length,.own 6 0 1 v10.1.Chip.length,.own 7 0 1 v10.1.Dust.length])],[(4,ro 0 3 1 v10.1.Sizes.length (rf qE v10.1.Sizes)),(5,ro 0 72 1 v10.1.Gain.length (rf (qW qE) v10.1.Gain)),(6,ro 0 3 1 v10.1.Chip.length (rf qE v10.1.Chip)),(7,ro 0 3 1 v10.1.Dust.length (rf qE v10.1.Dust))]⟩ (opAt (rg f30 30) 1) [] [] 10 (o1 (And.intro (ke v10.1.Sizes.length) (And.intro (ke v10.1.Gain.length) (And.intro (ke v10.1.Chip.length) (ke v10.1.Dust.length))))) rfl (qGE (Line.mk v10.1.Len v10.1.Kerf v10.1.Pitch v10.1.Sizes v10.1.Gain v10.1.Chip v10.1.Dust) v12 h13) (.inr ⟨(by kernel_rfl),qHw v12⟩) (by kernel_rfl))] 10 [] [(18,vo 10 0 2 v12.1.length),(19,vi v12.2.1),(20,vi v12.2.2)] [] [(10,ro 0 132 2 v12.1.length (rf QF v12.1))] ?_
  refine q_sq (s_va 11 [(54,vb (v12.2.2 !=0))] ?_);refine q_cq hm (λhm=>?_) (λhm=>?_)
  ·refine s_vn [] 11 ⟨[(12,vp 3 0),(13,vi 0),(14,vi v12.2.2)],[(3,bx 58 [ci 0,ci 0,ci 0,ci 0,.emp])]⟩ (q_fu [.ownB 3 4 11 156 2 (rf qK [])] [] [] [3] [(3,bx 58 [ci 0,ci 0,ci 0,ci 0,.own 11 0 2 0]),(11,ro 0 156 2 0 (rf qK []))] o0 ?_);refine q_fu [.len 11 (([]:List Node).length)] [] [] [3,11] [(3,bx 58 [ci 0,ci 0,ci 0,ci 0,.own 11 0 2 (([]:List Node).length)]),(11,ro 0 156 2 (([]:List Node).length) (rf qK []))] (o1 (And.intro (show 0=([]:List Node).length from rfl) (show 0=([]:List Node).length from rfl))) ?_;obtain rfl:=oi hm;exact q_sw 11 0 (q_rt q_rm)
  ·refine q_sk (s_vv [] 11 [20,54] [(21,vc (.emp))] ?_);refine s_va 11 [(22,vc (.emp))] (q_sq ?_);refine s_vv [] 11 [18] [(57,vo 10 0 2 v12.1.length),(58,vi (v12.1.length:Int)),(59,vi 0)] (q_fo 21 11 53 2 qL ?_);refine q_fo 22 12 56 1 (qW qK) ?_;obtain⟨o30,h31,hm⟩:=qC hm;refine zI (nd f30 4084) 0 (by kernel_rfl) FUEL (λo=>qHx a1 a4 a5 a6 v12 o.1 o.2) o30 (q_hl (qCe a1 a4 a5 a6 v10 v12 ([]:List Span) 0 ([]:List (List Node)) 0 0) (qO7 E a1 a4 a5 a6 v10 v12 FUEL ([]:List Span) 0 ([]:List (List Node)) 0 0 o30 rfl rfl h31)) ?_;obtain⟨v32,h33,hm⟩:=qC hm
   refine s_vu [qd 5 (dex (cen [] [] 13 0 (FJ v32) (PC v32) [93,95,96,97] [11,12])) (wO (K:=(kx E 119 0)) (b:=false) ⟨[(93,va (qR a4)),(95,vi a5.Kerf),(96,vo 11 0 2 o30.1.length),(97,vo 12 0 1 o30.2.length)],[(11,ro 0 53 2 o30.1.length (rf qL o30.1)),(12,ro 0 56 1 o30.2.length (rf (qW qK) o30.2))]⟩ (opAt (rg f30 1022) 5) [] [] 13 (o1 (And.intro (ke o30.1.length) (ke o30.2.length))) rfl (qHv a4 3 a5.Kerf o30.1 o30.2 v32 h33) (.inr ⟨(by kernel_rfl),qJI v32⟩) (by kernel_rfl))] 13 [10,21,22] [(20,vi v32.2),(25,vo 13 0 2 v32.1.length)] [1,11,12] [(13,ro 0 156 2 v32.1.length (rf qK v32.1))] (q_sq ?_)
   refine s_vv [] 14 [20] [(102,vb (v32.2 !=0))] (q_cq hm (λhm=>?_) (λhm=>?_))
   ·refine s_vu [] 14 [0,9,11,19,25,102] [(13,vi 0),(14,vi 13)] [0,2,13] [] (q_fu [.ownB 3 4 14 156 2 (rf qK [])] [] [] [3] [(3,bx 58 [ci 0,ci 0,ci 0,ci 0,.own 14 0 2 0]),(14,ro 0 156 2 0 (rf qK []))] o0 ?_);refine q_fu [.len 14 (([]:List Node).length)] [] [] [3,14] [(3,bx 58 [ci 0,ci 0,ci 0,ci 0,.own 14 0 2 (([]:List Node).length)]),(14,ro 0 156 2 (([]:List Node).length) (rf qK []))] (o1 (And.intro (show 0=([]:List Node).length from rfl) (show 0=([]:List Node).length from rfl))) ?_;obtain rfl:=oi hm;exact q_sw 14 0 (q_rt q_rm)
   ·refine q_sk ?_;obtain⟨v35,h36,hm⟩:=qC hm;obtain⟨v37,h38,hm⟩:=qC hm;refine s_du [qc 4 [107] 14 (qPO a1 v35 h36),qc 7 [109,110] 14 (qHH a1 a4 v37 h38)] [0,0,2,0,8,0,0,120,248,510,1023,2047] 14 [0,11,19,102] [(19,vi (w64 (v12.2.1+(w64 (a6.Chip*(w64 (v35-v37)))))))] [2] [] (s_vu [] 14 [9,19,25] [(13,vi (w64 (v12.2.1+(w64 (a6.Chip*(w64 (v35-v37))))))),(14,vi 0)] [0,3] [(3,bx 58 [ci a4.X.A,ci a4.X.B,ci a4.Y.A,ci a4.Y.B,.own 13 0 2 v32.1.length])] ?_);obtain rfl:=oi hm;exact q_sw 13 0 (q_rt q_rm)
def qHq (r:(List qI)×Int):V:= .tup [.one (.own 0 0 7 r.1.length),.one (ci r.2)]
def qHs (r:(List qI)×Int):List (Nat×(Nat×O)):=[(0,ro 0 60 7 r.1.length (rf zF r.1))]
def qBU (a1:Scan) (a2:List qD) (a3:Saw) (a4:Rates) (a5:Int) (a6:Int) (l7:List qI) (l7n:Nat) (x8:Int):St:=
 ⟨[(1,vc (tl qM du a2)),(4,vi a5),(5,vi a6),(6,vp 0 0),(8,vp 1 0),(9,vp 2 0),(14,vo 3 0 7 l7n),(21,vi x8)],[(0,bx 25 (jG a1)),(1,bx 39 (yK a3)),(2,bx 41 (wI a4)),(3,ro 0 60 7 l7n (rf zF l7))]⟩
def qIi (l19:List qI):St:=
 ⟨[(14,vo 3 0 7 l19.length)],[(3,ro 0 60 7 l19.length (rf zF l19))]⟩
theorem qPy (E:Env 0) (a1:Scan) (a2:List qD) (a3:Saw) (a4:Rates) (a5:Int) (a6:Int):∀(n:Nat) (l7:List qI) (l7n:Nat) (x8:Int) (res:((List qI)×Int)⊕(List qI)),l7.length=l7n->jW a1 a2 a3 a4 a5 a6 n l7 x8=some res->HL (kx E 60 0) (nd f15 116) (wY 0 qIi (λv st=>RetQ Tryz.prog f15 (qHq v) (qHs v) .ret st) res) n (qBU a1 a2 a3 a4 a5 a6 l7 l7n x8):=by
 intro n
 induction n with
 |zero=>
  intro l7 l7n x8 res hl0 hm;cases hm
 |succ n ih=>
  intro l7 l7n x8 res hl0 hm;subst hl0;refine qU (s_va 4 [(22,vb (decide (x8<4)))] ?_);refine q_sq (q_cq hm (λhm=>?_) (λhm=>?_))
  ·refine q_sk (q_sq ?_);refine q_bk 1 (s_vv [] 4 [22] [(15,vi x8)] ?_);obtain⟨v10,h11,hm⟩:=qC hm;refine s_vv [qc 4 [25,26,27,28] 4 (qIl a1 x8 a5 a6 v10 h11)] 4 [] [(16,vc (tl qS du v10.1)),(17,vc (tl qN du v10.2.1)),(18,vi v10.2.2)] (q_sq ?_);refine s_va 4 [(34,vb (v10.2.2 !=0))] (q_cq hm (λhm=>?_) (λhm=>?_))
   ·refine s_vn [] 4 ⟨[(12,vc (.emp)),(13,vi v10.2.2)],[]⟩ (q_fo 12 4 60 7 zF ?_);refine q_fl 12 4 60 7 zF ?_;obtain rfl:=oi hm;refine q_sw 4 0 (q_rt ?_);exact zQ (([]:List qI),v10.2.2) q_rm
   ·refine q_sk ?_;obtain⟨v13,h14,hm⟩:=qC hm;obtain⟨v15,h16,hm⟩:=qC hm;refine s_du [qc 4 [40] 4 (qTp v10.1 v13 h14),qc 7 [37,38,39,41,42,43] 4 (qUG v10.1 v10.2.1 a2 v13 a3 a4 v15 h16)] [0,0,0,0,8,0,0,127,255,511,511,511,0,5119,14335,32767] 4 [16,17,18,34] [(18,vi v15.2.2),(19,vp 5 0),(20,vi v15.2.1)] [] [(4,ro 0 156 2 v15.1.Nodes.length (rf qK v15.1.Nodes)),(5,bx 58 [ci v15.1.Frame.X.A,ci v15.1.Frame.X.B,ci v15.1.Frame.Y.A,ci v15.1.Frame.Y.B,.own 4 0 2 v15.1.Nodes.length])] (q_sq ?_);refine s_va 6 [(49,vb (v15.2.2 !=0))] (q_cq hm (λhm=>?_) (λhm=>?_))
    ·refine s_vn [] 6 ⟨[(12,vc (.emp)),(13,vi v15.2.2)],[]⟩ (q_fo 12 6 60 7 zF ?_);refine q_fl 12 6 60 7 zF ?_;obtain rfl:=oi hm;refine q_sw 6 0 (q_rt ?_);exact zQ (([]:List qI),v15.2.2) q_rm
    ·refine q_sk ?_;obtain⟨g18,hm⟩:=qJ hm
     refine q_vu [qd 5 (dpr [.frz 4] (drw 6 0 (rf zF [(qI.mk x8 v15.1 v15.2.1)]))) (And.intro (And.intro (ke v15.1.Nodes.length) (ke v15.1.Nodes.length)) (ke v15.1.Nodes.length)),qd 5 dN (litP zF du 7 (λ_=>rfl) ([(qI.mk x8 v15.1 v15.2.1)]:List qI) 1 rfl),qd 6 (drw 3 1 (rf zF (l7++[(qI.mk x8 v15.1 v15.2.1)]))) (apP zF du l7 ([(qI.mk x8 v15.1 v15.2.1)]:List qI) l7.length 1 7 72 (1<=1) (ke _) rfl rfl (λ_=>rfl) (wB g18))] 6 [14,15,18,19,20,49] [(14,vo 3 1 7 (l7.length+1))] [3,4,5] [(3,ro 1 60 7 (l7.length+1) (rf zF (l7++[(qI.mk x8 v15.1 v15.2.1)])))] (q_vv [] 7 [21] [(21,vi (w64 (x8+1)))] ?_)
     exact q_hl (qBU a1 a2 a3 a4 a5 a6 (l7++[(qI.mk x8 v15.1 v15.2.1)]) (l7.length+1) (w64 (x8+1))) (ih (l7++[(qI.mk x8 v15.1 v15.2.1)]) (l7.length+1) (w64 (x8+1)) _ (wC rfl rfl) hm)
  ·refine q_ex 0 ?_;obtain rfl:=oi hm;exact q_l1 l7
theorem qEW (a1:Scan) (a2:List qD) (a3:Saw) (a4:Rates) (a5:Int) (a6:Int) (r:(List qI)×Int) (hm:WA a1 a2 a3 a4 a5 a6=some r):CtX Tryz.prog globs 15 0 0 [.agg (jG a1),.one (tl qM du a2),.agg (yK a3),.agg (wI a4),.one (ci a5),.one (ci a6)] [] (qHq r) (qHs r):=by
 unfold WA at hm;refine q_E f15 60 λE=>?_;refine s_vn [] 0 ⟨[(1,vc (tl qM du a2)),(4,vi a5),(5,vi a6),(6,vp 0 0),(8,vp 1 0),(9,vp 2 0)],[(0,bx 25 (jG a1)),(1,bx 39 (yK a3)),(2,bx 41 (wI a4))]⟩ (s_va 3 [(14,vc (.emp))] ?_);refine q_sq (s_va 3 [(21,vi 0)] ?_);refine q_fo 14 3 60 7 zF ?_;obtain⟨u22,h21,hm⟩:=qC hm;refine zY (nd f15 116) 0 (by kernel_rfl) FUEL qIi (λv st=>RetQ Tryz.prog f15 (qHq v) (qHs v) .ret st) u22 (q_hl (qBU a1 a2 a3 a4 a5 a6 ([]:List qI) 0 0) (qPy E a1 a2 a3 a4 a5 a6 FUEL ([]:List qI) 0 0 u22 rfl h21)) ?_ ?_
 ·rintro v23 rfl st hr;obtain rfl:=oi hm;exact hr
 ·rintro o20 rfl;replace hm:_=some r:=hm;refine s_vv [] 4 [14] [(12,vo 3 0 7 o20.length),(13,vi 0)] ?_;obtain rfl:=oi hm;exact q_sw 3 0 (q_rt q_rm)
def qWe (r:qI×Int):V:= .tup [.agg [ci r.1.Quarters,ci r.1.Pattern.Frame.X.A,ci r.1.Pattern.Frame.X.B,ci r.1.Pattern.Frame.Y.A,ci r.1.Pattern.Frame.Y.B,tl qK du r.1.Pattern.Nodes,ci r.1.Value],.one (ci r.2)]
def qT1 (r:qI×Int):List (Nat×(Nat×O)):=[]
def qEh (v7:(List qI)×Int) (x12:Int):St:=
 ⟨[(12,vp 3 0),(16,vp 5 0),(37,vc (.sub 4 0 7 ((1:Int).toNat) (v7.1.length-(1:Int).toNat))),(38,vi (((v7.1.length-(1:Int).toNat):Nat):Int)),(39,vi x12)],[(3,bx 60 [ci 0,ci 0,ci 0,ci 0,ci 0,.emp,ci 0]),(4,ro 0 60 7 v7.1.length (rf zF v7.1))]⟩
def qFS (v7:(List qI)×Int) (x12:Int) (x18:Int) (x19:Int) (x20:Int) (x21:Int) (x22:Int) (l23:List Node) (x24:Int):St:=
 (qEh v7 x12).up [] [] [] [(5,bx 60 [ci x18,ci x19,ci x20,ci x21,ci x22,tl qK du l23,ci x24])]
def qAS (v7:(List qI)×Int) (x12:Int) (x13:qI):St:=
 (qEh v7 x12).up [] [] [] [(5,bx 60 (zF x13))]
def qGF (x25:Int) (x26:Int) (x27:Int) (x28:Int) (x29:Int) (l30:List Node) (x31:Int):St:=
 ⟨[(12,vp 3 0),(16,vp 5 0)],[(3,bx 60 [ci 0,ci 0,ci 0,ci 0,ci 0,.emp,ci 0]),(5,bx 60 [ci x25,ci x26,ci x27,ci x28,ci x29,tl qK du l30,ci x31])]⟩
theorem qOB (E:Env 0) (v7:(List qI)×Int):∀(n:Nat) (x12:Int) (x13:qI) (res:Int×Int×Int×Int×Int×(List Node)×Int),JO v7 n x12 x13=some res->HL (kx E 51 0) (nd f20 500) (zN 0 (λo=>qGF o.1 o.2.1 o.2.2.1 o.2.2.2.1 o.2.2.2.2.1 o.2.2.2.2.2.1 o.2.2.2.2.2.2) res) n (qAS v7 x12 x13):=by
 intro n
 induction n with
 |zero=>
  intro x12 x13 res hm;cases hm
 |succ n ih=>
  intro x12 x13 res hm;refine qU (s_va 6 [(40,vb (decide (x12<(((v7.1.length-(1:Int).toNat):Nat):Int))))] ?_);refine q_sq (q_cq hm (λhm=>?_) (λhm=>?_))
  ·refine q_sk (q_jn (ι:=Int×Int×Int×Int×Int×(List Node)×Int) (λp=>qFS v7 x12 p.1 p.2.1 p.2.2.1 p.2.2.2.1 p.2.2.2.2.1 p.2.2.2.2.2.1 p.2.2.2.2.2.2) (λp=>qDL x12 (JO v7 n) p.1 p.2.1 p.2.2.1 p.2.2.2.1 p.2.2.2.2.1 p.2.2.2.2.2.1 p.2.2.2.2.2.2=some res) ?_ ?_)
   ·rintro⟨x18,x19,x20,x21,x22,l23,x24⟩ hm;show H _ (qFS v7 x12 x18 x19 x20 x21 x22 l23 x24) _ _;exact q_vv [] 7 [39] [(39,vi (w64 (x12+1)))] (q_hl (qAS v7 (w64 (x12+1)) (qI.mk x18 (Pattern.mk (Rect.mk (Span.mk x19 x20) (Span.mk x21 x22)) l23) x24)) (ih (w64 (x12+1)) (qI.mk x18 (Pattern.mk (Rect.mk (Span.mk x19 x20) (Span.mk x21 x22)) l23) x24) _ hm))
   ·refine q_bk 1 ?_;obtain⟨g15,hm⟩:=qJ hm;obtain⟨g16,hm⟩:=qJ hm;refine s_vu [qi 0 g15,qd 1 dN (um (uT (qT (zB g15)) ((1:Int).toNat)) (kL g16))] 6 [40] [(18,vp 6 0)] [] [(6,bx 60 (zF (v7.1.getD (((1:Int).toNat)+x12.toNat) du)))] (s_va 7 [(47,vb (decide (((v7.1.getD (((1:Int).toNat)+x12.toNat) du).Value)>x13.Value)))] ?_);refine q_cq hm (λhm=>?_) (λhm=>?_)
    ·exact q_vu [] 7 [18,47] [] [5,6] [(5,bx 60 (zF (v7.1.getD (((1:Int).toNat)+x12.toNat) du)))] (q_J ((v7.1.getD (((1:Int).toNat)+x12.toNat) du).Quarters,((((v7.1.getD (((1:Int).toNat)+x12.toNat) du).Pattern).Frame).X).A,((((v7.1.getD (((1:Int).toNat)+x12.toNat) du).Pattern).Frame).X).B,((((v7.1.getD (((1:Int).toNat)+x12.toNat) du).Pattern).Frame).Y).A,((((v7.1.getD (((1:Int).toNat)+x12.toNat) du).Pattern).Frame).Y).B,((v7.1.getD (((1:Int).toNat)+x12.toNat) du).Pattern).Nodes,(v7.1.getD (((1:Int).toNat)+x12.toNat) du).Value) hm)
    ·exact q_sk (q_J (x13.Quarters,x13.Pattern.Frame.X.A,x13.Pattern.Frame.X.B,x13.Pattern.Frame.Y.A,x13.Pattern.Frame.Y.B,x13.Pattern.Nodes,x13.Value) hm)
  ·refine q_ex 0 ?_;obtain rfl:=oi hm;exact q_l0
theorem qDO (a1:Scan) (a2:List qD) (a3:Saw) (a4:Rates) (a5:Int) (a6:Int) (r:qI×Int) (hm:ZT a1 a2 a3 a4 a5 a6=some r):CtX Tryz.prog globs 20 0 0 [.agg (jG a1),.one (tl qM du a2),.agg (yK a3),.agg (wI a4),.one (ci a5),.one (ci a6)] [] (qWe r) (qT1 r):=by
 unfold ZT at hm;refine q_E f20 51 λE=>?_;refine s_vn [] 0 ⟨[(1,vc (tl qM du a2)),(4,vi a5),(5,vi a6),(6,vp 0 0),(8,vp 1 0),(9,vp 2 0),(12,vp 3 0)],[(0,bx 25 (jG a1)),(1,bx 39 (yK a3)),(2,bx 41 (wI a4)),(3,bx 60 [ci 0,ci 0,ci 0,ci 0,ci 0,.emp,ci 0])]⟩ ?_;obtain⟨v7,h8,hm⟩:=qC hm;refine s_vu [qc 6 [20,21,22,23,24,25] 4 (qEW a1 a2 a3 a4 a5 a6 v7 h8)] 4 [1,4,5,6,8,9] [(14,vo 4 0 7 v7.1.length),(15,vi v7.2)] [0,1,2] [(4,ro 0 60 7 v7.1.length (rf zF v7.1))] (q_sq ?_);refine s_va 5 [(30,vb (v7.2 !=0))] (q_cq hm (λhm=>?_) (λhm=>?_))
 ·refine s_vu [] 5 [14,15,30] [(13,vi v7.2)] [4] [] (q_fu [.ownB 3 5 5 156 2 (rf qK [])] [] [] [3] [(3,bx 60 [ci 0,ci 0,ci 0,ci 0,ci 0,.own 5 0 2 0,ci 0]),(5,ro 0 156 2 0 (rf qK []))] o0 ?_);refine q_fu [.len 5 (([]:List Node).length),.frz 5] [] [] [3,5] [(3,bx 60 [ci 0,ci 0,ci 0,ci 0,ci 0,tl qK du ([]:List Node),ci 0])] (o1 (And.intro (And.intro (show 0=([]:List Node).length from rfl) (show 0=([]:List Node).length from rfl)) (ke (([]:List Node).length)))) ?_;obtain rfl:=oi hm;exact q_rt q_rm
 ·refine q_sk ?_;obtain⟨g10,hm⟩:=qJ hm;refine s_vu [qi 1 g10,qd 2 dN (qT (zB g10))] 5 [15,30] [(16,vp 5 0)] [] [(5,bx 60 (zF (v7.1.getD ((0:Int).toNat) du)))] (q_sq ?_);obtain⟨g11,hm⟩:=qJ hm;refine s_vv [qd 1 dN (And.intro (zP g11).1 (zP g11).2.1)] 6 [14] [(37,vc (.sub 4 0 7 ((1:Int).toNat) (v7.1.length-(1:Int).toNat))),(38,vi (((v7.1.length-(1:Int).toNat):Nat):Int)),(39,vi 0)] ?_;obtain⟨o32,h33,hm⟩:=qC hm
  refine zI (nd f20 500) 0 (by kernel_rfl) FUEL (λo=>qGF o.1 o.2.1 o.2.2.1 o.2.2.2.1 o.2.2.2.2.1 o.2.2.2.2.2.1 o.2.2.2.2.2.2) o32 (q_hl (qAS v7 0 (v7.1.getD ((0:Int).toNat) du)) (qOB E v7 FUEL 0 (v7.1.getD ((0:Int).toNat) du) o32 h33)) (s_vu [] 6 [16] [(13,vi 0)] [3,5] [(3,bx 60 [ci o32.1,ci o32.2.1,ci o32.2.2.1,ci o32.2.2.2.1,ci o32.2.2.2.2.1,tl qK du o32.2.2.2.2.2.1,ci o32.2.2.2.2.2.2])] ?_);obtain rfl:=oi hm;exact q_rt q_rm
def qFF (r:Bool):V:=vb r
def qFx (r:Bool):List (Nat×(Nat×O)):=[]
def qBe (a1:Pattern) (a2:Pattern) (x6:Int):St:=
 ⟨[(2,vp 0 0),(3,vp 1 0),(5,vi x6)],[(0,bx 58 (zL a1)),(1,bx 58 (zL a2))]⟩
def qGP :St:=
 ⟨[],[]⟩
def qO6 (a1:Pattern) (a2:Pattern) (x4:Bool):St:=
 ⟨[(2,vp 0 0),(3,vp 1 0),(19,vb x4)],[(0,bx 58 (zL a1)),(1,bx 58 (zL a2))]⟩
theorem qND (E:Env 0) (a1:Pattern) (a2:Pattern):∀(n:Nat) (x6:Int) (res:Bool⊕Unit),KU a1 a2 n x6=some res->HL (kx E 38 0) (nd f71 116) (wY 0 (λo=>qGP) (λv st=>RetQ Tryz.prog f71 (qFF v) (qFx v) .ret st) res) n (qBe a1 a2 x6):=by
 intro n
 induction n with
 |zero=>
  intro x6 res hm;cases hm
 |succ n ih=>
  intro x6 res hm;refine qU (q_sq ?_);refine s_va 2 [(24,vb (decide (x6<(a1.Nodes.length:Int))))] (q_cq hm (λhm=>?_) (λhm=>?_))
  ·refine q_sk (q_sq ?_);refine q_bk 1 ?_;obtain⟨g8,hm⟩:=qJ hm;obtain⟨g9,hm⟩:=qJ hm;refine s_du [qi 3 g8,qi 8 g9] [0,1,0,7,15,0,32,0,224,480,1023] 2 [24] [(37,vb (!((((a1.Nodes.getD x6.toNat du).Kind)==((a2.Nodes.getD x6.toNat du).Kind))&&((((a1.Nodes.getD x6.toNat du).At)==((a2.Nodes.getD x6.toNat du).At))&&true))))] [] [] (q_cq hm (λhm=>?_) (λhm=>?_))
   ·refine s_vn [] 2 ⟨[(4,vb false)],[]⟩ ?_;obtain rfl:=oi hm;refine q_rt (zQ false ?_);exact q_rm
   ·refine q_sk (q_vv [] 2 [5,37] [(5,vi (w64 (x6+1)))] ?_);exact q_hl (qBe a1 a2 (w64 (x6+1))) (ih (w64 (x6+1)) _ hm)
  ·refine q_ex 0 ?_;obtain rfl:=oi hm;exact q_l1 ()
theorem qSQ (a1:Pattern) (a2:Pattern) (r:Bool) (hm:qEw a1 a2=some r):CtX Tryz.prog globs 71 0 0 [.agg (zL a1),.agg (zL a2)] [] (qFF r) (qFx r):=by
 unfold qEw at hm;refine q_E f71 38 λE=>?_;refine s_vn [] 0 ⟨[(2,vp 0 0),(3,vp 1 0)],[(0,bx 58 (zL a1)),(1,bx 58 (zL a2))]⟩ (q_sq ?_);refine q_jn (qO6 a1 a2) (λp=>OG a1 a2 p=some r) ?_ ?_
 ·rintro x4 hm;refine q_cq hm (λhm=>?_) (λhm=>?_)
  ·refine s_vn [] 2 ⟨[(4,vb false)],[]⟩ ?_;obtain rfl:=oi hm;exact q_rt q_rm
  ·refine q_sk (q_sq ?_);refine s_vv [] 2 [19] [(5,vi 0)] ?_;obtain⟨u13,h12,hm⟩:=qC hm;refine zY (nd f71 116) 0 (by kernel_rfl) FUEL (λo=>qGP) (λv st=>RetQ Tryz.prog f71 (qFF v) (qFx v) .ret st) u13 (q_hl (qBe a1 a2 0) (qND E a1 a2 FUEL 0 u13 h12)) ?_ ?_
   ·rintro v14 rfl st hr;obtain rfl:=oi hm;exact hr
   ·rintro o11 rfl;replace hm:_=some r:=hm;refine s_vn [] 2 ⟨[(4,vb true)],[]⟩ ?_;obtain rfl:=oi hm;exact q_rt q_rm
 ·rcases bif_c hm with⟨b3,hm⟩|⟨b3,hm⟩
  ·exact q_vv [qf 5 b3] 2 [] [(19,vb true)] (q_J (true) hm)
  ·exact q_vv [qf 5 b3] 2 [] [(19,vb ((a1.Nodes.length:Int) !=(a2.Nodes.length:Int)))] (q_J ((a1.Nodes.length:Int) !=(a2.Nodes.length:Int)) hm)
def qUC (r:Bool):V:=vb r
def qVZ (r:Bool):List (Nat×(Nat×O)):=[]
def qO0 (x7:Bool):St:=
 ⟨[(4,vb x7)],[]⟩
theorem qTv (a1:wZ) (a2:wZ) (r:Bool) (hm:qEC a1 a2=some r):CtX Tryz.prog globs 34 0 0 [.agg [ci a1.Quarters,ci a1.Pattern.Frame.X.A,ci a1.Pattern.Frame.X.B,ci a1.Pattern.Frame.Y.A,ci a1.Pattern.Frame.Y.B,tl qK du a1.Pattern.Nodes,ci a1.Value],.agg [ci a2.Quarters,ci a2.Pattern.Frame.X.A,ci a2.Pattern.Frame.X.B,ci a2.Pattern.Frame.Y.A,ci a2.Pattern.Frame.Y.B,tl qK du a2.Pattern.Nodes,ci a2.Value]] [] (qUC r) (qVZ r):=by
 unfold qEC at hm;refine q_E f34 24 λE=>?_;refine s_vn [] 0 ⟨[(2,vp 0 0),(3,vp 1 0)],[(0,bx 61 (qBQ a1)),(1,bx 61 (qBQ a2))]⟩ (q_jn (qO0) (λp=>FG p=some r) ?_ ?_)
 ·rintro x7 hm;obtain rfl:=oi hm;exact q_rt q_rm
 ·rcases bif_c hm with⟨b3,hm⟩|⟨b3,hm⟩
  ·rcases bif_c hm with⟨b4,hm⟩|⟨b4,hm⟩
   ·obtain⟨v5,h6,hm⟩:=qC hm;exact q_vn [qf 5 b3,qf 12 b4,qk 17 [17,19,21] 2 ⟨[(17,vb true),(19,va (zL a1.Pattern)),(21,va (zL a2.Pattern))],[]⟩ (qSQ a1.Pattern a2.Pattern v5 h6)] 2 ⟨[(4,vb v5)],[]⟩ (q_J (v5) hm)
   ·exact q_vn [qf 5 b3,qf 12 b4] 2 ⟨[(4,vb false)],[]⟩ (q_J (false) hm)
  ·exact q_vn [qf 5 b3] 2 ⟨[(4,vb false)],[]⟩ (q_J (false) hm)
end Saw
end Go.SL

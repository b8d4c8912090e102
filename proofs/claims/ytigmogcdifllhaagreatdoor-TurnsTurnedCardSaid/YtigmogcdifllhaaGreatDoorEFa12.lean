import Derived.Test.YtigmogcdifllhaaGreatDoorEBase
import Derived.Test.YtigmogcdifllhaaGreatDoorEFa6
import Derived.Test.YtigmogcdifllhaaGreatDoorEFa11
import Derived.Test.YtigmogcdifllhaaGreatDoorEFa7
import Derived.Test.YtigmogcdifllhaaGreatDoorEFa5
import Derived.Test.YtigmogcdifllhaaGreatDoorEFa10
set_option linter.unusedVariables false
set_option linter.unusedSimpArgs false
namespace Go.SL
namespace Saw
open Go.Proofs Go.Proofs.Tryz
set_option maxHeartbeats 4000000
set_option maxRecDepth 100000
def qQV (r:(List Int)):V:=vo 0 0 1 r.length
def qRD (r:(List Int)):List (Nat×(Nat×O)):=[(0,ro 0 3 1 r.length (rf qD r))]
def EQ (a1:List qE) (l5:List Int) (l5n:Nat) (x6:Int):St:=
 ⟨[(3,vo 0 0 1 l5n),(11,vc (tl qP dd a1)),(12,vi (a1.length:Int)),(13,vi x6)],[(0,ro 0 3 1 l5n (rf qD l5))]⟩
def qDW (l12:List Int):St:=
 ⟨[(3,vo 0 0 1 l12.length)],[(0,ro 0 3 1 l12.length (rf qD l12))]⟩
theorem qKR (E:Env 0) (a1:List qE):∀(n:Nat) (l5:List Int) (l5n:Nat) (x6:Int) (res:(List Int)),l5.length=l5n->XO a1 n l5 x6=some res->HL (kx E 32 0) (nd f110 244) (zL 0 qDW res) n (EQ a1 l5 l5n x6):=by
 intro n
 induction n with
 |zero=>
  intro l5 l5n x6 res hl0 hm;cases hm
 |succ n ih=>
  intro l5 l5n x6 res hl0 hm;subst hl0;refine qS (s_va 1 [(14,vb (decide (x6<(a1.length:Int))))] ?_);refine q_sq (q_cq hm (λhm=>?_) (λhm=>?_))
  ·refine q_sk (q_sq ?_);refine q_bk 1 ?_;obtain⟨g8,hm⟩:=qJ hm;refine s_vu [qi 0 g8] 1 [14] [(5,vp 1 0)] [] [(1,bx 74 (qP (a1.getD x6.toNat dd)))] ?_;obtain⟨v9,h10,hm⟩:=qC hm;refine s_vu [qc 1 [18] 2 (DX (a1.getD x6.toNat dd) v9 h10)] 2 [5] [(6,vi v9.1),(7,vi v9.2)] [1] [] ?_;obtain⟨g11,hm⟩:=qJ hm
   refine q_vu [qd 3 (drw 2 0 (rf qD [v9.1,v9.2])) (litP qD dd 1 (λ_=>rfl) ([v9.1,v9.2]:List Int) 2 rfl),qd 4 (drw 0 1 (rf qD (l5++[v9.1,v9.2]))) (apP qD dd l5 ([v9.1,v9.2]:List Int) l5.length 2 1 8 (2<=2) (ke _) rfl rfl (λ_=>rfl) (wA g11))] 2 [3,6,7] [(3,vo 0 1 1 (l5.length+2))] [0] [(0,ro 1 3 1 (l5.length+2) (rf qD (l5++[v9.1,v9.2])))] (q_vv [] 3 [13] [(13,vi (w64 (x6+1)))] ?_);exact q_hl (EQ a1 (l5++[v9.1,v9.2]) (l5.length+2) (w64 (x6+1))) (ih (l5++[v9.1,v9.2]) (l5.length+2) (w64 (x6+1)) _ (wB rfl rfl) hm)
  ·refine q_ex 0 ?_;obtain rfl:=oi hm;exact q_l0
theorem qPY (a1:List qE) (r:(List Int)) (hm:DE a1=some r):CtX Tryz.prog globs 110 0 0 [.one (tl qP dd a1)] [] (qQV r) (qRD r):=by
 unfold DE at hm;refine q_E f110 32 λE=>?_;refine s_vn [] 0 ⟨[(0,vc (tl qP dd a1))],[]⟩ (q_sq ?_);obtain⟨v2,h3,hm⟩:=qC hm;refine s_vv [qc 1 [8] 0 (YE a1 v2 h3)] 0 [] [(10,vb (v2 !=0))] (q_cq hm (λhm=>?_) (λhm=>?_))
 ·refine s_vn [] 0 ⟨[(2,vc (.emp))],[]⟩ (q_fn [.own 2 0 3 1 (rf qD [])] ⟨[(2,vo 0 0 1 0)],[(0,ro 0 3 1 0 (rf qD []))]⟩ o0 ?_);refine q_fn [.len 0 (([]:List Int).length)] ⟨[(2,vo 0 0 1 (([]:List Int).length))],[(0,ro 0 3 1 (([]:List Int).length) (rf qD []))]⟩ (o1 (And.intro (show 0=([]:List Int).length from rfl) (show 0=([]:List Int).length from rfl))) ?_;obtain rfl:=oi hm;exact q_rt q_rm
 ·refine q_sk (s_vv [] 0 [10] [(3,vc (.emp))] ?_);refine q_sq (s_vv [] 0 [0] [(11,vc (tl qP dd a1)),(12,vi (a1.length:Int)),(13,vi 0)] ?_);refine q_fo 3 0 3 1 qD ?_;obtain⟨o13,h14,hm⟩:=qC hm;refine zG (nd f110 244) 0 (by kernel_rfl) FUEL qDW o13 (q_hl (EQ a1 ([]:List Int) 0 0) (qKR E a1 FUEL ([]:List Int) 0 0 o13 rfl h14)) ?_;obtain⟨v15,h16,hm⟩:=qC hm;obtain⟨g17,hm⟩:=qJ hm
  refine s_wu [qd 1 (dex (cen [(0,0)] [0] 0 1 (qDa o13 v15) (qCP o13 v15) [28] [0])) (wK (K:=(kx E 32 0)) ⟨[(28,vo 0 0 1 o13.length)],[(0,ro 0 3 1 o13.length (rf qD o13))]⟩ (opAt (rg f110 62) 1) [(0,0)] [0] 0 o0 rfl (qJH o13 v15 h16) (.inl rfl) (by kernel_rfl))] [.len 0 o13.length] (o1 (And.intro (And.intro (Eq.refl o13.length) (Eq.refl o13.length)) (And.intro (AD g17) (Eq.refl o13.length)))) 1 [] [] [0] [(0,ro 0 3 1 o13.length (rf qD v15))] ?_;obtain⟨v18,h19,hm⟩:=qC hm
  refine s_vn [qd 1 (dpr [.len 0 v15.length] (dex (cen [(0,0)] [0] 0 1 (XS v15 v18) (XP v15 v18) [30] [0]))) (And.intro (And.intro (Eq.symm (show v15.length=o13.length from(AD g17))) (Eq.symm (show v15.length=o13.length from(AD g17)))) (Eq.symm (show v15.length=o13.length from(AD g17)))),qd 1 dN (wK (K:=(kx E 32 0)) ⟨[(30,vo 0 0 1 v15.length)],[(0,ro 0 3 1 v15.length (rf qD v15))]⟩ (opAt (rg f110 126) 1) [(0,0)] [0] 0 o0 rfl (qGW v15 v18 h19) (.inl rfl) (by kernel_rfl))] 1 ⟨[(2,vo 0 0 1 v18.2.length)],[(0,ro 0 3 1 v18.2.length (rf qD v18.2))]⟩ ?_;obtain rfl:=oi hm;exact q_rt q_rm
def qV8 (r:Line×(List (List (List Node)))):V:= .tup [.agg [ci r.1.Len,ci r.1.Kerf,ci r.1.Pitch,.own 0 0 1 r.1.Sizes.length,.own 1 0 1 r.1.Gain.length,.own 2 0 1 r.1.Chip.length,.own 3 0 1 r.1.Dust.length],.one (.own 4 0 1 r.2.length)]
def qV4 (r:Line×(List (List (List Node)))):List (Nat×(Nat×O)):=[(0,ro 0 3 1 r.1.Sizes.length (rf qD r.1.Sizes)),(1,ro 0 72 1 r.1.Gain.length (rf (qU qD) r.1.Gain)),(2,ro 0 3 1 r.1.Chip.length (rf qD r.1.Chip)),(3,ro 0 3 1 r.1.Dust.length (rf qD r.1.Dust)),(4,ro 0 130 1 r.2.length (rf (qU (qU qL)) r.2))]
def PZ (a1:List qN) (a2:List qG) (a3:List qE) (a4:Rect) (a5:Saw) (a6:Rates) (v7:(List Int)) (l9:List (List (List Node))) (x10:Int) (l11:List (List Int)):St:=
 ⟨[(0,vc (tl qR dd a1)),(1,vc (tl qM dd a2)),(2,vc (tl qP dd a3)),(9,vp 0 0),(10,vp 1 0),(11,vp 2 0),(12,vp 3 0),(14,vi (w64 (a4.Y.B-a4.Y.A))),(15,vp 5 0),(16,vo 6 0 1 l9.length),(43,vo 4 0 1 v7.length),(44,vi (v7.length:Int)),(45,vi x10)],[(0,bx 55 (qT a4)),(1,bx 39 (jY a5)),(2,bx 41 (wC a6)),(3,bx 123 [ci 0,ci 0,ci 0,.emp,.emp,.emp,.emp]),(4,ro 0 3 1 v7.length (rf qD v7)),(5,bx 123 [ci (w64 (a4.Y.B-a4.Y.A)),ci a5.Kerf,ci 1,.own 4 0 1 v7.length,.own 7 0 1 l11.length,.emp,.emp]),(6,ro 0 130 1 l9.length (rf (qU (qU qL)) l9)),(7,ro 0 72 1 l11.length (rf (qU qD) l11))]⟩
def OB (v7:(List Int)):St:=
 ⟨[(12,vp 3 0),(15,vp 5 0)],[(3,bx 123 [ci 0,ci 0,ci 0,.emp,.emp,.emp,.emp]),(4,ro 0 3 1 v7.length (rf qD v7))]⟩
def qIc (a1:List qN) (a2:List qG) (a3:List qE) (a4:Rect) (a5:Saw) (a6:Rates) (v7:(List Int)) (l9:List (List (List Node))) (x10:Int) (l11:List (List Int)) (l14:List Int) (l15:List (List Node)) (x16:Int) (x30:Int) (l31:List Node) (l31n:Nat):St:=
 (PZ a1 a2 a3 a4 a5 a6 v7 l9 x10 l11).up [] [(18,vi (v7.getD x10.toNat dd)),(19,vo 8 0 1 l14.length),(20,vo 9 0 1 l15.length),(21,vi x16),(22,vi x30),(23,vo 10 0 2 l31n)] [] [(8,ro 0 3 1 l14.length (rf qD l14)),(9,ro 0 56 1 l15.length (rf (qU qL) l15)),(10,ro 0 156 2 l31n (rf qL l31))]
def qQ8 (a1:List qN) (a2:List qG) (a3:List qE) (a4:Rect) (a5:Saw) (a6:Rates) (v7:(List Int)) (l9:List (List (List Node))) (x10:Int) (l11:List (List Int)) (l14:List Int) (l15:List (List Node)) (x16:Int) (v22:(List Node)×Int×Int) (x27:Bool):St:=
 (PZ a1 a2 a3 a4 a5 a6 v7 l9 x10 l11).up [] [(18,vi (v7.getD x10.toNat dd)),(19,vo 8 0 1 l14.length),(20,vo 9 0 1 l15.length),(21,vi x16),(22,vi (-1)),(23,vc (.emp)),(24,vo 10 0 2 v22.1.length),(25,vi v22.2.1),(82,vb x27)] [] [(8,ro 0 3 1 l14.length (rf qD l14)),(9,ro 0 56 1 l15.length (rf (qU qL) l15)),(10,ro 0 156 2 v22.1.length (rf qL v22.1))]
def qBW (a1:List qN) (a2:List qG) (a3:List qE) (a4:Rect) (a5:Saw) (a6:Rates) (v7:(List Int)) (l9:List (List (List Node))) (x10:Int) (l11:List (List Int)) (l14:List Int) (l14n:Nat) (l15:List (List Node)) (l15n:Nat) (x16:Int):St:=
 (PZ a1 a2 a3 a4 a5 a6 v7 l9 x10 l11).up [] [(18,vi (v7.getD x10.toNat dd)),(19,vo 8 0 1 l14n),(20,vo 9 0 1 l15n),(21,vi x16)] [] [(8,ro 0 3 1 l14n (rf qD l14)),(9,ro 0 56 1 l15n (rf (qU qL) l15))]
def qHR (a1:List qN) (a2:List qG) (a3:List qE) (a4:Rect) (a5:Saw) (a6:Rates) (v7:(List Int)) (l9:List (List (List Node))) (x10:Int) (l11:List (List Int)) (l34:List Int) (l35:List (List Node)):St:=
 (PZ a1 a2 a3 a4 a5 a6 v7 l9 x10 l11).up [] [(19,vo 8 0 1 l34.length),(20,vo 9 0 1 l35.length)] [] [(8,ro 0 3 1 l34.length (rf qD l34)),(9,ro 0 56 1 l35.length (rf (qU qL) l35))]
def qBz (a1:List qN) (a2:List qG) (a3:List qE) (a4:Rect) (a5:Saw) (a6:Rates) (v7:(List Int)) (l9:List (List (List Node))) (l9n:Nat) (x10:Int) (l11:List (List Int)) (l11n:Nat):St:=
 (PZ a1 a2 a3 a4 a5 a6 v7 l9 x10 l11).up [16] [(16,vo 6 0 1 l9n)] [5,6,7] [(5,bx 123 [ci (w64 (a4.Y.B-a4.Y.A)),ci a5.Kerf,ci 1,.own 4 0 1 v7.length,.own 7 0 1 l11n,.emp,.emp]),(6,ro 0 130 1 l9n (rf (qU (qU qL)) l9)),(7,ro 0 72 1 l11n (rf (qU qD) l11))]
def qIe (a1:List qN) (a4:Rect) (a5:Saw) (a6:Rates) (v7:(List Int)) (l40:List (List (List Node))) (l41:List (List Int)):St:=
 (OB v7).up [] [(0,vc (tl qR dd a1)),(9,vp 0 0),(11,vp 2 0),(14,vi (w64 (a4.Y.B-a4.Y.A))),(16,vo 6 0 1 l40.length)] [] [(0,bx 55 (qT a4)),(2,bx 41 (wC a6)),(5,bx 123 [ci (w64 (a4.Y.B-a4.Y.A)),ci a5.Kerf,ci 1,.own 4 0 1 v7.length,.own 7 0 1 l41.length,.emp,.emp]),(6,ro 0 130 1 l40.length (rf (qU (qU qL)) l40)),(7,ro 0 72 1 l41.length (rf (qU qD) l41))]
def qBJ (a1:List qN) (a4:Rect) (a5:Saw) (a6:Rates) (v7:(List Int)) (o42:(List (List (List Node)))×(List (List Int))) (x44:Int) (l45:List Int) (l45n:Nat) (l46:List Int) (l46n:Nat):St:=
 (OB v7).up [] [(0,vc (tl qR dd a1)),(9,vp 0 0),(11,vp 2 0),(16,vo 6 0 1 o42.1.length),(104,vi (w64 (a4.Y.B-a4.Y.A))),(105,vi x44)] [] [(0,bx 55 (qT a4)),(2,bx 41 (wC a6)),(5,bx 123 [ci (w64 (a4.Y.B-a4.Y.A)),ci a5.Kerf,ci 1,.own 4 0 1 v7.length,.own 7 0 1 o42.2.length,.own 8 0 1 l45n,.own 9 0 1 l46n]),(6,ro 0 130 1 o42.1.length (rf (qU (qU qL)) o42.1)),(7,ro 0 72 1 o42.2.length (rf (qU qD) o42.2)),(8,ro 0 3 1 l45n (rf qD l45)),(9,ro 0 3 1 l46n (rf qD l46))]
def qHt (a4:Rect) (a5:Saw) (v7:(List Int)) (o42:(List (List (List Node)))×(List (List Int))) (l54:List Int) (l55:List Int):St:=
 (OB v7).up [] [(16,vo 6 0 1 o42.1.length)] [] [(5,bx 123 [ci (w64 (a4.Y.B-a4.Y.A)),ci a5.Kerf,ci 1,.own 4 0 1 v7.length,.own 7 0 1 o42.2.length,.own 8 0 1 l54.length,.own 9 0 1 l55.length]),(6,ro 0 130 1 o42.1.length (rf (qU (qU qL)) o42.1)),(7,ro 0 72 1 o42.2.length (rf (qU qD) o42.2)),(8,ro 0 3 1 l54.length (rf qD l54)),(9,ro 0 3 1 l55.length (rf qD l55))]
theorem qPM (E:Env 0) (a1:List qN) (a2:List qG) (a3:List qE) (a4:Rect) (a5:Saw) (a6:Rates) (v7:(List Int)) (l9:List (List (List Node))) (x10:Int) (l11:List (List Int)):∀(n:Nat) (l14:List Int) (l14n:Nat) (l15:List (List Node)) (l15n:Nat) (x16:Int) (res:(List Int)×(List (List Node))),l14.length=l14n->l15.length=l15n->zN a1 a2 a3 a4 a5 a6 v7 x10 n l14 l15 x16=some res->HL (kx E 136 0) (nd f54 1025652) (zL 2 (λo=>qHR a1 a2 a3 a4 a5 a6 v7 l9 x10 l11 o.1 o.2) res) n (qBW a1 a2 a3 a4 a5 a6 v7 l9 x10 l11 l14 l14n l15 l15n x16):=by
 intro n
 induction n with
 |zero=>
  intro l14 l14n l15 l15n x16 res hl0 hl1 hm;cases hm
 |succ n ih=>
  intro l14 l14n l15 l15n x16 res hl0 hl1 hm;subst hl0;subst hl1;refine qS (q_sq ?_);refine s_va 10 [(53,vb (decide ((w64 (x16+(v7.getD x10.toNat dd)))<=(w64 (a4.Y.B-a4.Y.A)))))] (q_cq hm (λhm=>?_) (λhm=>?_))
  ·refine q_sk (q_sq ?_);refine q_bk 3 (s_vv [] 10 [53] [(22,vi (-1))] ?_);refine s_va 10 [(23,vc (.emp))] (q_jn (ι:=Int×(List Node)×Nat) (λp=>qIc a1 a2 a3 a4 a5 a6 v7 l9 x10 l11 l14 l15 x16 p.1 p.2.1 p.2.2) (λp=>p.2.1.length=p.2.2/\XB l14 l15 x16 (zN a1 a2 a3 a4 a5 a6 v7 x10 n) p.1 p.2.1=some res) ?_ ?_)
   ·rintro⟨x30,l31,l31n⟩ ⟨el31,hm⟩;replace el31:l31.length=l31n:=el31;subst el31;show H _ (qIc a1 a2 a3 a4 a5 a6 v7 l9 x10 l11 l14 l15 x16 x30 l31 l31.length) _ _;obtain⟨g32,hm⟩:=qJ hm;refine s_vu [qd 2 (drw 12 0 (rf qD [x30])) (litP qD dd 1 (λ_=>rfl) ([x30]:List Int) 1 rfl),qd 3 (drw 8 1 (rf qD (l14++[x30]))) (apP qD dd l14 ([x30]:List Int) l14.length 1 1 8 (1<=1) (ke _) rfl rfl (λ_=>rfl) (wA g32))] 12 [19,22] [(19,vo 8 1 1 (l14.length+1))] [8] [(8,ro 1 3 1 (l14.length+1) (rf qD (l14++[x30])))] ?_;obtain⟨g33,hm⟩:=qJ hm
    refine q_vu [qd 2 (dpr [.frz 10] (drw 13 0 (rf (qU qL) [l31]))) (And.intro (ke l31.length) (ke l31.length)),qd 2 dN (litP (qU qL) dd 1 (λ_=>rfl) ([l31]:List (List Node)) 1 rfl),qd 3 (drw 9 1 (rf (qU qL) (l15++[l31]))) (apP (qU qL) dd l15 ([l31]:List (List Node)) l15.length 1 1 24 (1<=1) (ke _) rfl rfl (λ_=>rfl) (wA g33))] 13 [20,23] [(20,vo 9 1 1 (l15.length+1))] [9,10] [(9,ro 1 56 1 (l15.length+1) (rf (qU qL) (l15++[l31])))] (q_vv [] 14 [21] [(21,vi (w64 (x16+1)))] ?_)
    exact q_hl (qBW a1 a2 a3 a4 a5 a6 v7 l9 x10 l11 (l14++[x30]) (l14.length+1) (l15++[l31]) (l15.length+1) (w64 (x16+1))) (ih (l14++[x30]) (l14.length+1) (l15++[l31]) (l15.length+1) (w64 (x16+1)) _ (wB rfl rfl) (wB rfl rfl) hm)
   ·obtain⟨g18,hm⟩:=qJ hm;refine s_vv [qd 3 dN (IM g18)] 10 [] [(60,vb ((Int.tmod x16 a5.Pitch)==0))] (q_cq hm (λhm=>?_) (λhm=>?_))
    ·obtain⟨v20,h21,hm⟩:=qC hm;obtain⟨v22,h23,hm⟩:=qC hm;refine s_du [qc 8 [65,66,69] 10 (qDF a4 x16 (w64 (x16+(v7.getD x10.toNat dd))) v20 h21),qc 11 [62,63,64,70,71,72] 10 (qVU a1 a2 a3 v20 a5 a6 v22 h23)] [0,0,0,0,0,0,0,96,248,0,0,2047,4095,8191,8191,8191,16383,98303,262143] 10 [60] [(24,vo 10 0 2 v22.1.length),(25,vi v22.2.1),(26,vi v22.2.2)] [] [(10,ro 0 156 2 v22.1.length (rf qL v22.1))] (q_jn (qQ8 a1 a2 a3 a4 a5 a6 v7 l9 x10 l11 l14 l15 x16 v22) (λp=>MX l14 l15 x16 (zN a1 a2 a3 a4 a5 a6 v7 x10 n) v22 p=some res) ?_ ?_)
     ·rintro x27 hm;refine q_cq hm (λhm=>?_) (λhm=>?_)
      ·exact q_vv [] 11 [22,23,24,25,82] [(22,vi v22.2.1),(23,vo 10 0 2 v22.1.length)] (q_J (v22.2.1,v22.1,v22.1.length) ⟨rfl,hm⟩)
      ·refine q_fu [.swp 10 11] [24] [(24,vo 11 0 2 v22.1.length)] [10] [(11,ro 0 156 2 v22.1.length (rf qL v22.1))] o0 (q_fo 23 10 156 2 qL ?_);exact q_sk (q_J ((-1),([]:List Node),0) ⟨rfl,hm⟩)
     ·rcases bif_c hm with⟨b24,hm⟩|⟨b24,hm⟩
      ·obtain⟨v25,h26,hm⟩:=qC hm;exact q_vv [qf 2 b24,qd 4 (dex (cen [] [] 11 0 (qGv v25) (FF v25) [79,80] [10])) (wK (K:=(kx E 136 0)) (b:=false) ⟨[(79,vb true),(80,vo 10 0 2 v22.1.length)],[(10,ro 0 156 2 v22.1.length (rf qL v22.1))]⟩ (opAt (rg f54 1050268266) 4) [] [] 11 (o1 (ke v22.1.length)) rfl (qNG v22.1 v25 h26) (.inr ⟨(by kernel_rfl),qQs v25⟩) (by kernel_rfl))] 11 [26] [(82,vb v25)] (q_J (v25) hm)
      ·exact q_vv [qf 2 b24] 11 [26] [(82,vb false)] (q_J (false) hm)
    ·refine q_fo 23 10 156 2 qL (q_sk ?_);exact q_J ((-1),([]:List Node),0) ⟨rfl,hm⟩
  ·refine q_ex 2 ?_;obtain rfl:=oi hm;exact q_l0
theorem qPx (E:Env 0) (a1:List qN) (a2:List qG) (a3:List qE) (a4:Rect) (a5:Saw) (a6:Rates) (v7:(List Int)):∀(n:Nat) (l9:List (List (List Node))) (l9n:Nat) (x10:Int) (l11:List (List Int)) (l11n:Nat) (res:(List (List (List Node)))×(List (List Int))),l9.length=l9n->l11.length=l11n->yK a1 a2 a3 a4 a5 a6 v7 n l9 x10 l11=some res->HL (kx E 136 0) (nd f54 500) (zL 0 (λo=>qIe a1 a4 a5 a6 v7 o.1 o.2) res) n (qBz a1 a2 a3 a4 a5 a6 v7 l9 l9n x10 l11 l11n):=by
 intro n
 induction n with
 |zero=>
  intro l9 l9n x10 l11 l11n res hl0 hl1 hm;cases hm
 |succ n ih=>
  intro l9 l9n x10 l11 l11n res hl0 hl1 hm;subst hl0;subst hl1;refine qS (s_va 8 [(46,vb (decide (x10<(v7.length:Int))))] ?_);refine q_sq (q_cq hm (λhm=>?_) (λhm=>?_))
  ·refine q_sk (q_sq ?_);refine q_bk 1 ?_;obtain⟨g13,hm⟩:=qJ hm;refine s_vv [qi 0 g13,qd 1 dN (qW (zC g13))] 8 [46] [(18,vi (v7.getD x10.toNat dd))] (s_va 8 [(19,vc (.emp))] ?_);refine s_va 8 [(20,vc (.emp))] (q_sq ?_);refine s_va 8 [(21,vi 0)] (q_fo 19 8 3 1 qD ?_);refine q_fo 20 9 56 1 (qU qL) ?_;obtain⟨o36,h37,hm⟩:=qC hm
   refine zG (nd f54 1025652) 2 (by kernel_rfl) FUEL (λo=>qHR a1 a2 a3 a4 a5 a6 v7 l9 x10 l11 o.1 o.2) o36 (q_hl (qBW a1 a2 a3 a4 a5 a6 v7 l9 x10 l11 ([]:List Int) 0 ([]:List (List Node)) 0 0) (qPM E a1 a2 a3 a4 a5 a6 v7 l9 x10 l11 FUEL ([]:List Int) 0 ([]:List (List Node)) 0 0 o36 rfl rfl h37)) ?_;obtain⟨g38,hm⟩:=qJ hm
   refine s_vu [qd 3 (dpr [.frz 8] (drw 10 0 (rf (qU qD) [o36.1]))) (And.intro (ke o36.1.length) (ke o36.1.length)),qd 3 dN (litP (qU qD) dd 1 (λ_=>rfl) ([o36.1]:List (List Int)) 1 rfl),qd 4 (drw 7 1 (rf (qU qD) (l11++[o36.1]))) (apP (qU qD) dd l11 ([o36.1]:List (List Int)) l11.length 1 1 24 (1<=1) (ke _) rfl rfl (λ_=>rfl) (wA g38))] 10 [19] [] [5,7,8] [(5,bx 123 [ci (w64 (a4.Y.B-a4.Y.A)),ci a5.Kerf,ci 1,.own 4 0 1 v7.length,.own 7 1 1 (l11.length+1),.emp,.emp]),(7,ro 1 72 1 (l11.length+1) (rf (qU qD) (l11++[o36.1])))] ?_;obtain⟨g39,hm⟩:=qJ hm
   refine q_vu [qd 2 (dpr [.frz 9] (drw 11 0 (rf (qU (qU qL)) [o36.2]))) (And.intro (ke o36.2.length) (ke o36.2.length)),qd 2 dN (litP (qU (qU qL)) dd 1 (λ_=>rfl) ([o36.2]:List (List (List Node))) 1 rfl),qd 3 (drw 6 1 (rf (qU (qU qL)) (l9++[o36.2]))) (apP (qU (qU qL)) dd l9 ([o36.2]:List (List (List Node))) l9.length 1 1 24 (1<=1) (ke _) rfl rfl (λ_=>rfl) (wA g39))] 11 [16,20] [(16,vo 6 1 1 (l9.length+1))] [6,9] [(6,ro 1 130 1 (l9.length+1) (rf (qU (qU qL)) (l9++[o36.2])))] (q_vv [] 12 [45] [(45,vi (w64 (x10+1)))] ?_)
   exact q_hl (qBz a1 a2 a3 a4 a5 a6 v7 (l9++[o36.2]) (l9.length+1) (w64 (x10+1)) (l11++[o36.1]) (l11.length+1)) (ih (l9++[o36.2]) (l9.length+1) (w64 (x10+1)) (l11++[o36.1]) (l11.length+1) _ (wB rfl rfl) (wB rfl rfl) hm)
  ·refine q_ex 0 ?_;obtain rfl:=oi hm;exact q_l0
theorem qOS (E:Env 0) (a1:List qN) (a4:Rect) (a5:Saw) (a6:Rates) (v7:(List Int)) (o42:(List (List (List Node)))×(List (List Int))):∀(n:Nat) (x44:Int) (l45:List Int) (l45n:Nat) (l46:List Int) (l46n:Nat) (res:(List Int)×(List Int)),l45.length=l45n->l46.length=l46n->RQ a1 a4 a6 n x44 l45 l46=some res->HL (kx E 136 0) (nd f54 1012) (zL 4 (λo=>qHt a4 a5 v7 o42 o.1 o.2) res) n (qBJ a1 a4 a5 a6 v7 o42 x44 l45 l45n l46 l46n):=by
 intro n
 induction n with
 |zero=>
  intro x44 l45 l45n l46 l46n res hl0 hl1 hm;cases hm
 |succ n ih=>
  intro x44 l45 l45n l46 l46n res hl0 hl1 hm;subst hl0;subst hl1;refine qS (s_va 10 [(106,vb (decide (x44<(w64 (a4.Y.B-a4.Y.A)))))] ?_);refine q_sq (q_cq hm (λhm=>?_) (λhm=>?_))
  ·refine q_sk (q_sq ?_);refine q_bk 5 (s_vv [] 10 [106] [(27,vi x44)] ?_);obtain⟨v48,h49,hm⟩:=qC hm;obtain⟨v50,h51,hm⟩:=qC hm;refine s_vv [qc 5 [109,110,112] 10 (qDF a4 x44 (w64 (x44+1)) v48 h49),qc 6 [108,113] 10 (qHH a1 v48 v50 h51)] 10 [27] [(28,vi v50)] ?_;obtain⟨g52,hm⟩:=qJ hm
   refine s_vu [qd 6 (drw 10 0 (rf qD [w64 (a6.Chip*v50)])) (litP qD dd 1 (λ_=>rfl) ([w64 (a6.Chip*v50)]:List Int) 1 rfl),qd 7 (drw 8 1 (rf qD (l45++[w64 (a6.Chip*v50)]))) (apP qD dd l45 ([w64 (a6.Chip*v50)]:List Int) l45.length 1 1 8 (1<=1) (ke _) rfl rfl (λ_=>rfl) (wA g52))] 10 [] [] [5,8] [(5,bx 123 [ci (w64 (a4.Y.B-a4.Y.A)),ci a5.Kerf,ci 1,.own 4 0 1 v7.length,.own 7 0 1 o42.2.length,.own 8 1 1 (l45.length+1),.own 9 0 1 l46.length]),(8,ro 1 3 1 (l45.length+1) (rf qD (l45++[w64 (a6.Chip*v50)])))] ?_;obtain⟨g53,hm⟩:=qJ hm
   refine q_vu [qd 6 (drw 11 0 (rf qD [w64 (a6.Dust*v50)])) (litP qD dd 1 (λ_=>rfl) ([w64 (a6.Dust*v50)]:List Int) 1 rfl),qd 7 (drw 9 1 (rf qD (l46++[w64 (a6.Dust*v50)]))) (apP qD dd l46 ([w64 (a6.Dust*v50)]:List Int) l46.length 1 1 8 (1<=1) (ke _) rfl rfl (λ_=>rfl) (wA g53))] 11 [28] [] [5,9] [(5,bx 123 [ci (w64 (a4.Y.B-a4.Y.A)),ci a5.Kerf,ci 1,.own 4 0 1 v7.length,.own 7 0 1 o42.2.length,.own 8 1 1 (l45.length+1),.own 9 1 1 (l46.length+1)]),(9,ro 1 3 1 (l46.length+1) (rf qD (l46++[w64 (a6.Dust*v50)])))] (q_vv [] 12 [105] [(105,vi (w64 (x44+1)))] ?_)
   exact q_hl (qBJ a1 a4 a5 a6 v7 o42 (w64 (x44+1)) (l45++[w64 (a6.Chip*v50)]) (l45.length+1) (l46++[w64 (a6.Dust*v50)]) (l46.length+1)) (ih (w64 (x44+1)) (l45++[w64 (a6.Chip*v50)]) (l45.length+1) (l46++[w64 (a6.Dust*v50)]) (l46.length+1) _ (wB rfl rfl) (wB rfl rfl) hm)
  ·refine q_ex 4 ?_;obtain rfl:=oi hm;exact q_l0
theorem qVS (a1:List qN) (a2:List qG) (a3:List qE) (a4:Rect) (a5:Saw) (a6:Rates) (r:Line×(List (List (List Node)))) (hm:PB a1 a2 a3 a4 a5 a6=some r):CtX Tryz.prog globs 54 0 0 [.one (tl qR dd a1),.one (tl qM dd a2),.one (tl qP dd a3),.agg (qT a4),.agg (jY a5),.agg (wC a6)] [] (qV8 r) (qV4 r):=by
 unfold PB at hm;refine q_E f54 136 λE=>?_;refine s_vn [] 0 ⟨[(0,vc (tl qR dd a1)),(1,vc (tl qM dd a2)),(2,vc (tl qP dd a3)),(9,vp 0 0),(10,vp 1 0),(11,vp 2 0),(12,vp 3 0)],[(0,bx 55 (qT a4)),(1,bx 39 (jY a5)),(2,bx 41 (wC a6)),(3,bx 123 [ci 0,ci 0,ci 0,.emp,.emp,.emp,.emp])]⟩ (s_va 4 [(14,vi (w64 (a4.Y.B-a4.Y.A)))] ?_);obtain⟨v7,h8,hm⟩:=qC hm;refine s_du [qc 4 [39] 4 (qPY a3 v7 h8)] [0,0,2,0,8,31,0,127] 4 [] [(15,vp 5 0)] [] [(4,ro 0 3 1 v7.length (rf qD v7)),(5,bx 123 [ci (w64 (a4.Y.B-a4.Y.A)),ci a5.Kerf,ci 1,.own 4 0 1 v7.length,.emp,.emp,.emp])] (s_va 6 [(16,vc (.emp))] ?_)
 refine q_sq (s_va 6 [(43,vo 4 0 1 v7.length),(44,vi (v7.length:Int)),(45,vi 0)] ?_);refine q_fo 16 6 130 1 (qU (qU qL)) (q_fu [.ownB 5 4 7 72 1 (rf (qU qD) [])] [] [] [5] [(5,bx 123 [ci (w64 (a4.Y.B-a4.Y.A)),ci a5.Kerf,ci 1,.own 4 0 1 v7.length,.own 7 0 1 0,.emp,.emp]),(7,ro 0 72 1 0 (rf (qU qD) []))] o0 ?_);obtain⟨o42,h43,hm⟩:=qC hm
 refine zG (nd f54 500) 0 (by kernel_rfl) FUEL (λo=>qIe a1 a4 a5 a6 v7 o.1 o.2) o42 (q_hl (qBz a1 a2 a3 a4 a5 a6 v7 ([]:List (List (List Node))) 0 0 ([]:List (List Int)) 0) (qPx E a1 a2 a3 a4 a5 a6 v7 FUEL ([]:List (List (List Node))) 0 0 ([]:List (List Int)) 0 o42 rfl rfl h43)) (q_sq ?_);refine s_vv [] 8 [14] [(104,vi (w64 (a4.Y.B-a4.Y.A))),(105,vi 0)] (q_fu [.ownB 5 5 8 3 1 (rf qD [])] [] [] [5] [(5,bx 123 [ci (w64 (a4.Y.B-a4.Y.A)),ci a5.Kerf,ci 1,.own 4 0 1 v7.length,.own 7 0 1 o42.2.length,.own 8 0 1 0,.emp]),(8,ro 0 3 1 0 (rf qD []))] o0 ?_)
 refine q_fu [.ownB 5 6 9 3 1 (rf qD [])] [] [] [5] [(5,bx 123 [ci (w64 (a4.Y.B-a4.Y.A)),ci a5.Kerf,ci 1,.own 4 0 1 v7.length,.own 7 0 1 o42.2.length,.own 8 0 1 0,.own 9 0 1 0]),(9,ro 0 3 1 0 (rf qD []))] o0 ?_;obtain⟨o56,h57,hm⟩:=qC hm
 refine zG (nd f54 1012) 4 (by kernel_rfl) FUEL (λo=>qHt a4 a5 v7 o42 o.1 o.2) o56 (q_hl (qBJ a1 a4 a5 a6 v7 o42 0 ([]:List Int) 0 ([]:List Int) 0) (qOS E a1 a4 a5 a6 v7 o42 FUEL 0 ([]:List Int) 0 ([]:List Int) 0 o56 rfl rfl h57)) (s_vu [] 10 [15,16] [(13,vo 6 0 1 o42.1.length)] [3,5] [(3,bx 123 [ci (w64 (a4.Y.B-a4.Y.A)),ci a5.Kerf,ci 1,.own 4 0 1 v7.length,.own 7 0 1 o42.2.length,.own 8 0 1 o56.1.length,.own 9 0 1 o56.2.length])] ?_);obtain rfl:=oi hm;refine q_sw 4 0 (q_sw 7 1 ?_);refine q_sw 8 2 (q_sw 9 3 ?_);exact q_sw 6 4 (q_rt q_rm)
def qRk (r:Int):V:=vi r
def qRm (r:Int):List (Nat×(Nat×O)):=[]
def EF (v2:qH) (x4:Int) (x5:Int):St:=
 ⟨[(3,vi x4),(8,vc (tl qK dd v2.Rows)),(9,vi (v2.Rows.length:Int)),(10,vi x5)],[]⟩
def qDR (x10:Int):St:=
 ⟨[(3,vi x10)],[]⟩
theorem qJ2 (E:Env 0) (v2:qH):∀(n:Nat) (x4:Int) (x5:Int) (res:Int),XQ v2 n x4 x5=some res->HL (kx E 21 0) (nd f120 116) (zL 0 qDR res) n (EF v2 x4 x5):=by
 intro n
 induction n with
 |zero=>
  intro x4 x5 res hm;cases hm
 |succ n ih=>
  intro x4 x5 res hm;refine qS (s_va 1 [(11,vb (decide (x5<(v2.Rows.length:Int))))] ?_);refine q_sq (q_cq hm (λhm=>?_) (λhm=>?_))
  ·refine q_sk (q_sq ?_);refine q_bk 1 ?_;obtain⟨g7,hm⟩:=qJ hm;refine s_vu [qi 0 g7] 1 [11] [(5,vp 1 0)] [] [(1,bx 53 (qK (v2.Rows.getD x5.toNat dd)))] ?_;obtain⟨v8,h9,hm⟩:=qC hm;refine q_vu [qc 2 [15] 2 (qCy (v2.Rows.getD x5.toNat dd) v8 h9)] 2 [3,5] [(3,vi (w64 (x4+v8)))] [1] [] (q_vv [] 2 [10] [(10,vi (w64 (x5+1)))] ?_);exact q_hl (EF v2 (w64 (x4+v8)) (w64 (x5+1))) (ih (w64 (x4+v8)) (w64 (x5+1)) _ hm)
  ·refine q_ex 0 ?_;obtain rfl:=oi hm;exact q_l0
theorem qOl (a1:qH) (r:Int) (hm:MG a1=some r):CtX Tryz.prog globs 120 0 0 [.agg (qZ a1)] [] (qRk r) (qRm r):=by
 unfold MG at hm;refine q_E f120 21 λE=>?_;refine s_vn [] 0 ⟨[(1,vp 0 0)],[(0,bx 78 (qZ a1))]⟩ (s_va 1 [(3,vi 0)] ?_);refine q_sq ?_;obtain⟨v2,h3,hm⟩:=qC hm;refine s_vu [qc 1 [6] 1 (RM a1 v2 h3)] 1 [1] [(8,vc (tl qK dd v2.Rows)),(9,vi (v2.Rows.length:Int)),(10,vi 0)] [0] [] ?_;obtain⟨o11,h12,hm⟩:=qC hm;refine zG (nd f120 116) 0 (by kernel_rfl) FUEL qDR o11 (q_hl (EF v2 0 0) (qJ2 E v2 FUEL 0 0 o11 h12)) (s_vn [] 1 ⟨[(2,vi (w64 (10*o11)))],[]⟩ ?_);obtain rfl:=oi hm;exact q_rt q_rm
open Go.Proofs Go.Proofs.Tryz
def qQP (r:Int):V:=vi r
def qRu (r:Int):List (Nat×(Nat×O)):=[]
def EW (v2:(List qN)) (x4:Int) (x5:Int):St:=
 ⟨[(3,vi x4),(7,vc (tl qR dd v2)),(8,vi (v2.length:Int)),(9,vi x5)],[]⟩
def qDK (x10:Int):St:=
 ⟨[(3,vi x10)],[]⟩
theorem qKm (E:Env 0) (v2:(List qN)):∀(n:Nat) (x4:Int) (x5:Int) (res:Int),XT v2 n x4 x5=some res->HL (kx E 23 0) (nd f59 116) (zL 0 qDK res) n (EW v2 x4 x5):=by
 intro n
 induction n with
 |zero=>
  intro x4 x5 res hm;cases hm
 |succ n ih=>
  intro x4 x5 res hm;refine qS (s_va 0 [(10,vb (decide (x5<(v2.length:Int))))] ?_);refine q_sq (q_cq hm (λhm=>?_) (λhm=>?_))
  ·refine q_sk (q_sq ?_);refine q_bk 1 ?_;obtain⟨g7,hm⟩:=qJ hm;refine s_vu [qi 0 g7] 0 [10] [(5,vp 0 0)] [] [(0,bx 80 (qR (v2.getD x5.toNat dd)))] ?_;obtain⟨v8,h9,hm⟩:=qC hm;refine q_du [qc 5 [17] 1 (qOl ((v2.getD x5.toNat dd).Sec) v8 h9)] [0,0,2,0,8,24,62,127,255] 1 [3,5] [(3,vi (w64 (x4+(w64 (((v2.getD x5.toNat dd).Len)*v8)))))] [0] [] (q_vv [] 1 [9] [(9,vi (w64 (x5+1)))] ?_);exact q_hl (EW v2 (w64 (x4+(w64 (((v2.getD x5.toNat dd).Len)*v8)))) (w64 (x5+1))) (ih (w64 (x4+(w64 (((v2.getD x5.toNat dd).Len)*v8)))) (w64 (x5+1)) _ hm)
  ·refine q_ex 0 ?_;obtain rfl:=oi hm;exact q_l0
theorem qP6 (a1:List qN) (r:Int) (hm:XC a1=some r):CtX Tryz.prog globs 59 0 0 [.one (tl qR dd a1)] [] (qQP r) (qRu r):=by
 unfold XC at hm;refine q_E f59 23 λE=>?_;refine s_vn [] 0 ⟨[(0,vc (tl qR dd a1))],[]⟩ (s_va 0 [(3,vi 0)] ?_);refine q_sq ?_;obtain⟨v2,h3,hm⟩:=qC hm;refine s_vv [qc 1 [6] 0 (ST a1 v2 h3)] 0 [0] [(7,vc (tl qR dd v2)),(8,vi (v2.length:Int)),(9,vi 0)] ?_;obtain⟨o11,h12,hm⟩:=qC hm;refine zG (nd f59 116) 0 (by kernel_rfl) FUEL qDK o11 (q_hl (EW v2 0 0) (qKm E v2 FUEL 0 0 o11 h12)) (s_vn [] 0 ⟨[(2,vi o11)],[]⟩ ?_);obtain rfl:=oi hm;exact q_rt q_rm
def qV1 (r:Pattern×Int×Int):V:= .tup [.agg [ci r.1.Frame.X.A,ci r.1.Frame.X.B,ci r.1.Frame.Y.A,ci r.1.Frame.Y.B,.own 0 0 2 r.1.Nodes.length],.one (ci r.2.1),.one (ci r.2.2)]
def qWw (r:Pattern×Int×Int):List (Nat×(Nat×O)):=[(0,ro 0 156 2 r.1.Nodes.length (rf qL r.1.Nodes))]
def qBv (a1:List qN) (a4:Rect) (a5:Saw) (a6:Rates) (v10:Line×(List (List (List Node)))) (v12:(List zR)×Int×Int) (l15:List Span) (l15n:Nat) (l16:List (List Node)) (l16n:Nat) (x17:Int):St:=
 ⟨[(0,vc (tl qR dd a1)),(9,vp 0 0),(10,vp 1 0),(11,vp 2 0),(12,vp 3 0),(16,vp 9 0),(17,vo 8 0 1 v10.2.length),(19,vi v12.2.1),(21,vo 11 0 2 l15n),(22,vo 12 0 1 l16n),(57,vo 10 0 2 v12.1.length),(58,vi (v12.1.length:Int)),(59,vi x17)],[(0,bx 55 (qT a4)),(1,bx 39 (jY a5)),(2,bx 41 (wC a6)),(3,bx 58 [ci 0,ci 0,ci 0,ci 0,.emp]),(4,ro 0 3 1 v10.1.Sizes.length (rf qD v10.1.Sizes)),(5,ro 0 72 1 v10.1.Gain.length (rf (qU qD) v10.1.Gain)),(6,ro 0 3 1 v10.1.Chip.length (rf qD v10.1.Chip)),(7,ro 0 3 1 v10.1.Dust.length (rf qD v10.1.Dust)),(8,ro 0 130 1 v10.2.length (rf (qU (qU qL)) v10.2)),(9,bx 123 [ci v10.1.Len,ci v10.1.Kerf,ci v10.1.Pitch,.own 4 0 1 v10.1.Sizes.length,.own 5 0 1 v10.1.Gain.length,.own 6 0 1 v10.1.Chip.length,.own 7 0 1 v10.1.Dust.length]),(10,ro 0 132 2 v12.1.length (rf QB v12.1)),(11,ro 0 53 2 l15n (rf qK l15)),(12,ro 0 56 1 l16n (rf (qU qL) l16))]⟩
def qHj (a1:List qN) (a4:Rect) (a5:Saw) (a6:Rates) (v12:(List zR)×Int×Int) (l28:List Span) (l29:List (List Node)):St:=
 ⟨[(0,vc (tl qR dd a1)),(9,vp 0 0),(10,vp 1 0),(11,vp 2 0),(12,vp 3 0),(19,vi v12.2.1),(21,vo 11 0 2 l28.length),(22,vo 12 0 1 l29.length)],[(0,bx 55 (qT a4)),(1,bx 39 (jY a5)),(2,bx 41 (wC a6)),(3,bx 58 [ci 0,ci 0,ci 0,ci 0,.emp]),(11,ro 0 53 2 l28.length (rf qK l28)),(12,ro 0 56 1 l29.length (rf (qU qL) l29))]⟩
theorem qPW (E:Env 0) (a1:List qN) (a4:Rect) (a5:Saw) (a6:Rates) (v10:Line×(List (List (List Node)))) (v12:(List zR)×Int×Int):∀(n:Nat) (l15:List Span) (l15n:Nat) (l16:List (List Node)) (l16n:Nat) (x17:Int) (res:(List Span)×(List (List Node))),l15.length=l15n->l16.length=l16n->JC a4 v10 v12 n l15 l16 x17=some res->HL (kx E 119 0) (nd f30 4084) (zL 0 (λo=>qHj a1 a4 a5 a6 v12 o.1 o.2) res) n (qBv a1 a4 a5 a6 v10 v12 l15 l15n l16 l16n x17):=by
 intro n
 induction n with
 |zero=>
  intro l15 l15n l16 l16n x17 res hl0 hl1 hm;cases hm
 |succ n ih=>
  intro l15 l15n l16 l16n x17 res hl0 hl1 hm;subst hl0;subst hl1;refine qS (s_va 13 [(60,vb (decide (x17<(v12.1.length:Int))))] ?_);refine q_sq (q_cq hm (λhm=>?_) (λhm=>?_))
  ·refine q_sk (q_sq ?_);refine q_bk 1 ?_;obtain⟨g19,hm⟩:=qJ hm;refine s_vu [qi 0 g19,qd 1 dN (qW (zC g19))] 13 [60] [(24,vp 13 0)] [] [(13,bx 132 (QB (v12.1.getD x17.toNat dd)))] ?_;obtain⟨g20,hm⟩:=qJ hm;obtain⟨v21,h22,hm⟩:=qC hm;obtain⟨g23,hm⟩:=qJ hm
   refine s_du [qi 10 g20,qd 11 dN (qW (zC g20)),qc 13 [64,66,75] 14 (qDF a4 ((v12.1.getD x17.toNat dd).At) (w64 (((v12.1.getD x17.toNat dd).At)+(v10.1.Sizes.getD (((v12.1.getD x17.toNat dd).Size).toNat) dd))) v21 h22),qd 15 (drw 14 0 (rf qK [v21.Y])) (litP qK dd 2 (λ_=>rfl) ([v21.Y]:List Span) 1 rfl),qd 16 (drw 11 1 (rf qK (l15++[v21.Y]))) (apP qK dd l15 ([v21.Y]:List Span) l15.length 1 2 16 (1<=1) (ke _) rfl rfl (λ_=>rfl) (wA g23))] [0,0,0,4,0,16,0,64,0,256,960,1984,4080,8190,16382,32766,65535,131071] 14 [21] [(21,vo 11 1 2 (l15.length+1))] [11] [(11,ro 1 53 2 (l15.length+1) (rf qK (l15++[v21.Y])))] ?_
   obtain⟨g24,hm⟩:=qJ hm;obtain⟨g25,hm⟩:=qJ hm;obtain⟨v26,h27,hm⟩:=qC hm
   refine q_du [qi 4 g24,qd 5 dN (qW (zC g24)),qi 8 g25,qd 10 (dex (cen [(12,0)] [1] 14 0 (qDX ((v10.2.getD (((v12.1.getD x17.toNat dd).Size).toNat) dd).getD ((v12.1.getD x17.toNat dd).At).toNat dd) l16 v26) (qD5 ((v10.2.getD (((v12.1.getD x17.toNat dd).Size).toNat) dd).getD ((v12.1.getD x17.toNat dd).At).toNat dd) l16 v26) [80,89] [12])) (wK (K:=(kx E 119 0)) ⟨[(80,vo 12 0 1 l16.length),(89,vc (tl qL dd ((v10.2.getD (((v12.1.getD x17.toNat dd).Size).toNat) dd).getD ((v12.1.getD x17.toNat dd).At).toNat dd)))],[(12,ro 0 56 1 l16.length (rf (qU qL) l16))]⟩ (opAt (rg f30 261427) 10) [(12,0)] [1] 14 o0 rfl (qLf ((v10.2.getD (((v12.1.getD x17.toNat dd).Size).toNat) dd).getD ((v12.1.getD x17.toNat dd).At).toNat dd) l16 v26 h27) (.inl rfl) (by kernel_rfl))] [0,0,0,4,14,30,0,64,254,510,1023,2047] 15 [22,24] [(22,vo 12 1 1 v26.2.length)] [12,13] [(12,ro 1 56 1 v26.2.length (rf (qU qL) v26.2))] ?_
   exact q_vv [] 15 [59] [(59,vi (w64 (x17+1)))] (q_hl (qBv a1 a4 a5 a6 v10 v12 (l15++[v21.Y]) (l15.length+1) v26.2 v26.2.length (w64 (x17+1))) (ih (l15++[v21.Y]) (l15.length+1) v26.2 v26.2.length (w64 (x17+1)) _ (wB rfl rfl) rfl hm))
  ·refine q_ex 0 ?_;obtain rfl:=oi hm;exact q_l0
theorem qVq (a1:List qN) (a2:List qG) (a3:List qE) (a4:Rect) (a5:Saw) (a6:Rates) (r:Pattern×Int×Int) (hm:JI a1 a2 a3 a4 a5 a6=some r):CtX Tryz.prog globs 30 0 0 [.one (tl qR dd a1),.one (tl qM dd a2),.one (tl qP dd a3),.agg (qT a4),.agg (jY a5),.agg (wC a6)] [] (qV1 r) (qWw r):=by
 unfold JI at hm;refine q_E f30 119 λE=>?_;refine s_vn [] 0 ⟨[(0,vc (tl qR dd a1)),(1,vc (tl qM dd a2)),(2,vc (tl qP dd a3)),(9,vp 0 0),(10,vp 1 0),(11,vp 2 0),(12,vp 3 0)],[(0,bx 55 (qT a4)),(1,bx 39 (jY a5)),(2,bx 41 (wC a6)),(3,bx 58 [ci 0,ci 0,ci 0,ci 0,.emp])]⟩ (q_sq ?_);obtain⟨v7,h8,hm⟩:=qC hm;refine s_vv [qc 6 [26,27,28,29,30,31] 4 (qSs a1 a2 a3 a4 a5 a6 v7 h8)] 4 [] [(15,vi v7)] (s_va 4 [(34,vb (v7 !=0))] ?_);refine q_cq hm (λhm=>?_) (λhm=>?_)
 ·refine s_vu [] 4 [0,1,2,9,10,11,15,34] [(13,vi 0),(14,vi v7)] [0,1,2] [] (q_fu [.ownB 3 4 4 156 2 (rf qL [])] [] [] [3] [(3,bx 58 [ci 0,ci 0,ci 0,ci 0,.own 4 0 2 0]),(4,ro 0 156 2 0 (rf qL []))] o0 ?_);refine q_fu [.len 4 (([]:List Node).length)] [] [] [3,4] [(3,bx 58 [ci 0,ci 0,ci 0,ci 0,.own 4 0 2 (([]:List Node).length)]),(4,ro 0 156 2 (([]:List Node).length) (rf qL []))] (o1 (And.intro (show 0=([]:List Node).length from rfl) (show 0=([]:List Node).length from rfl))) ?_;obtain rfl:=oi hm;exact q_sw 4 0 (q_rt q_rm)
 ·refine q_sk ?_;obtain⟨v10,h11,hm⟩:=qC hm
  refine s_vu [qc 6 [38,39,40,41,42,43] 4 (qVS a1 a2 a3 a4 a5 a6 v10 h11)] 4 [1,2,15,34] [(16,vp 9 0),(17,vo 8 0 1 v10.2.length)] [] [(4,ro 0 3 1 v10.1.Sizes.length (rf qD v10.1.Sizes)),(5,ro 0 72 1 v10.1.Gain.length (rf (qU qD) v10.1.Gain)),(6,ro 0 3 1 v10.1.Chip.length (rf qD v10.1.Chip)),(7,ro 0 3 1 v10.1.Dust.length (rf qD v10.1.Dust)),(8,ro 0 130 1 v10.2.length (rf (qU (qU qL)) v10.2)),(9,bx 123 [ci v10.1.Len,ci v10.1.Kerf,ci v10.1.Pitch,.own 4 0 1 v10.1.Sizes.length,.own 5 0 1 v10.1.Gain.length,.own 6 0 1 v10.1.Chip.length,.own 7 0 1 v10.1.Dust.length])] ?_;obtain⟨v12,h13,hm⟩:=qC hm
  refine s_vu [qd 1 (dex (cen [] [] 10 0 (qB2 v12) (DJ v12) [48] [4,5,6,7])) (wK (K:=(kx E 119 0)) (b:=false) ⟨[(48,va [ci v10.1.Len,ci v10.1.Kerf,ci v10.1.Pitch,.own 4 0 1 v10.1.Sizes.length,.own 5 0 1 v10.1.Gain.length,.own 6 0 1 v10.1.Chip.length,.own 7 0 1 v10.1.Dust.length])],[(4,ro 0 3 1 v10.1.Sizes.length (rf qD v10.1.Sizes)),(5,ro 0 72 1 v10.1.Gain.length (rf (qU qD) v10.1.Gain)),(6,ro 0 3 1 v10.1.Chip.length (rf qD v10.1.Chip)),(7,ro 0 3 1 v10.1.Dust.length (rf qD v10.1.Dust))]⟩ (opAt (rg f30 30) 1) [] [] 10 (o1 (And.intro (ke v10.1.Sizes.length) (And.intro (ke v10.1.Gain.length) (And.intro (ke v10.1.Chip.length) (ke v10.1.Dust.length))))) rfl (qGy (Line.mk v10.1.Len v10.1.Kerf v10.1.Pitch v10.1.Sizes v10.1.Gain v10.1.Chip v10.1.Dust) v12 h13) (.inr ⟨(by kernel_rfl),qHx v12⟩) (by kernel_rfl))] 10 [] [(18,vo 10 0 2 v12.1.length),(19,vi v12.2.1),(20,vi v12.2.2)] [] [(10,ro 0 132 2 v12.1.length (rf QB v12.1))] ?_
  refine q_sq (s_va 11 [(54,vb (v12.2.2 !=0))] ?_);refine q_cq hm (λhm=>?_) (λhm=>?_)
  ·refine s_vn [] 11 ⟨[(12,vp 3 0),(13,vi 0),(14,vi v12.2.2)],[(3,bx 58 [ci 0,ci 0,ci 0,ci 0,.emp])]⟩ (q_fu [.ownB 3 4 11 156 2 (rf qL [])] [] [] [3] [(3,bx 58 [ci 0,ci 0,ci 0,ci 0,.own 11 0 2 0]),(11,ro 0 156 2 0 (rf qL []))] o0 ?_);refine q_fu [.len 11 (([]:List Node).length)] [] [] [3,11] [(3,bx 58 [ci 0,ci 0,ci 0,ci 0,.own 11 0 2 (([]:List Node).length)]),(11,ro 0 156 2 (([]:List Node).length) (rf qL []))] (o1 (And.intro (show 0=([]:List Node).length from rfl) (show 0=([]:List Node).length from rfl))) ?_;obtain rfl:=oi hm;exact q_sw 11 0 (q_rt q_rm)
  ·refine q_sk (s_vv [] 11 [20,54] [(21,vc (.emp))] ?_);refine s_va 11 [(22,vc (.emp))] (q_sq ?_);refine s_vv [] 11 [18] [(57,vo 10 0 2 v12.1.length),(58,vi (v12.1.length:Int)),(59,vi 0)] (q_fo 21 11 53 2 qK ?_);refine q_fo 22 12 56 1 (qU qL) ?_;obtain⟨o30,h31,hm⟩:=qC hm;refine zG (nd f30 4084) 0 (by kernel_rfl) FUEL (λo=>qHj a1 a4 a5 a6 v12 o.1 o.2) o30 (q_hl (qBv a1 a4 a5 a6 v10 v12 ([]:List Span) 0 ([]:List (List Node)) 0 0) (qPW E a1 a4 a5 a6 v10 v12 FUEL ([]:List Span) 0 ([]:List (List Node)) 0 0 o30 rfl rfl h31)) ?_;obtain⟨v32,h33,hm⟩:=qC hm
   refine s_vu [qd 5 (dex (cen [] [] 13 0 (BV v32) (XY v32) [93,95,96,97] [11,12])) (wK (K:=(kx E 119 0)) (b:=false) ⟨[(93,va (qT a4)),(95,vi a5.Kerf),(96,vo 11 0 2 o30.1.length),(97,vo 12 0 1 o30.2.length)],[(11,ro 0 53 2 o30.1.length (rf qK o30.1)),(12,ro 0 56 1 o30.2.length (rf (qU qL) o30.2))]⟩ (opAt (rg f30 1022) 5) [] [] 13 (o1 (And.intro (ke o30.1.length) (ke o30.2.length))) rfl (qId a4 3 a5.Kerf o30.1 o30.2 v32 h33) (.inr ⟨(by kernel_rfl),qJc v32⟩) (by kernel_rfl))] 13 [10,21,22] [(20,vi v32.2),(25,vo 13 0 2 v32.1.length)] [1,11,12] [(13,ro 0 156 2 v32.1.length (rf qL v32.1))] (q_sq ?_)
   refine s_vv [] 14 [20] [(102,vb (v32.2 !=0))] (q_cq hm (λhm=>?_) (λhm=>?_))
   ·refine s_vu [] 14 [0,9,11,19,25,102] [(13,vi 0),(14,vi 13)] [0,2,13] [] (q_fu [.ownB 3 4 14 156 2 (rf qL [])] [] [] [3] [(3,bx 58 [ci 0,ci 0,ci 0,ci 0,.own 14 0 2 0]),(14,ro 0 156 2 0 (rf qL []))] o0 ?_);refine q_fu [.len 14 (([]:List Node).length)] [] [] [3,14] [(3,bx 58 [ci 0,ci 0,ci 0,ci 0,.own 14 0 2 (([]:List Node).length)]),(14,ro 0 156 2 (([]:List Node).length) (rf qL []))] (o1 (And.intro (show 0=([]:List Node).length from rfl) (show 0=([]:List Node).length from rfl))) ?_;obtain rfl:=oi hm;exact q_sw 14 0 (q_rt q_rm)
   ·refine q_sk ?_;obtain⟨v35,h36,hm⟩:=qC hm;obtain⟨v37,h38,hm⟩:=qC hm;refine s_du [qc 4 [107] 14 (qP6 a1 v35 h36),qc 7 [109,110] 14 (qHH a1 a4 v37 h38)] [0,0,2,0,8,0,0,120,248,510,1023,2047] 14 [0,11,19,102] [(19,vi (w64 (v12.2.1+(w64 (a6.Chip*(w64 (v35-v37)))))))] [2] [] (s_vu [] 14 [9,19,25] [(13,vi (w64 (v12.2.1+(w64 (a6.Chip*(w64 (v35-v37))))))),(14,vi 0)] [0,3] [(3,bx 58 [ci a4.X.A,ci a4.X.B,ci a4.Y.A,ci a4.Y.B,.own 13 0 2 v32.1.length])] ?_);obtain rfl:=oi hm;exact q_sw 13 0 (q_rt q_rm)
def qCf (r:(List qI)×Int):V:= .tup [.one (.own 0 0 7 r.1.length),.one (ci r.2)]
def qCe (r:(List qI)×Int):List (Nat×(Nat×O)):=[(0,ro 0 60 7 r.1.length (rf zB r.1))]
def qBO (a1:Scan) (a2:List qE) (a3:Saw) (a4:Rates) (a5:Int) (a6:Int) (l7:List qI) (l7n:Nat) (x8:Int):St:=
 ⟨[(1,vc (tl qP dd a2)),(4,vi a5),(5,vi a6),(6,vp 0 0),(8,vp 1 0),(9,vp 2 0),(14,vo 3 0 7 l7n),(21,vi x8)],[(0,bx 25 (wE a1)),(1,bx 39 (jY a3)),(2,bx 41 (wC a4)),(3,ro 0 60 7 l7n (rf zB l7))]⟩
def qHv (l19:List qI):St:=
 ⟨[(14,vo 3 0 7 l19.length)],[(3,ro 0 60 7 l19.length (rf zB l19))]⟩
theorem qPe (E:Env 0) (a1:Scan) (a2:List qE) (a3:Saw) (a4:Rates) (a5:Int) (a6:Int):∀(n:Nat) (l7:List qI) (l7n:Nat) (x8:Int) (res:((List qI)×Int)⊕(List qI)),l7.length=l7n->jU a1 a2 a3 a4 a5 a6 n l7 x8=some res->HL (kx E 60 0) (nd f15 116) (wL 0 qHv (λv st=>RetQ Tryz.prog f15 (qCf v) (qCe v) .ret st) res) n (qBO a1 a2 a3 a4 a5 a6 l7 l7n x8):=by
 intro n
 induction n with
 |zero=>
  intro l7 l7n x8 res hl0 hm;cases hm
 |succ n ih=>
  intro l7 l7n x8 res hl0 hm;subst hl0;refine qS (s_va 4 [(22,vb (decide (x8<4)))] ?_);refine q_sq (q_cq hm (λhm=>?_) (λhm=>?_))
  ·refine q_sk (q_sq ?_);refine q_bk 1 (s_vv [] 4 [22] [(15,vi x8)] ?_);obtain⟨v10,h11,hm⟩:=qC hm;refine s_vv [qc 4 [25,26,27,28] 4 (qHy a1 x8 a5 a6 v10 h11)] 4 [] [(16,vc (tl qR dd v10.1)),(17,vc (tl qM dd v10.2.1)),(18,vi v10.2.2)] (q_sq ?_);refine s_va 4 [(34,vb (v10.2.2 !=0))] (q_cq hm (λhm=>?_) (λhm=>?_))
   ·refine s_vn [] 4 ⟨[(12,vc (.emp)),(13,vi v10.2.2)],[]⟩ (q_fo 12 4 60 7 zB ?_);refine q_fl 12 4 60 7 zB ?_;obtain rfl:=oi hm;refine q_sw 4 0 (q_rt ?_);exact zJ (([]:List qI),v10.2.2) q_rm
   ·refine q_sk ?_;obtain⟨v13,h14,hm⟩:=qC hm;obtain⟨v15,h16,hm⟩:=qC hm;refine s_du [qc 4 [40] 4 (qS1 v10.1 v13 h14),qc 7 [37,38,39,41,42,43] 4 (qVq v10.1 v10.2.1 a2 v13 a3 a4 v15 h16)] [0,0,0,0,8,0,0,127,255,511,511,511,0,5119,14335,32767] 4 [16,17,18,34] [(18,vi v15.2.2),(19,vp 5 0),(20,vi v15.2.1)] [] [(4,ro 0 156 2 v15.1.Nodes.length (rf qL v15.1.Nodes)),(5,bx 58 [ci v15.1.Frame.X.A,ci v15.1.Frame.X.B,ci v15.1.Frame.Y.A,ci v15.1.Frame.Y.B,.own 4 0 2 v15.1.Nodes.length])] (q_sq ?_);refine s_va 6 [(49,vb (v15.2.2 !=0))] (q_cq hm (λhm=>?_) (λhm=>?_))
    ·refine s_vn [] 6 ⟨[(12,vc (.emp)),(13,vi v15.2.2)],[]⟩ (q_fo 12 6 60 7 zB ?_);refine q_fl 12 6 60 7 zB ?_;obtain rfl:=oi hm;refine q_sw 6 0 (q_rt ?_);exact zJ (([]:List qI),v15.2.2) q_rm
    ·refine q_sk ?_;obtain⟨g18,hm⟩:=qJ hm
     refine q_vu [qd 5 (dpr [.frz 4] (drw 6 0 (rf zB [(qI.mk x8 v15.1 v15.2.1)]))) (And.intro (And.intro (ke v15.1.Nodes.length) (ke v15.1.Nodes.length)) (ke v15.1.Nodes.length)),qd 5 dN (litP zB dd 7 (λ_=>rfl) ([(qI.mk x8 v15.1 v15.2.1)]:List qI) 1 rfl),qd 6 (drw 3 1 (rf zB (l7++[(qI.mk x8 v15.1 v15.2.1)]))) (apP zB dd l7 ([(qI.mk x8 v15.1 v15.2.1)]:List qI) l7.length 1 7 72 (1<=1) (ke _) rfl rfl (λ_=>rfl) (wA g18))] 6 [14,15,18,19,20,49] [(14,vo 3 1 7 (l7.length+1))] [3,4,5] [(3,ro 1 60 7 (l7.length+1) (rf zB (l7++[(qI.mk x8 v15.1 v15.2.1)])))] (q_vv [] 7 [21] [(21,vi (w64 (x8+1)))] ?_)
     exact q_hl (qBO a1 a2 a3 a4 a5 a6 (l7++[(qI.mk x8 v15.1 v15.2.1)]) (l7.length+1) (w64 (x8+1))) (ih (l7++[(qI.mk x8 v15.1 v15.2.1)]) (l7.length+1) (w64 (x8+1)) _ (wB rfl rfl) hm)
  ·refine q_ex 0 ?_;obtain rfl:=oi hm;exact q_l1 l7
theorem qAa (a1:Scan) (a2:List qE) (a3:Saw) (a4:Rates) (a5:Int) (a6:Int) (r:(List qI)×Int) (hm:QH a1 a2 a3 a4 a5 a6=some r):CtX Tryz.prog globs 15 0 0 [.agg (wE a1),.one (tl qP dd a2),.agg (jY a3),.agg (wC a4),.one (ci a5),.one (ci a6)] [] (qCf r) (qCe r):=by
 unfold QH at hm;refine q_E f15 60 λE=>?_;refine s_vn [] 0 ⟨[(1,vc (tl qP dd a2)),(4,vi a5),(5,vi a6),(6,vp 0 0),(8,vp 1 0),(9,vp 2 0)],[(0,bx 25 (wE a1)),(1,bx 39 (jY a3)),(2,bx 41 (wC a4))]⟩ (s_va 3 [(14,vc (.emp))] ?_);refine q_sq (s_va 3 [(21,vi 0)] ?_);refine q_fo 14 3 60 7 zB ?_;obtain⟨u22,h21,hm⟩:=qC hm;refine zO (nd f15 116) 0 (by kernel_rfl) FUEL qHv (λv st=>RetQ Tryz.prog f15 (qCf v) (qCe v) .ret st) u22 (q_hl (qBO a1 a2 a3 a4 a5 a6 ([]:List qI) 0 0) (qPe E a1 a2 a3 a4 a5 a6 FUEL ([]:List qI) 0 0 u22 rfl h21)) ?_ ?_
 ·rintro v23 rfl st hr;obtain rfl:=oi hm;exact hr
 ·rintro o20 rfl;replace hm:_=some r:=hm;refine s_vv [] 4 [14] [(12,vo 3 0 7 o20.length),(13,vi 0)] ?_;obtain rfl:=oi hm;exact q_sw 3 0 (q_rt q_rm)
end Saw
end Go.SL

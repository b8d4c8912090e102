import Derived.Test.YtidlfgiogdjkaaaGreatDoorEBase
import Derived.Test.YtidlfgiogdjkaaaGreatDoorEFa9
import Derived.Test.YtidlfgiogdjkaaaGreatDoorEFa10
import Derived.Test.YtidlfgiogdjkaaaGreatDoorEFa13
set_option linter.unusedVariables false
set_option linter.unusedSimpArgs false
namespace Go.SL
namespace Saw
open Go.Proofs Go.Proofs.Tryz
set_option maxHeartbeats 4000000
set_option maxRecDepth 100000
def qHl (r:(List Int)):V:=vo 0 0 1 r.length
def ON (r:(List Int)):List (Nat×(Nat×O)):=[(0,ro 0 3 1 r.length (rf qA r))]
theorem qMt (r:(List Int)):jS (ON r):=by
 intro i k o h;unfold ON at h;rw[look_cons] at h;split at h
 ·cases h;exact λ_ _=>rfl
 ·cases h
def qHn (a1:List Int) (a2:Int) (x5:Int) (l15:List Int) (l15n:Nat) (x16:Bool):St:=
 ⟨[(0,vc (tl qA du a1)),(1,vi a2),(5,vo 0 0 1 l15n),(6,vb x16),(7,vi x5)],[(0,ro 0 3 1 l15n (rf qA l15))]⟩
def qHo (a1:List Int) (a2:Int) (x5:Int) (l14:List Int) (l14n:Nat):St:=
 ⟨[(0,vc (tl qA du a1)),(1,vi a2),(5,vo 0 0 1 l14n),(7,vi x5)],[(0,ro 0 3 1 l14n (rf qA l14))]⟩
def qSf (a1:List Int) (a2:Int) (l3:List Int) (x4:Bool) (x5:Int) (x9:Bool):St:=
 ⟨[(0,vc (tl qA du a1)),(1,vi a2),(5,vo 0 0 1 l3.length),(6,vb x4),(7,vi x5),(23,vb x9)],[(0,ro 0 3 1 l3.length (rf qA l3))]⟩
def qCq (a1:List Int) (a2:Int) (l3:List Int) (l3n:Nat) (x4:Bool) (x5:Int):St:=
 ⟨[(0,vc (tl qA du a1)),(1,vi a2),(5,vo 0 0 1 l3n),(6,vb x4),(7,vi x5)],[(0,ro 0 3 1 l3n (rf qA l3))]⟩
def qH0 (a2:Int) (l19:List Int) (x20:Bool):St:=
 ⟨[(1,vi a2),(5,vo 0 0 1 l19.length),(6,vb x20)],[(0,ro 0 3 1 l19.length (rf qA l19))]⟩
def qH6 (l25:List Int) (l25n:Nat):St:=
 ⟨[(5,vo 0 0 1 l25n)],[(0,ro 0 3 1 l25n (rf qA l25))]⟩
theorem qQm (E:Env 0) (a1:List Int) (a2:Int):∀(n:Nat) (l3:List Int) (l3n:Nat) (x4:Bool) (x5:Int) (res:(List Int)×Bool),l3.length=l3n->ZI a1 a2 n l3 x4 x5=some res->HL (kx E 48 0) (nd f36 244) (zL 0 (λo=>qH0 a2 o.1 o.2) res) n (qCq a1 a2 l3 l3n x4 x5):=by
 intro n
 induction n with
 |zero=>
  intro l3 l3n x4 x5 res hl0 hm;cases hm
 |succ n ih=>
  intro l3 l3n x4 x5 res hl0 hm;subst hl0;refine qT (q_sq ?_);refine s_va 1 [(11,vb (decide (x5<(a1.length:Int))))] (q_cq hm (λhm=>?_) (λhm=>?_))
  ·refine q_sk (q_sq ?_);refine q_bk 1 (q_jn (ι:=(List Int)×Nat×Bool) (λp=>qHn a1 a2 x5 p.1 p.2.1 p.2.2) (λp=>p.1.length=p.2.1/\MY a1 x5 (ZI a1 a2 n) p.1 p.2.2=some res) ?_ ?_)
   ·rintro⟨l15,l15n,x16⟩ ⟨el15,hm⟩;replace el15:l15.length=l15n:=el15;subst el15;show H _ (qHn a1 a2 x5 l15 l15.length x16) _ _;obtain⟨g17,hm⟩:=qI hm;obtain⟨g18,hm⟩:=qI hm
    refine q_vu [qi 3 g17,qd 5 (drw 2 0 (rf qA [(a1.getD x5.toNat du)])) (litP qA du 1 (λ_=>rfl) ([(a1.getD x5.toNat du)]:List Int) 1 rfl),qd 6 (drw 0 1 (rf qA (l15++[(a1.getD x5.toNat du)]))) (apP qA du l15 ([(a1.getD x5.toNat du)]:List Int) l15.length 1 1 8 (1<=1) (ki _) rfl rfl (λ_=>rfl) (zI g18))] 2 [5] [(5,vo 0 1 1 (l15.length+1))] [0] [(0,ro 1 3 1 (l15.length+1) (rf qA (l15++[(a1.getD x5.toNat du)])))] (q_vv [] 3 [7] [(7,vi (w64 (x5+1)))] ?_)
    exact q_hl (qCq a1 a2 (l15++[(a1.getD x5.toNat du)]) (l15.length+1) x16 (w64 (x5+1))) (ih (l15++[(a1.getD x5.toNat du)]) (l15.length+1) x16 (w64 (x5+1)) _ (zE rfl rfl) hm)
   ·refine q_jn (qSf a1 a2 l3 x4 x5) (λp=>SP a1 a2 l3 x4 x5 (ZI a1 a2 n) p=some res) ?_ ?_
    ·rintro x9 hm;refine q_cq hm (λhm=>?_) (λhm=>?_)
     ·refine q_jn (ι:=(List Int)×Nat) (λp=>qHo a1 a2 x5 p.1 p.2) (λp=>p.1.length=p.2/\qBa a1 x5 (ZI a1 a2 n) p.1=some res) ?_ ?_
      ·rintro⟨l14,l14n⟩ ⟨el14,hm⟩;replace el14:l14.length=l14n:=el14;subst el14;show H _ (qHo a1 a2 x5 l14 l14.length) _ _;exact q_va 2 [(6,vb true)] (q_J (l14,l14.length,true) ⟨rfl,hm⟩)
      ·obtain⟨g11,hm⟩:=qI hm;refine s_vv [qi 2 g11] 1 [6,23] [(29,vb (decide ((a1.getD x5.toNat du)>a2)))] (q_cq hm (λhm=>?_) (λhm=>?_))
       ·obtain⟨g13,hm⟩:=qI hm;exact q_vu [qd 2 (drw 1 0 (rf qA [a2])) (litP qA du 1 (λ_=>rfl) ([a2]:List Int) 1 rfl),qd 3 (drw 0 1 (rf qA (l3++[a2]))) (apP qA du l3 ([a2]:List Int) l3.length 1 1 8 (1<=1) (ki _) rfl rfl (λ_=>rfl) (zI g13))] 1 [5,29] [(5,vo 0 1 1 (l3.length+1))] [0] [(0,ro 1 3 1 (l3.length+1) (rf qA (l3++[a2])))] (q_J ((l3++[a2]),(l3.length+1)) ⟨(zE rfl rfl),hm⟩)
       ·exact q_sk (q_J (l3,l3.length) ⟨rfl,hm⟩)
     ·exact q_sk (q_J (l3,l3.length,x4) ⟨rfl,hm⟩)
    ·rcases bif_c hm with⟨b7,hm⟩|⟨b7,hm⟩
     ·obtain⟨g8,hm⟩:=qI hm;exact q_vv [qf 2 b7,qi 5 g8] 1 [11] [(23,vb (decide ((a1.getD x5.toNat du)≥a2)))] (q_J (decide ((a1.getD x5.toNat du)≥a2)) hm)
     ·exact q_vv [qf 2 b7] 1 [11] [(23,vb false)] (q_J (false) hm)
  ·refine q_ex 0 ?_;obtain rfl:=oi hm;exact q_l0
theorem qKL (a1:List Int) (a2:Int) (r:(List Int)) (hm:qAO a1 a2=some r):CtX Tryz.prog globs 36 0 0 [.one (tl qA du a1),.one (ci a2)] [] (qHl r) (ON r):=by
 unfold qAO at hm;refine q_E f36 48 λE=>?_;refine s_vn [] 0 ⟨[(0,vc (tl qA du a1)),(1,vi a2)],[]⟩ (s_va 0 [(5,vc (.emp))] ?_);refine s_va 0 [(6,vb false)] (q_sq ?_);refine s_va 0 [(7,vi 0)] (q_fo 5 0 3 1 qA ?_);obtain⟨o21,h22,hm⟩:=qB hm;refine zF (nd f36 244) 0 (by kernel_rfl) FUEL (λo=>qH0 a2 o.1 o.2) o21 (q_hl (qCq a1 a2 ([]:List Int) 0 false 0) (qQm E a1 a2 FUEL ([]:List Int) 0 false 0 o21 rfl h22)) (q_jn (ι:=(List Int)×Nat) (λp=>qH6 p.1 p.2) (λp=>p.1.length=p.2/\qAS p.1=some r) ?_ ?_)
 ·rintro⟨l25,l25n⟩ ⟨el25,hm⟩;replace el25:l25.length=l25n:=el25;subst el25;show H _ (qH6 l25 l25.length) _ _;refine s_vv [] 2 [5] [(4,vo 0 0 1 l25.length)] ?_;obtain rfl:=oi hm;exact q_rt q_rm
 ·refine s_vv [] 1 [6] [(42,vb (!o21.2))] (q_cq hm (λhm=>?_) (λhm=>?_))
  ·obtain⟨g24,hm⟩:=qI hm;exact q_vn [qd 2 (drw 1 0 (rf qA [a2])) (litP qA du 1 (λ_=>rfl) ([a2]:List Int) 1 rfl),qd 3 (drw 0 1 (rf qA (o21.1++[a2]))) (apP qA du o21.1 ([a2]:List Int) o21.1.length 1 1 8 (1<=1) (ki _) rfl rfl (λ_=>rfl) (zI g24))] 1 ⟨[(5,vo 0 1 1 (o21.1.length+1))],[(0,ro 1 3 1 (o21.1.length+1) (rf qA (o21.1++[a2])))]⟩ (q_J ((o21.1++[a2]),(o21.1.length+1)) ⟨(zE rfl rfl),hm⟩)
  ·exact q_sk (q_J (o21.1,o21.1.length) ⟨rfl,hm⟩)
def qO7 (r:(List Int)):V:=vo 0 0 1 r.length
def qP5 (r:(List Int)):List (Nat×(Nat×O)):=[(0,ro 0 3 1 r.length (rf qA r))]
def HJ (a1:List Product) (l5:List Int) (l5n:Nat) (x6:Int):St:=
 ⟨[(0,vc (tl qH du a1)),(3,vo 0 0 1 l5n),(4,vi x6)],[(0,ro 0 3 1 l5n (rf qA l5))]⟩
def qC0 (l15:List Int):St:=
 ⟨[(3,vo 0 0 1 l15.length)],[(0,ro 0 3 1 l15.length (rf qA l15))]⟩
theorem qJq (E:Env 0) (a1:List Product):∀(n:Nat) (l5:List Int) (l5n:Nat) (x6:Int) (res:(List Int)),l5.length=l5n->YN a1 n l5 x6=some res->HL (kx E 30 0) (nd f15 244) (zL 0 qC0 res) n (HJ a1 l5 l5n x6):=by
 intro n
 induction n with
 |zero=>
  intro l5 l5n x6 res hl0 hm;cases hm
 |succ n ih=>
  intro l5 l5n x6 res hl0 hm;subst hl0;refine qT (q_sq ?_);refine s_va 1 [(13,vb (decide (x6<(a1.length:Int))))] (q_cq hm (λhm=>?_) (λhm=>?_))
  ·refine q_sk (q_sq ?_);refine q_bk 1 ?_;obtain⟨g8,hm⟩:=qI hm;obtain⟨v9,h10,hm⟩:=qB hm;refine s_vv [qi 2 g8,qc 4 [20] 1 (AH (a1.getD x6.toNat du) v9 h10)] 1 [13] [(5,vi v9.1),(6,vi v9.2)] ?_;obtain⟨v11,h12,hm⟩:=qB hm;obtain⟨v13,h14,hm⟩:=qB hm
   refine q_vu [qd 2 (dex (cen [] [] 1 0 (qHl v11) (ON v11) [24,25] [0])) (wU (K:=(kx E 30 0)) (b:=false) ⟨[(24,vo 0 0 1 l5.length),(25,vi v9.1)],[(0,ro 0 3 1 l5.length (rf qA l5))]⟩ (opAt (rg f15 3913) 2) [] [] 1 (o1 (ki l5.length)) rfl (qKL l5 v9.1 v11 h12) (.inr ⟨(by kernel_rfl),qMt v11⟩) (by kernel_rfl)),qd 4 (dex (cen [] [] 2 0 (qHl v13) (ON v13) [26,27] [1])) (wU (K:=(kx E 30 0)) (b:=false) ⟨[(26,vo 1 0 1 v11.length),(27,vi v9.2)],[(1,ro 0 3 1 v11.length (rf qA v11))]⟩ (opAt (rg f15 3913) 4) [] [] 2 (o1 (ki v11.length)) rfl (qKL v11 v9.2 v13 h14) (.inr ⟨(by kernel_rfl),qMt v13⟩) (by kernel_rfl))] 1 [3,5,6] [(3,vo 2 0 1 v13.length)] [0] [(2,ro 0 3 1 v13.length (rf qA v13))] ?_
   exact q_wu [] [.swp 2 0] o0 3 [3,4] [(3,vo 0 0 1 v13.length),(4,vi (w64 (x6+1)))] [2] [(0,ro 0 3 1 v13.length (rf qA v13))] (q_hl (HJ a1 v13 v13.length (w64 (x6+1))) (ih v13 v13.length (w64 (x6+1)) _ rfl hm))
  ·refine q_ex 0 ?_;obtain rfl:=oi hm;exact q_l0
theorem qM2 (a1:List Product) (r:(List Int)) (hm:FN a1=some r):CtX Tryz.prog globs 15 0 0 [.one (tl qH du a1)] [] (qO7 r) (qP5 r):=by
 unfold FN at hm;refine q_E f15 30 λE=>?_;refine s_vn [] 0 ⟨[(0,vc (tl qH du a1))],[]⟩ (q_sq ?_);obtain⟨v2,h3,hm⟩:=qB hm;refine s_vv [qc 1 [7] 0 (GZ a1 v2 h3)] 0 [] [(9,vb (v2 !=0))] (q_cq hm (λhm=>?_) (λhm=>?_))
 ·refine s_vn [] 0 ⟨[(2,vc (.emp))],[]⟩ (q_fn [.own 2 0 3 1 (rf qA [])] ⟨[(2,vo 0 0 1 0)],[(0,ro 0 3 1 0 (rf qA []))]⟩ o0 ?_);refine q_fn [.len 0 (([]:List Int).length)] ⟨[(2,vo 0 0 1 (([]:List Int).length))],[(0,ro 0 3 1 (([]:List Int).length) (rf qA []))]⟩ (o1 (And.intro (show 0=([]:List Int).length from rfl) (show 0=([]:List Int).length from rfl))) ?_;obtain rfl:=oi hm;exact q_rt q_rm
 ·refine q_sk (s_vv [] 0 [9] [(3,vc (.emp))] ?_);refine q_sq (s_va 0 [(4,vi 0)] ?_);refine q_fo 3 0 3 1 qA ?_;obtain⟨o16,h17,hm⟩:=qB hm;refine zF (nd f15 244) 0 (by kernel_rfl) FUEL qC0 o16 (q_hl (HJ a1 ([]:List Int) 0 0) (qJq E a1 FUEL ([]:List Int) 0 0 o16 rfl h17)) (s_vv [] 1 [3] [(2,vo 0 0 1 o16.length)] ?_);obtain rfl:=oi hm;exact q_rt q_rm
def qWb (r:Line):V:=va [ci r.Len,ci r.Kerf,ci r.Pitch,.own 0 0 1 r.Sizes.length,.own 1 0 1 r.Gain.length,.own 2 0 1 r.Chip.length,.own 3 0 1 r.Dust.length]
def qWf (r:Line):List (Nat×(Nat×O)):=[(0,ro 0 3 1 r.Sizes.length (rf qA r.Sizes)),(1,ro 0 28 1 r.Gain.length (rf (qM qA) r.Gain)),(2,ro 0 3 1 r.Chip.length (rf qA r.Chip)),(3,ro 0 3 1 r.Dust.length (rf qA r.Dust))]
def PD (a1:List qC) (a2:List qF) (a3:List Product) (a4:Rect) (a5:Saw) (a6:Rates) (v7:(List Int)) (x9:Int) (l10:List (List Int)):St:=
 ⟨[(0,vc (tl qL du a1)),(1,vc (tl qP du a2)),(2,vc (tl qH du a3)),(9,vp 0 0),(10,vp 1 0),(11,vp 2 0),(12,vp 3 0),(13,vp 5 0),(14,vi x9)],[(0,bx 33 (qO a4)),(1,bx 38 (zW a5)),(2,bx 40 (zN a6)),(3,bx 84 [ci 0,ci 0,ci 0,.emp,.emp,.emp,.emp]),(4,ro 0 3 1 v7.length (rf qA v7)),(5,bx 84 [ci (w64 (a4.Y.B-a4.Y.A)),ci a5.Kerf,ci 1,.own 4 0 1 v7.length,.own 6 0 1 l10.length,.emp,.emp]),(6,ro 0 28 1 l10.length (rf (qM qA) l10))]⟩
def IX (v7:(List Int)):St:=
 ⟨[(12,vp 3 0),(13,vp 5 0)],[(3,bx 84 [ci 0,ci 0,ci 0,.emp,.emp,.emp,.emp]),(4,ro 0 3 1 v7.length (rf qA v7))]⟩
def qQA (a1:List qC) (a2:List qF) (a3:List Product) (a4:Rect) (a5:Saw) (a6:Rates) (v7:(List Int)) (x9:Int) (l10:List (List Int)) (l12:List Int) (x13:Int) (x27:Int):St:=
 (PD a1 a2 a3 a4 a5 a6 v7 x9 l10).up [] [(15,vo 7 0 1 l12.length),(16,vi x13),(17,vi x27)] [] [(7,ro 0 3 1 l12.length (rf qA l12))]
def qQn (a1:List qC) (a2:List qF) (a3:List Product) (a4:Rect) (a5:Saw) (a6:Rates) (v7:(List Int)) (x9:Int) (l10:List (List Int)) (l12:List Int) (x13:Int) (v20:(List Node)×Int×Int) (x25:Bool):St:=
 (PD a1 a2 a3 a4 a5 a6 v7 x9 l10).up [] [(15,vo 7 0 1 l12.length),(16,vi x13),(17,vi (-1)),(19,vi v20.2.1),(84,vb x25)] [] [(7,ro 0 3 1 l12.length (rf qA l12))]
def qBK (a1:List qC) (a2:List qF) (a3:List Product) (a4:Rect) (a5:Saw) (a6:Rates) (v7:(List Int)) (x9:Int) (l10:List (List Int)) (l12:List Int) (l12n:Nat) (x13:Int):St:=
 (PD a1 a2 a3 a4 a5 a6 v7 x9 l10).up [] [(15,vo 7 0 1 l12n),(16,vi x13)] [] [(7,ro 0 3 1 l12n (rf qA l12))]
def qF6 (a1:List qC) (a2:List qF) (a3:List Product) (a4:Rect) (a5:Saw) (a6:Rates) (v7:(List Int)) (x9:Int) (l10:List (List Int)) (l29:List Int):St:=
 (PD a1 a2 a3 a4 a5 a6 v7 x9 l10).up [] [(15,vo 7 0 1 l29.length)] [] [(7,ro 0 3 1 l29.length (rf qA l29))]
def qA1 (a1:List qC) (a2:List qF) (a3:List Product) (a4:Rect) (a5:Saw) (a6:Rates) (v7:(List Int)) (x9:Int) (l10:List (List Int)) (l10n:Nat):St:=
 (PD a1 a2 a3 a4 a5 a6 v7 x9 l10).up [] [] [5,6] [(5,bx 84 [ci (w64 (a4.Y.B-a4.Y.A)),ci a5.Kerf,ci 1,.own 4 0 1 v7.length,.own 6 0 1 l10n,.emp,.emp]),(6,ro 0 28 1 l10n (rf (qM qA) l10))]
def qGx (a1:List qC) (a4:Rect) (a5:Saw) (a6:Rates) (v7:(List Int)) (l33:List (List Int)):St:=
 (IX v7).up [] [(0,vc (tl qL du a1)),(9,vp 0 0),(11,vp 2 0)] [] [(0,bx 33 (qO a4)),(2,bx 40 (zN a6)),(5,bx 84 [ci (w64 (a4.Y.B-a4.Y.A)),ci a5.Kerf,ci 1,.own 4 0 1 v7.length,.own 6 0 1 l33.length,.emp,.emp]),(6,ro 0 28 1 l33.length (rf (qM qA) l33))]
def qAR (a1:List qC) (a4:Rect) (a5:Saw) (a6:Rates) (v7:(List Int)) (o34:(List (List Int))) (x36:Int) (l37:List Int) (l37n:Nat) (l38:List Int) (l38n:Nat):St:=
 (IX v7).up [] [(0,vc (tl qL du a1)),(9,vp 0 0),(11,vp 2 0),(21,vi x36)] [] [(0,bx 33 (qO a4)),(2,bx 40 (zN a6)),(5,bx 84 [ci (w64 (a4.Y.B-a4.Y.A)),ci a5.Kerf,ci 1,.own 4 0 1 v7.length,.own 6 0 1 o34.length,.own 7 0 1 l37n,.own 8 0 1 l38n]),(6,ro 0 28 1 o34.length (rf (qM qA) o34)),(7,ro 0 3 1 l37n (rf qA l37)),(8,ro 0 3 1 l38n (rf qA l38))]
def qFP (a4:Rect) (a5:Saw) (v7:(List Int)) (o34:(List (List Int))) (l46:List Int) (l47:List Int):St:=
 (IX v7).up [] [] [] [(5,bx 84 [ci (w64 (a4.Y.B-a4.Y.A)),ci a5.Kerf,ci 1,.own 4 0 1 v7.length,.own 6 0 1 o34.length,.own 7 0 1 l46.length,.own 8 0 1 l47.length]),(6,ro 0 28 1 o34.length (rf (qM qA) o34)),(7,ro 0 3 1 l46.length (rf qA l46)),(8,ro 0 3 1 l47.length (rf qA l47))]
theorem qMK (E:Env 0) (a1:List qC) (a2:List qF) (a3:List Product) (a4:Rect) (a5:Saw) (a6:Rates) (v7:(List Int)) (x9:Int) (l10:List (List Int)):∀(n:Nat) (l12:List Int) (l12n:Nat) (x13:Int) (res:(List Int)),l12.length=l12n->yI a1 a2 a3 a4 a5 a6 v7 x9 n l12 x13=some res->HL (kx E 128 0) (nd f43 29844) (zL 2 (λo=>qF6 a1 a2 a3 a4 a5 a6 v7 x9 l10 o) res) n (qBK a1 a2 a3 a4 a5 a6 v7 x9 l10 l12 l12n x13):=by
 intro n
 induction n with
 |zero=>
  intro l12 l12n x13 res hl0 hm;cases hm
 |succ n ih=>
  intro l12 l12n x13 res hl0 hm;subst hl0;refine qT (q_sq ?_);obtain⟨g14,hm⟩:=qI hm;refine s_du [qi 4 g14,qd 5 dN (qV (zC g14))] [0,0,2,0,14,30,63,0,128,511] 8 [] [(51,vb (decide ((w64 (x13+(v7.getD x9.toNat du)))<=(w64 (a4.Y.B-a4.Y.A)))))] [] [] (q_cq hm (λhm=>?_) (λhm=>?_))
  ·refine q_sk (q_sq ?_);refine q_bk 3 (s_vv [] 8 [51] [(17,vi (-1))] ?_);refine q_jn (qQA a1 a2 a3 a4 a5 a6 v7 x9 l10 l12 x13) (λp=>FQ l12 x13 (yI a1 a2 a3 a4 a5 a6 v7 x9 n) p=some res) ?_ ?_
   ·rintro x27 hm;obtain⟨g28,hm⟩:=qI hm;refine q_vu [qd 2 (drw 9 0 (rf qA [x27])) (litP qA du 1 (λ_=>rfl) ([x27]:List Int) 1 rfl),qd 3 (drw 7 1 (rf qA (l12++[x27]))) (apP qA du l12 ([x27]:List Int) l12.length 1 1 8 (1<=1) (ki _) rfl rfl (λ_=>rfl) (zI g28))] 9 [15,17] [(15,vo 7 1 1 (l12.length+1))] [7] [(7,ro 1 3 1 (l12.length+1) (rf qA (l12++[x27])))] (q_vv [] 10 [16] [(16,vi (w64 (x13+1)))] ?_);exact q_hl (qBK a1 a2 a3 a4 a5 a6 v7 x9 l10 (l12++[x27]) (l12.length+1) (w64 (x13+1))) (ih (l12++[x27]) (l12.length+1) (w64 (x13+1)) _ (zE rfl rfl) hm)
   ·obtain⟨g16,hm⟩:=qI hm;refine s_vv [qd 3 dN (AP g16)] 8 [] [(58,vb ((Int.tmod x13 a5.Pitch)==0))] (q_cq hm (λhm=>?_) (λhm=>?_))
    ·obtain⟨v18,h19,hm⟩:=qB hm;obtain⟨v20,h21,hm⟩:=qB hm;refine s_du [qi 9 g14,qd 10 dN (qV (zC g14)),qc 12 [63,64,71] 8 (qB7 a4 x13 (w64 (x13+(v7.getD x9.toNat du))) v18 h19),qc 15 [60,61,62,72,73,74] 8 (qJg a1 a2 a3 v18 a5 a6 v20 h21)] [0,0,0,0,0,0,0,64,0,448,960,2016,4088,0,0,32767,65535,131071,131071,131071,262143,1572863,4194303] 8 [58] [(18,vo 8 0 2 v20.1.length),(19,vi v20.2.1),(20,vi v20.2.2)] [] [(8,ro 0 65 2 v20.1.length (rf qE v20.1))] (q_jn (qQn a1 a2 a3 a4 a5 a6 v7 x9 l10 l12 x13 v20) (λp=>CF l12 x13 (yI a1 a2 a3 a4 a5 a6 v7 x9 n) v20 p=some res) ?_ ?_)
     ·rintro x25 hm;refine q_cq hm (λhm=>?_) (λhm=>?_)
      ·exact q_vv [] 9 [17,19,84] [(17,vi v20.2.1)] (q_J (v20.2.1) hm)
      ·exact q_sk (q_J ((-1)) hm)
     ·rcases bif_c hm with⟨b22,hm⟩|⟨b22,hm⟩
      ·obtain⟨v23,h24,hm⟩:=qB hm;exact q_vu [qf 2 b22,qd 4 (dex (cen [] [] 9 0 (ED v23) (RK v23) [81,82] [8])) (wU (K:=(kx E 128 0)) (b:=false) ⟨[(81,vb true),(82,vo 8 0 2 v20.1.length)],[(8,ro 0 65 2 v20.1.length (rf qE v20.1))]⟩ (opAt (rg f43 15280426) 4) [] [] 9 (o1 (ki v20.1.length)) rfl (qOS v20.1 v23 h24) (.inr ⟨(by kernel_rfl),qSw v23⟩) (by kernel_rfl))] 9 [18,20] [(84,vb v23)] [8] [] (q_J (v23) hm)
      ·exact q_vu [qf 2 b22] 9 [18,20] [(84,vb false)] [8] [] (q_J (false) hm)
    ·exact q_sk (q_J ((-1)) hm)
  ·refine q_ex 2 ?_;obtain rfl:=oi hm;exact q_l0
theorem qMW (E:Env 0) (a1:List qC) (a2:List qF) (a3:List Product) (a4:Rect) (a5:Saw) (a6:Rates) (v7:(List Int)):∀(n:Nat) (x9:Int) (l10:List (List Int)) (l10n:Nat) (res:(List (List Int))),l10.length=l10n->TS a1 a2 a3 a4 a5 a6 v7 n x9 l10=some res->HL (kx E 128 0) (nd f43 116) (zL 0 (λo=>qGx a1 a4 a5 a6 v7 o) res) n (qA1 a1 a2 a3 a4 a5 a6 v7 x9 l10 l10n):=by
 intro n
 induction n with
 |zero=>
  intro x9 l10 l10n res hl0 hm;cases hm
 |succ n ih=>
  intro x9 l10 l10n res hl0 hm;subst hl0;refine qT (q_sq ?_);refine s_va 7 [(39,vb (decide (x9<(v7.length:Int))))] (q_cq hm (λhm=>?_) (λhm=>?_))
  ·refine q_sk (q_sq ?_);refine q_bk 1 (s_vv [] 7 [39] [(15,vc (.emp))] ?_);refine q_sq (s_va 7 [(16,vi 0)] ?_);refine q_fo 15 7 3 1 qA ?_;obtain⟨o30,h31,hm⟩:=qB hm;refine zF (nd f43 29844) 2 (by kernel_rfl) FUEL (λo=>qF6 a1 a2 a3 a4 a5 a6 v7 x9 l10 o) o30 (q_hl (qBK a1 a2 a3 a4 a5 a6 v7 x9 l10 ([]:List Int) 0 0) (qMK E a1 a2 a3 a4 a5 a6 v7 x9 l10 FUEL ([]:List Int) 0 0 o30 rfl h31)) ?_;obtain⟨g32,hm⟩:=qI hm
   refine q_vu [qd 3 (dpr [.frz 7] (drw 8 0 (rf (qM qA) [o30]))) (And.intro (ki o30.length) (ki o30.length)),qd 3 dN (litP (qM qA) du 1 (λ_=>rfl) ([o30]:List (List Int)) 1 rfl),qd 4 (drw 6 1 (rf (qM qA) (l10++[o30]))) (apP (qM qA) du l10 ([o30]:List (List Int)) l10.length 1 1 24 (1<=1) (ki _) rfl rfl (λ_=>rfl) (zI g32))] 8 [15] [] [5,6,7] [(5,bx 84 [ci (w64 (a4.Y.B-a4.Y.A)),ci a5.Kerf,ci 1,.own 4 0 1 v7.length,.own 6 1 1 (l10.length+1),.emp,.emp]),(6,ro 1 28 1 (l10.length+1) (rf (qM qA) (l10++[o30])))] (q_vv [] 9 [14] [(14,vi (w64 (x9+1)))] ?_)
   exact q_hl (qA1 a1 a2 a3 a4 a5 a6 v7 (w64 (x9+1)) (l10++[o30]) (l10.length+1)) (ih (w64 (x9+1)) (l10++[o30]) (l10.length+1) _ (zE rfl rfl) hm)
  ·refine q_ex 0 ?_;obtain rfl:=oi hm;exact q_l0
theorem qNK (E:Env 0) (a1:List qC) (a4:Rect) (a5:Saw) (a6:Rates) (v7:(List Int)) (o34:(List (List Int))):∀(n:Nat) (x36:Int) (l37:List Int) (l37n:Nat) (l38:List Int) (l38n:Nat) (res:(List Int)×(List Int)),l37.length=l37n->l38.length=l38n->UB a1 a4 a6 n x36 l37 l38=some res->HL (kx E 128 0) (nd f43 244) (zL 4 (λo=>qFP a4 a5 v7 o34 o.1 o.2) res) n (qAR a1 a4 a5 a6 v7 o34 x36 l37 l37n l38 l38n):=by
 intro n
 induction n with
 |zero=>
  intro x36 l37 l37n l38 l38n res hl0 hl1 hm;cases hm
 |succ n ih=>
  intro x36 l37 l37n l38 l38n res hl0 hl1 hm;subst hl0;subst hl1;refine qT (q_sq ?_);refine s_va 9 [(99,vb (decide (x36<(w64 (a4.Y.B-a4.Y.A)))))] (q_cq hm (λhm=>?_) (λhm=>?_))
  ·refine q_sk (q_sq ?_);refine q_bk 5 ?_;obtain⟨v40,h41,hm⟩:=qB hm;obtain⟨v42,h43,hm⟩:=qB hm;refine s_vv [qc 5 [103,104,106] 9 (qB7 a4 x36 (w64 (x36+1)) v40 h41),qc 6 [102,107] 9 (qF3 a1 v40 v42 h43)] 9 [99] [(22,vi v42)] ?_;obtain⟨g44,hm⟩:=qI hm
   refine s_vu [qd 6 (drw 9 0 (rf qA [w64 (a6.Chip*v42)])) (litP qA du 1 (λ_=>rfl) ([w64 (a6.Chip*v42)]:List Int) 1 rfl),qd 7 (drw 7 1 (rf qA (l37++[w64 (a6.Chip*v42)]))) (apP qA du l37 ([w64 (a6.Chip*v42)]:List Int) l37.length 1 1 8 (1<=1) (ki _) rfl rfl (λ_=>rfl) (zI g44))] 9 [] [] [5,7] [(5,bx 84 [ci (w64 (a4.Y.B-a4.Y.A)),ci a5.Kerf,ci 1,.own 4 0 1 v7.length,.own 6 0 1 o34.length,.own 7 1 1 (l37.length+1),.own 8 0 1 l38.length]),(7,ro 1 3 1 (l37.length+1) (rf qA (l37++[w64 (a6.Chip*v42)])))] ?_;obtain⟨g45,hm⟩:=qI hm
   refine q_vu [qd 6 (drw 10 0 (rf qA [w64 (a6.Dust*v42)])) (litP qA du 1 (λ_=>rfl) ([w64 (a6.Dust*v42)]:List Int) 1 rfl),qd 7 (drw 8 1 (rf qA (l38++[w64 (a6.Dust*v42)]))) (apP qA du l38 ([w64 (a6.Dust*v42)]:List Int) l38.length 1 1 8 (1<=1) (ki _) rfl rfl (λ_=>rfl) (zI g45))] 10 [22] [] [5,8] [(5,bx 84 [ci (w64 (a4.Y.B-a4.Y.A)),ci a5.Kerf,ci 1,.own 4 0 1 v7.length,.own 6 0 1 o34.length,.own 7 1 1 (l37.length+1),.own 8 1 1 (l38.length+1)]),(8,ro 1 3 1 (l38.length+1) (rf qA (l38++[w64 (a6.Dust*v42)])))] (q_vv [] 11 [21] [(21,vi (w64 (x36+1)))] ?_)
   exact q_hl (qAR a1 a4 a5 a6 v7 o34 (w64 (x36+1)) (l37++[w64 (a6.Chip*v42)]) (l37.length+1) (l38++[w64 (a6.Dust*v42)]) (l38.length+1)) (ih (w64 (x36+1)) (l37++[w64 (a6.Chip*v42)]) (l37.length+1) (l38++[w64 (a6.Dust*v42)]) (l38.length+1) _ (zE rfl rfl) (zE rfl rfl) hm)
  ·refine q_ex 4 ?_;obtain rfl:=oi hm;exact q_l0
theorem qUk (a1:List qC) (a2:List qF) (a3:List Product) (a4:Rect) (a5:Saw) (a6:Rates) (r:Line) (hm:qBF a1 a2 a3 a4 a5 a6=some r):CtX Tryz.prog globs 43 0 0 [.one (tl qL du a1),.one (tl qP du a2),.one (tl qH du a3),.agg (qO a4),.agg (zW a5),.agg (zN a6)] [] (qWb r) (qWf r):=by
 unfold qBF at hm;refine q_E f43 128 λE=>?_;refine s_vn [] 0 ⟨[(0,vc (tl qL du a1)),(1,vc (tl qP du a2)),(2,vc (tl qH du a3)),(9,vp 0 0),(10,vp 1 0),(11,vp 2 0),(12,vp 3 0)],[(0,bx 33 (qO a4)),(1,bx 38 (zW a5)),(2,bx 40 (zN a6)),(3,bx 84 [ci 0,ci 0,ci 0,.emp,.emp,.emp,.emp])]⟩ ?_;obtain⟨v7,h8,hm⟩:=qB hm;refine s_du [qc 10 [32] 4 (qM2 a3 v7 h8)] [0,1,3,0,8,24,63,0,128,0,512,2047,0,8191] 4 [] [(13,vp 5 0)] [] [(4,ro 0 3 1 v7.length (rf qA v7)),(5,bx 84 [ci (w64 (a4.Y.B-a4.Y.A)),ci a5.Kerf,ci 1,.own 4 0 1 v7.length,.emp,.emp,.emp])] (q_sq ?_)
 refine s_va 6 [(14,vi 0)] (q_fu [.ownB 5 4 6 28 1 (rf (qM qA) [])] [] [] [5] [(5,bx 84 [ci (w64 (a4.Y.B-a4.Y.A)),ci a5.Kerf,ci 1,.own 4 0 1 v7.length,.own 6 0 1 0,.emp,.emp]),(6,ro 0 28 1 0 (rf (qM qA) []))] o0 ?_);obtain⟨o34,h35,hm⟩:=qB hm;refine zF (nd f43 116) 0 (by kernel_rfl) FUEL (λo=>qGx a1 a4 a5 a6 v7 o) o34 (q_hl (qA1 a1 a2 a3 a4 a5 a6 v7 0 ([]:List (List Int)) 0) (qMW E a1 a2 a3 a4 a5 a6 v7 FUEL 0 ([]:List (List Int)) 0 o34 rfl h35)) (q_sq ?_)
 refine s_va 7 [(21,vi 0)] (q_fu [.ownB 5 5 7 3 1 (rf qA [])] [] [] [5] [(5,bx 84 [ci (w64 (a4.Y.B-a4.Y.A)),ci a5.Kerf,ci 1,.own 4 0 1 v7.length,.own 6 0 1 o34.length,.own 7 0 1 0,.emp]),(7,ro 0 3 1 0 (rf qA []))] o0 ?_);refine q_fu [.ownB 5 6 8 3 1 (rf qA [])] [] [] [5] [(5,bx 84 [ci (w64 (a4.Y.B-a4.Y.A)),ci a5.Kerf,ci 1,.own 4 0 1 v7.length,.own 6 0 1 o34.length,.own 7 0 1 0,.own 8 0 1 0]),(8,ro 0 3 1 0 (rf qA []))] o0 ?_;obtain⟨o48,h49,hm⟩:=qB hm
 refine zF (nd f43 244) 4 (by kernel_rfl) FUEL (λo=>qFP a4 a5 v7 o34 o.1 o.2) o48 (q_hl (qAR a1 a4 a5 a6 v7 o34 0 ([]:List Int) 0 ([]:List Int) 0) (qNK E a1 a4 a5 a6 v7 o34 FUEL 0 ([]:List Int) 0 ([]:List Int) 0 o48 rfl rfl h49)) (s_vu [] 9 [13] [] [3,5] [(3,bx 84 [ci (w64 (a4.Y.B-a4.Y.A)),ci a5.Kerf,ci 1,.own 4 0 1 v7.length,.own 6 0 1 o34.length,.own 7 0 1 o48.1.length,.own 8 0 1 o48.2.length])] ?_);obtain rfl:=oi hm;refine q_sw 4 0 (q_sw 6 1 ?_);refine q_sw 7 2 (q_sw 8 3 ?_);exact q_rt q_rm
open Go.Proofs Go.Proofs.Tryz
def qWG (r:Int):V:=vi r
def qWL (r:Int):List (Nat×(Nat×O)):=[]
def qAZ (v2:qQ) (x4:Int) (x5:Int):St:=
 ⟨[(1,vp 0 0),(3,vi x4),(4,vi x5)],[(0,bx 70 (zQ v2))]⟩
def qGf (x8:Int):St:=
 ⟨[(3,vi x8)],[]⟩
theorem qNZ (E:Env 0) (v2:qQ):∀(n:Nat) (x4:Int) (x5:Int) (res:Int),TT v2 n x4 x5=some res->HL (kx E 31 0) (nd f101 244) (zL 0 qGf res) n (qAZ v2 x4 x5):=by
 intro n
 induction n with
 |zero=>
  intro x4 x5 res hm;cases hm
 |succ n ih=>
  intro x4 x5 res hm;refine qT (q_sq ?_);refine s_va 1 [(11,vb (decide (x5<(v2.Rows.length:Int))))] (q_cq hm (λhm=>?_) (λhm=>?_))
  ·refine q_sk (q_sq ?_);refine q_bk 1 ?_;obtain⟨g7,hm⟩:=qI hm;refine q_du [qi 4 g7,qi 10 g7] [0,0,2,0,14,30,62,0,128,0,896,1920,3968,8190,16382,32767,65535] 1 [3,11] [(3,vi (w64 (x4+(w64 (10*(w64 (((v2.Rows.getD x5.toNat du).B)-((v2.Rows.getD x5.toNat du).A))))))))] [] [] (q_vv [] 1 [4] [(4,vi (w64 (x5+1)))] ?_);exact q_hl (qAZ v2 (w64 (x4+(w64 (10*(w64 (((v2.Rows.getD x5.toNat du).B)-((v2.Rows.getD x5.toNat du).A))))))) (w64 (x5+1))) (ih (w64 (x4+(w64 (10*(w64 (((v2.Rows.getD x5.toNat du).B)-((v2.Rows.getD x5.toNat du).A))))))) (w64 (x5+1)) _ hm)
  ·refine q_ex 0 ?_;obtain rfl:=oi hm;exact q_l0
theorem qUf (a1:qQ) (r:Int) (hm:qBB a1=some r):CtX Tryz.prog globs 101 0 0 [.agg (zQ a1)] [] (qWG r) (qWL r):=by
 unfold qBB at hm;refine q_E f101 31 λE=>?_;refine s_vn [] 0 ⟨[(1,vp 0 0)],[(0,bx 70 (zQ a1))]⟩ (s_va 1 [(3,vi 0)] ?_);obtain⟨v2,h3,hm⟩:=qB hm;refine s_vu [qc 1 [5] 1 (qHH a1 v2 h3)] 1 [] [] [0] [(0,bx 70 (zQ v2))] (q_sq ?_);refine s_va 1 [(4,vi 0)] ?_;obtain⟨o9,h10,hm⟩:=qB hm;refine zF (nd f101 244) 0 (by kernel_rfl) FUEL qGf o9 (q_hl (qAZ v2 0 0) (qNZ E v2 FUEL 0 0 o9 h10)) (s_vn [] 1 ⟨[(2,vi o9)],[]⟩ ?_);obtain rfl:=oi hm;exact q_rt q_rm
def qSo (r:Int):V:=vi r
def qQU (r:Int):List (Nat×(Nat×O)):=[]
def IB (a1:List qC) (x5:Int) (x6:Int):St:=
 ⟨[(0,vc (tl qL du a1)),(3,vi x5),(4,vi x6)],[]⟩
def qEq (x11:Int):St:=
 ⟨[(3,vi x11)],[]⟩
theorem qKH (E:Env 0) (a1:List qC):∀(n:Nat) (x5:Int) (x6:Int) (res:Int),KH a1 n x5 x6=some res->HL (kx E 29 0) (nd f48 244) (zL 0 qEq res) n (IB a1 x5 x6):=by
 intro n
 induction n with
 |zero=>
  intro x5 x6 res hm;cases hm
 |succ n ih=>
  intro x5 x6 res hm;refine qT (q_sq ?_);refine s_va 0 [(11,vb (decide (x6<(a1.length:Int))))] (q_cq hm (λhm=>?_) (λhm=>?_))
  ·refine q_sk (q_sq ?_);refine q_bk 1 ?_;obtain⟨g8,hm⟩:=qI hm;obtain⟨v9,h10,hm⟩:=qB hm;refine q_du [qi 3 g8,qi 8 g8,qc 11 [24] 0 (qUf ((a1.getD x6.toNat du).Sec) v9 h10)] [0,0,0,6,14,30,0,0,192,448,960,1984,4094,8191,16383] 0 [3,11] [(3,vi (w64 (x5+(w64 (((a1.getD x6.toNat du).Len)*v9)))))] [] [] (q_vv [] 0 [4] [(4,vi (w64 (x6+1)))] ?_);exact q_hl (IB a1 (w64 (x5+(w64 (((a1.getD x6.toNat du).Len)*v9)))) (w64 (x6+1))) (ih (w64 (x5+(w64 (((a1.getD x6.toNat du).Len)*v9)))) (w64 (x6+1)) _ hm)
  ·refine q_ex 0 ?_;obtain rfl:=oi hm;exact q_l0
theorem qON (a1:List qC) (r:Int) (hm:HR a1=some r):CtX Tryz.prog globs 48 0 0 [.one (tl qL du a1)] [] (qSo r) (qQU r):=by
 unfold HR at hm;refine q_E f48 29 λE=>?_;refine s_vn [] 0 ⟨[(0,vc (tl qL du a1))],[]⟩ (q_sq ?_);obtain⟨v2,h3,hm⟩:=qB hm;refine s_vv [qc 1 [5] 0 (jG a1 v2 h3)] 0 [] [(7,vb (v2 !=0))] (q_cq hm (λhm=>?_) (λhm=>?_))
 ·refine s_vn [] 0 ⟨[(2,vi 0)],[]⟩ ?_;obtain rfl:=oi hm;exact q_rt q_rm
 ·refine q_sk (s_vv [] 0 [7] [(3,vi 0)] ?_);refine q_sq (s_va 0 [(4,vi 0)] ?_);obtain⟨o12,h13,hm⟩:=qB hm;refine zF (nd f48 244) 0 (by kernel_rfl) FUEL qEq o12 (q_hl (IB a1 0 0) (qKH E a1 FUEL 0 0 o12 h13)) (s_vn [] 0 ⟨[(2,vi o12)],[]⟩ ?_);obtain rfl:=oi hm;exact q_rt q_rm
def qWl (r:qN×Int×Int):V:= .tup [.agg [ci r.1.Frame.X.A,ci r.1.Frame.X.B,ci r.1.Frame.Y.A,ci r.1.Frame.Y.B,.own 0 0 2 r.1.Nodes.length],.one (ci r.2.1),.one (ci r.2.2)]
def qUU (r:qN×Int×Int):List (Nat×(Nat×O)):=[(0,ro 0 65 2 r.1.Nodes.length (rf qE r.1.Nodes))]
def qBe (a1:List qC) (a2:List qF) (a3:List Product) (a4:Rect) (a5:Saw) (a6:Rates) (v10:Line) (v12:(List qX)×Int×Int) (l14:List Span) (l14n:Nat) (l15:List (List Node)) (l15n:Nat) (x16:Int):St:=
 ⟨[(0,vc (tl qL du a1)),(1,vc (tl qP du a2)),(2,vc (tl qH du a3)),(9,vp 0 0),(10,vp 1 0),(11,vp 2 0),(12,vp 3 0),(16,vp 8 0),(17,vo 9 0 2 v12.1.length),(18,vi v12.2.1),(20,vo 10 0 2 l14n),(21,vo 11 0 1 l15n),(22,vi x16)],[(0,bx 33 (qO a4)),(1,bx 38 (zW a5)),(2,bx 40 (zN a6)),(3,bx 46 [ci 0,ci 0,ci 0,ci 0,.emp]),(4,ro 0 3 1 v10.Sizes.length (rf qA v10.Sizes)),(5,ro 0 28 1 v10.Gain.length (rf (qM qA) v10.Gain)),(6,ro 0 3 1 v10.Chip.length (rf qA v10.Chip)),(7,ro 0 3 1 v10.Dust.length (rf qA v10.Dust)),(8,bx 84 [ci v10.Len,ci v10.Kerf,ci v10.Pitch,.own 4 0 1 v10.Sizes.length,.own 5 0 1 v10.Gain.length,.own 6 0 1 v10.Chip.length,.own 7 0 1 v10.Dust.length]),(9,ro 0 92 2 v12.1.length (rf zY v12.1)),(10,ro 0 31 2 l14n (rf qG l14)),(11,ro 0 44 1 l15n (rf (qM qE) l15))]⟩
def qF7 (a1:List qC) (a4:Rect) (a5:Saw) (a6:Rates) (v12:(List qX)×Int×Int) (l26:List Span) (l27:List (List Node)):St:=
 ⟨[(0,vc (tl qL du a1)),(9,vp 0 0),(10,vp 1 0),(11,vp 2 0),(12,vp 3 0),(18,vi v12.2.1),(20,vo 10 0 2 l26.length),(21,vo 11 0 1 l27.length)],[(0,bx 33 (qO a4)),(1,bx 38 (zW a5)),(2,bx 40 (zN a6)),(3,bx 46 [ci 0,ci 0,ci 0,ci 0,.emp]),(10,ro 0 31 2 l26.length (rf qG l26)),(11,ro 0 44 1 l27.length (rf (qM qE) l27))]⟩
theorem qNC (E:Env 0) (a1:List qC) (a2:List qF) (a3:List Product) (a4:Rect) (a5:Saw) (a6:Rates) (v10:Line) (v12:(List qX)×Int×Int):∀(n:Nat) (l14:List Span) (l14n:Nat) (l15:List (List Node)) (l15n:Nat) (x16:Int) (res:(List Span)×(List (List Node))),l14.length=l14n->l15.length=l15n->TZ a1 a2 a3 a4 a5 a6 v10 v12 n l14 l15 x16=some res->HL (kx E 127 0) (nd f20 2036) (zL 0 (λo=>qF7 a1 a4 a5 a6 v12 o.1 o.2) res) n (qBe a1 a2 a3 a4 a5 a6 v10 v12 l14 l14n l15 l15n x16):=by
 intro n
 induction n with
 |zero=>
  intro l14 l14n l15 l15n x16 res hl0 hl1 hm;cases hm
 |succ n ih=>
  intro l14 l14n l15 l15n x16 res hl0 hl1 hm;subst hl0;subst hl1;refine qT (q_sq ?_);refine s_va 12 [(56,vb (decide (x16<(v12.1.length:Int))))] (q_cq hm (λhm=>?_) (λhm=>?_))
  ·refine q_sk (q_sq ?_);refine q_bk 1 ?_;obtain⟨g18,hm⟩:=qI hm;obtain⟨g19,hm⟩:=qI hm;obtain⟨v20,h21,hm⟩:=qB hm;refine s_du [qi 3 g18,qd 5 dN (qV (zC g18)),qi 8 g18,qd 10 dN (qV (zC g18)),qi 15 g18,qd 17 dN (qV (zC g18)),qi 18 g19,qd 19 dN (qV (zC g19)),qc 21 [59,64,79] 12 (qB7 a4 ((v12.1.getD x16.toNat du).At) (w64 (((v12.1.getD x16.toNat du).At)+(v10.Sizes.getD (((v12.1.getD x16.toNat du).Size).toNat) du))) v20 h21)] [0,0,0,6,14,30,0,0,192,448,960,0,2048,0,0,24576,57344,122880,260096,522240,1048512,2097151,0,8388607] 12 [56] [(23,vp 12 0)] [] [(12,bx 33 (qO v20))] ?_
   obtain⟨v22,h23,hm⟩:=qB hm;refine s_vu [qc 6 [82,83,84,85,86,87] 13 (qJg a1 a2 a3 v20 a5 a6 v22 h23)] 13 [] [(24,vo 13 0 2 v22.1.length)] [] [(13,ro 0 65 2 v22.1.length (rf qE v22.1))] ?_;obtain⟨g24,hm⟩:=qI hm;refine s_vu [qd 3 (drw 14 0 (rf qG [v20.Y])) (litP qG du 2 (λ_=>rfl) ([v20.Y]:List Span) 1 rfl),qd 4 (drw 10 1 (rf qG (l14++[v20.Y]))) (apP qG du l14 ([v20.Y]:List Span) l14.length 1 2 16 (1<=1) (ki _) rfl rfl (λ_=>rfl) (zI g24))] 14 [20,23] [(20,vo 10 1 2 (l14.length+1))] [10,12] [(10,ro 1 31 2 (l14.length+1) (rf qG (l14++[v20.Y])))] ?_;obtain⟨g25,hm⟩:=qI hm
   refine q_vu [qd 2 (dpr [.frz 13] (drw 15 0 (rf (qM qE) [v22.1]))) (And.intro (ki v22.1.length) (ki v22.1.length)),qd 2 dN (litP (qM qE) du 1 (λ_=>rfl) ([v22.1]:List (List Node)) 1 rfl),qd 3 (drw 11 1 (rf (qM qE) (l15++[v22.1]))) (apP (qM qE) du l15 ([v22.1]:List (List Node)) l15.length 1 1 24 (1<=1) (ki _) rfl rfl (λ_=>rfl) (zI g25))] 15 [21,24] [(21,vo 11 1 1 (l15.length+1))] [11,13] [(11,ro 1 44 1 (l15.length+1) (rf (qM qE) (l15++[v22.1])))] (q_vv [] 16 [22] [(22,vi (w64 (x16+1)))] ?_)
   exact q_hl (qBe a1 a2 a3 a4 a5 a6 v10 v12 (l14++[v20.Y]) (l14.length+1) (l15++[v22.1]) (l15.length+1) (w64 (x16+1))) (ih (l14++[v20.Y]) (l14.length+1) (l15++[v22.1]) (l15.length+1) (w64 (x16+1)) _ (zE rfl rfl) (zE rfl rfl) hm)
  ·refine q_ex 0 ?_;obtain rfl:=oi hm;exact q_l0
theorem qUu (a1:List qC) (a2:List qF) (a3:List Product) (a4:Rect) (a5:Saw) (a6:Rates) (r:qN×Int×Int) (hm:AT a1 a2 a3 a4 a5 a6=some r):CtX Tryz.prog globs 20 0 0 [.one (tl qL du a1),.one (tl qP du a2),.one (tl qH du a3),.agg (qO a4),.agg (zW a5),.agg (zN a6)] [] (qWl r) (qUU r):=by
 unfold AT at hm;refine q_E f20 127 λE=>?_;refine s_vn [] 0 ⟨[(0,vc (tl qL du a1)),(1,vc (tl qP du a2)),(2,vc (tl qH du a3)),(9,vp 0 0),(10,vp 1 0),(11,vp 2 0),(12,vp 3 0)],[(0,bx 33 (qO a4)),(1,bx 38 (zW a5)),(2,bx 40 (zN a6)),(3,bx 46 [ci 0,ci 0,ci 0,ci 0,.emp])]⟩ (q_sq ?_);obtain⟨v7,h8,hm⟩:=qB hm;refine s_vv [qc 6 [29,30,31,32,33,34] 4 (qRw a1 a2 a3 a4 a5 a6 v7 h8)] 4 [] [(15,vi v7)] (s_va 4 [(37,vb (v7 !=0))] ?_);refine q_cq hm (λhm=>?_) (λhm=>?_)
 ·refine s_vu [] 4 [0,1,2,9,10,11,15,37] [(13,vi 0),(14,vi v7)] [0,1,2] [] (q_fu [.ownB 3 4 4 65 2 (rf qE [])] [] [] [3] [(3,bx 46 [ci 0,ci 0,ci 0,ci 0,.own 4 0 2 0]),(4,ro 0 65 2 0 (rf qE []))] o0 ?_);refine q_fu [.len 4 (([]:List Node).length)] [] [] [3,4] [(3,bx 46 [ci 0,ci 0,ci 0,ci 0,.own 4 0 2 (([]:List Node).length)]),(4,ro 0 65 2 (([]:List Node).length) (rf qE []))] (o1 (And.intro (show 0=([]:List Node).length from rfl) (show 0=([]:List Node).length from rfl))) ?_;obtain rfl:=oi hm;exact q_sw 4 0 (q_rt q_rm)
 ·refine q_sk ?_;obtain⟨v10,h11,hm⟩:=qB hm;refine s_vu [qc 6 [40,41,42,43,44,45] 4 (qUk a1 a2 a3 a4 a5 a6 v10 h11)] 4 [15,37] [(16,vp 8 0)] [] [(4,ro 0 3 1 v10.Sizes.length (rf qA v10.Sizes)),(5,ro 0 28 1 v10.Gain.length (rf (qM qA) v10.Gain)),(6,ro 0 3 1 v10.Chip.length (rf qA v10.Chip)),(7,ro 0 3 1 v10.Dust.length (rf qA v10.Dust)),(8,bx 84 [ci v10.Len,ci v10.Kerf,ci v10.Pitch,.own 4 0 1 v10.Sizes.length,.own 5 0 1 v10.Gain.length,.own 6 0 1 v10.Chip.length,.own 7 0 1 v10.Dust.length])] ?_;obtain⟨v12,h13,hm⟩:=qB hm
  refine s_vu [qd 1 (dex (cen [] [] 9 0 (qE0 v12) (MV v12) [48] [4,5,6,7])) (wU (K:=(kx E 127 0)) (b:=false) ⟨[(48,va [ci v10.Len,ci v10.Kerf,ci v10.Pitch,.own 4 0 1 v10.Sizes.length,.own 5 0 1 v10.Gain.length,.own 6 0 1 v10.Chip.length,.own 7 0 1 v10.Dust.length])],[(4,ro 0 3 1 v10.Sizes.length (rf qA v10.Sizes)),(5,ro 0 28 1 v10.Gain.length (rf (qM qA) v10.Gain)),(6,ro 0 3 1 v10.Chip.length (rf qA v10.Chip)),(7,ro 0 3 1 v10.Dust.length (rf qA v10.Dust))]⟩ (opAt (rg f20 30) 1) [] [] 9 (o1 (And.intro (ki v10.Sizes.length) (And.intro (ki v10.Gain.length) (And.intro (ki v10.Chip.length) (ki v10.Dust.length))))) rfl (qJf (Line.mk v10.Len v10.Kerf v10.Pitch v10.Sizes v10.Gain v10.Chip v10.Dust) v12 h13) (.inr ⟨(by kernel_rfl),qJN v12⟩) (by kernel_rfl))] 9 [] [(17,vo 9 0 2 v12.1.length),(18,vi v12.2.1)] [] [(9,ro 0 92 2 v12.1.length (rf zY v12.1))] ?_
  refine s_va 10 [(20,vc (.emp))] (s_va 10 [(21,vc (.emp))] ?_);refine q_sq (s_va 10 [(22,vi 0)] ?_);refine q_fo 20 10 31 2 qG (q_fo 21 11 44 1 (qM qE) ?_);obtain⟨o28,h29,hm⟩:=qB hm;refine zF (nd f20 2036) 0 (by kernel_rfl) FUEL (λo=>qF7 a1 a4 a5 a6 v12 o.1 o.2) o28 (q_hl (qBe a1 a2 a3 a4 a5 a6 v10 v12 ([]:List Span) 0 ([]:List (List Node)) 0 0) (qNC E a1 a2 a3 a4 a5 a6 v10 v12 FUEL ([]:List Span) 0 ([]:List (List Node)) 0 0 o28 rfl rfl h29)) ?_;obtain⟨v30,h31,hm⟩:=qB hm
  refine s_vu [qd 5 (dex (cen [] [] 12 0 (OI v30) (VT v30) [102,104,105,106] [10,11])) (wU (K:=(kx E 127 0)) (b:=false) ⟨[(102,va (qO a4)),(104,vi a5.Kerf),(105,vo 10 0 2 o28.1.length),(106,vo 11 0 1 o28.2.length)],[(10,ro 0 31 2 o28.1.length (rf qG o28.1)),(11,ro 0 44 1 o28.2.length (rf (qM qE) o28.2))]⟩ (opAt (rg f20 510) 5) [] [] 12 (o1 (And.intro (ki o28.1.length) (ki o28.2.length))) rfl (qKY a4 3 a5.Kerf o28.1 o28.2 v30 h31) (.inr ⟨(by kernel_rfl),qMD v30⟩) (by kernel_rfl))] 12 [10,20,21] [(27,vo 12 0 2 v30.1.length),(28,vi v30.2)] [1,10,11] [(12,ro 0 65 2 v30.1.length (rf qE v30.1))] (q_sq ?_)
  refine s_vv [] 13 [28] [(111,vb (v30.2 !=0))] (q_cq hm (λhm=>?_) (λhm=>?_))
  ·refine s_vu [] 13 [0,9,11,18,27,111] [(13,vi 0),(14,vi 13)] [0,2,12] [] (q_fu [.ownB 3 4 13 65 2 (rf qE [])] [] [] [3] [(3,bx 46 [ci 0,ci 0,ci 0,ci 0,.own 13 0 2 0]),(13,ro 0 65 2 0 (rf qE []))] o0 ?_);refine q_fu [.len 13 (([]:List Node).length)] [] [] [3,13] [(3,bx 46 [ci 0,ci 0,ci 0,ci 0,.own 13 0 2 (([]:List Node).length)]),(13,ro 0 65 2 (([]:List Node).length) (rf qE []))] (o1 (And.intro (show 0=([]:List Node).length from rfl) (show 0=([]:List Node).length from rfl))) ?_;obtain rfl:=oi hm;exact q_sw 13 0 (q_rt q_rm)
  ·refine q_sk ?_;obtain⟨v33,h34,hm⟩:=qB hm;obtain⟨v35,h36,hm⟩:=qB hm;refine s_du [qc 7 [119] 13 (qON a1 v33 h34),qc 10 [121,122] 13 (qF3 a1 a4 v35 h36)] [0,0,3,0,0,16,0,64,0,0,960,1984,4080,8184,1991,32767,65535] 13 [0,9,11,18,27,111] [(13,vi (w64 (v12.2.1+(w64 (a6.Chip*(w64 (v33-v35))))))),(14,vi 0)] [0,2,3] [(3,bx 46 [ci a4.X.A,ci a4.X.B,ci a4.Y.A,ci a4.Y.B,.own 12 0 2 v30.1.length])] ?_;obtain rfl:=oi hm;exact q_sw 12 0 (q_rt q_rm)
end Saw
end Go.SL

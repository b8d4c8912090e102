import Derived.Test.YtigmogcdifllhaaGreatDoorEBase
import Derived.Test.YtigmogcdifllhaaGreatDoorEFa3
import Derived.Test.YtigmogcdifllhaaGreatDoorEFa2
set_option linter.unusedVariables false
set_option linter.unusedSimpArgs false
namespace Go.SL
namespace Saw
open Go.Proofs Go.Proofs.Tryz
set_option maxHeartbeats 4000000
set_option maxRecDepth 100000
def qFi (r:(List qA)):V:=vo 0 0 2 r.length
def MQ (r:(List qA)):List (Nat×(Nat×O)):=[(0,ro 0 93 2 r.length (rf qF r))]
theorem qJ6 (r:(List qA)):ZE (MQ r):=by
 intro i k o h;unfold MQ at h;rw[look_cons] at h;split at h
 ·cases h;exact λ_ _=>rfl
 ·cases h
def VK (a1:List qA) (x3:Int):St:=
 ⟨[(5,vp 1 0),(6,vc (tl qF dd a1)),(7,vi (a1.length:Int)),(8,vi x3)],[(1,bx 93 (qF (a1.getD x3.toNat dd)))]⟩
def qPL (a1:List qA) (x3:Int) (l6:List qA) (x12:Bool):St:=
 (VK a1 x3).up [] [(3,vo 0 0 2 l6.length),(31,vb x12)] [] [(0,ro 0 93 2 l6.length (rf qF l6))]
def qAB (a1:List qA) (x3:Int) (l6:List qA) (l6n:Nat):St:=
 (VK a1 x3).up [] [(3,vo 0 0 2 l6n)] [] [(0,ro 0 93 2 l6n (rf qF l6))]
def qFJ (a1:List qA) (x3:Int) (l15:List qA):St:=
 (VK a1 x3).up [] [(3,vo 0 0 2 l15.length)] [] [(0,ro 0 93 2 l15.length (rf qF l15))]
def qAI (a1:List qA) (l2:List qA) (l2n:Nat) (x3:Int):St:=
 (VK a1 x3).up [5] [(3,vo 0 0 2 l2n)] [1] [(0,ro 0 93 2 l2n (rf qF l2))]
def qGz (l19:List qA):St:=
 ⟨[(3,vo 0 0 2 l19.length)],[(0,ro 0 93 2 l19.length (rf qF l19))]⟩
theorem qNL (E:Env 0) (a1:List qA) (x3:Int):∀(n:Nat) (l6:List qA) (l6n:Nat) (res:(List qA)),l6.length=l6n->KJ a1 x3 n l6=some res->HL (kx E 47 0) (nd f233 29896) (zL 2 (λo=>qFJ a1 x3 o) res) n (qAB a1 x3 l6 l6n):=by
 intro n
 induction n with
 |zero=>
  intro l6 l6n res hl0 hm;cases hm
 |succ n ih=>
  intro l6 l6n res hl0 hm;subst hl0;refine qS (q_sq ?_);refine q_jn (qPL a1 x3 l6) (λp=>IS l6 (KJ a1 x3 n) p=some res) ?_ ?_
  ·rintro x12 hm;refine q_cq hm (λhm=>?_) (λhm=>?_)
   ·refine q_sk (q_bk 3 ?_);obtain⟨g14,hm⟩:=qJ hm
    exact q_wu [qd 4 dN (And.intro (zU g14).2.1 (zU g14).2.2)] [.row 0 ((w64 ((l6.length:Int)-1)).toNat) (rf qF (l6.take ((w64 ((l6.length:Int)-1)).toNat)))] (o1 (tkP qF dd l6 l6.length ((w64 ((l6.length:Int)-1)).toNat) (show(w64 ((l6.length:Int)-1)).toNat<=l6.length by have:=(zU g14);omega))) 2 [3,31] [(3,vo 0 0 2 ((w64 ((l6.length:Int)-1)).toNat))] [0] [(0,ro 0 93 2 ((w64 ((l6.length:Int)-1)).toNat) (rf qF (l6.take ((w64 ((l6.length:Int)-1)).toNat))))] (q_hl (qAB a1 x3 (l6.take ((w64 ((l6.length:Int)-1)).toNat)) ((w64 ((l6.length:Int)-1)).toNat)) (ih (l6.take ((w64 ((l6.length:Int)-1)).toNat)) ((w64 ((l6.length:Int)-1)).toNat) _ (PY rfl (show(w64 ((l6.length:Int)-1)).toNat<=l6.length by have:=(zU g14);omega)) hm))
   ·refine q_ex 2 ?_;obtain rfl:=oi hm;exact q_l0
  ·rcases bif_c hm with⟨b7,hm⟩|⟨b7,hm⟩
   ·obtain⟨g8,hm⟩:=qJ hm;obtain⟨g9,hm⟩:=qJ hm;obtain⟨v10,h11,hm⟩:=qC hm
    exact q_du [qf 3 b7,qi 8 g8,qd 9 dN (qW (zC g8)),qi 14 g9,qd 15 dN (qW (zC g9)),qk 17 [15,21,27,28] 2 ⟨[(15,vb true),(21,va [ci ((l6.getD ((w64 ((l6.length:Int)-2)).toNat) dd).X),ci ((l6.getD ((w64 ((l6.length:Int)-2)).toNat) dd).Y)]),(27,va [ci ((l6.getD ((w64 ((l6.length:Int)-1)).toNat) dd).X),ci ((l6.getD ((w64 ((l6.length:Int)-1)).toNat) dd).Y)]),(28,va [ci ((a1.getD x3.toNat dd).X),ci ((a1.getD x3.toNat dd).Y)])],[]⟩ (qTe (l6.getD ((w64 ((l6.length:Int)-2)).toNat) dd) (l6.getD ((w64 ((l6.length:Int)-1)).toNat) dd) (a1.getD x3.toNat dd) v10 h11)] [0,1,3,7,15,15,47,111,255,511,15,15,2063,6159,15375,31759,15,131071,262143,524287] 2 [] [(31,vb (decide (v10<=0)))] [] [] (q_J (decide (v10<=0)) hm)
   ·exact q_du [qf 3 b7] [0,1,3,7,15,15,47,111,255,511,15,15,2063,6159,15375,31759,15,131071,262143,524287] 2 [] [(31,vb false)] [] [] (q_J (false) hm)
theorem qNQ (E:Env 0) (a1:List qA):∀(n:Nat) (l2:List qA) (l2n:Nat) (x3:Int) (res:(List qA)),l2.length=l2n->NH a1 n l2 x3=some res->HL (kx E 47 0) (nd f233 116) (zL 0 qGz res) n (qAI a1 l2 l2n x3):=by
 intro n
 induction n with
 |zero=>
  intro l2 l2n x3 res hl0 hm;cases hm
 |succ n ih=>
  intro l2 l2n x3 res hl0 hm;subst hl0;refine qS (s_va 1 [(9,vb (decide (x3<(a1.length:Int))))] ?_);refine q_sq (q_cq hm (λhm=>?_) (λhm=>?_))
  ·refine q_sk (q_sq ?_);refine q_bk 1 ?_;obtain⟨g5,hm⟩:=qJ hm;refine s_vu [qi 0 g5] 1 [9] [(5,vp 1 0)] [] [(1,bx 93 (qF (a1.getD x3.toNat dd)))] (q_sq ?_);obtain⟨o16,h17,hm⟩:=qC hm;refine zG (nd f233 29896) 2 (by kernel_rfl) FUEL (λo=>qFJ a1 x3 o) o16 (q_hl (qAB a1 x3 l2 l2.length) (qNL E a1 x3 FUEL l2 l2.length o16 rfl h17)) ?_;obtain⟨g18,hm⟩:=qJ hm
   refine q_vu [qd 2 (drw 2 0 (rf qF [(a1.getD x3.toNat dd)])) (litP qF dd 2 (λ_=>rfl) ([(a1.getD x3.toNat dd)]:List qA) 1 rfl),qd 3 (drw 0 1 (rf qF (o16++[(a1.getD x3.toNat dd)]))) (apP qF dd o16 ([(a1.getD x3.toNat dd)]:List qA) o16.length 1 2 16 (1<=1) (ke _) rfl rfl (λ_=>rfl) (wA g18))] 2 [3,5] [(3,vo 0 1 2 (o16.length+1))] [0,1] [(0,ro 1 93 2 (o16.length+1) (rf qF (o16++[(a1.getD x3.toNat dd)])))] (q_vv [] 3 [8] [(8,vi (w64 (x3+1)))] ?_)
   exact q_hl (qAI a1 (o16++[(a1.getD x3.toNat dd)]) (o16.length+1) (w64 (x3+1))) (ih (o16++[(a1.getD x3.toNat dd)]) (o16.length+1) (w64 (x3+1)) _ (wB rfl rfl) hm)
  ·refine q_ex 0 ?_;obtain rfl:=oi hm;exact q_l0
theorem qJf (a1:List qA) (r:(List qA)) (hm:SE a1=some r):CtX Tryz.prog globs 233 0 0 [.one (tl qF dd a1)] [] (qFi r) (MQ r):=by
 unfold SE at hm;refine q_E f233 47 λE=>?_;refine s_vn [] 0 ⟨[(0,vc (tl qF dd a1))],[]⟩ (s_va 0 [(3,vc (.emp))] ?_);refine q_sq (s_vv [] 0 [0] [(6,vc (tl qF dd a1)),(7,vi (a1.length:Int)),(8,vi 0)] ?_);refine q_fo 3 0 93 2 qF ?_;obtain⟨o20,h21,hm⟩:=qC hm;refine zG (nd f233 116) 0 (by kernel_rfl) FUEL qGz o20 (q_hl (qAI a1 ([]:List qA) 0 0) (qNQ E a1 FUEL ([]:List qA) 0 0 o20 rfl h21)) ?_;obtain⟨g22,hm⟩:=qJ hm
 refine s_wn [qd 4 dN (And.intro (zU g22).2.1 (zU g22).2.2)] [.row 0 ((w64 ((o20.length:Int)-1)).toNat) (rf qF (o20.take ((w64 ((o20.length:Int)-1)).toNat)))] (o1 (tkP qF dd o20 o20.length ((w64 ((o20.length:Int)-1)).toNat) (show(w64 ((o20.length:Int)-1)).toNat<=o20.length by have:=(zU g22);omega))) 1 ⟨[(2,vo 0 0 2 ((w64 ((o20.length:Int)-1)).toNat))],[(0,ro 0 93 2 ((w64 ((o20.length:Int)-1)).toNat) (rf qF (o20.take ((w64 ((o20.length:Int)-1)).toNat))))]⟩ ?_
 refine q_fn [.len 0 ((o20.take ((w64 ((o20.length:Int)-1)).toNat)).length)] ⟨[(2,vo 0 0 2 ((o20.take ((w64 ((o20.length:Int)-1)).toNat)).length))],[(0,ro 0 93 2 ((o20.take ((w64 ((o20.length:Int)-1)).toNat)).length) (rf qF (o20.take ((w64 ((o20.length:Int)-1)).toNat))))]⟩ (o1 (And.intro (Eq.symm (show(o20.take ((w64 ((o20.length:Int)-1)).toNat)).length=(w64 ((o20.length:Int)-1)).toNat from(PY rfl (show(w64 ((o20.length:Int)-1)).toNat<=o20.length by have:=(zU g22);omega)))) (Eq.symm (show(o20.take ((w64 ((o20.length:Int)-1)).toNat)).length=(w64 ((o20.length:Int)-1)).toNat from(PY rfl (show(w64 ((o20.length:Int)-1)).toNat<=o20.length by have:=(zU g22);omega)))))) ?_
 obtain rfl:=oi hm;exact q_rt q_rm
def EA (a1:List qA) (r:(List qA)):V:= .undef
def SY (a1:List qA) (r:(List qA)):List (Nat×(Nat×O)):=[(0,ro 0 93 2 r.length (rf qF r))]
def KK (l2:List qA) (l2n:Nat) (x3:Int) (x4:Int):St:=
 ⟨[(0,vo 0 0 2 l2n),(2,vi x3),(3,vi x4)],[(0,ro 0 93 2 l2n (rf qF l2))]⟩
def NA (l8:List qA):St:=
 ⟨[],[(0,ro 0 93 2 l8.length (rf qF l8))]⟩
theorem qCS (E:Env 1):∀(n:Nat) (l2:List qA) (l2n:Nat) (x3:Int) (x4:Int) (res:(List qA)),l2.length=l2n->QL n l2 x3 x4=some res->HL (kx E 28 1) (nd f234 12) (zL 0 NA res) n (KK l2 l2n x3 x4):=by
 intro n
 induction n with
 |zero=>
  intro l2 l2n x3 x4 res hl0 hm;cases hm
 |succ n ih=>
  intro l2 l2n x3 x4 res hl0 hm;subst hl0;refine qS (q_sq ?_);refine s_va 1 [(9,vb (decide (x3<x4)))] (q_cq hm (λhm=>?_) (λhm=>?_))
  ·refine q_sk (q_sq ?_);refine q_bk 1 ?_;obtain⟨g6,hm⟩:=qJ hm;obtain⟨g7,hm⟩:=qJ hm
   refine q_du [qi 6 g6,qd 7 dN (qW (zC g6)),qi 10 g7,qd 11 dN (qW (zC g7)),qi 12 g7,qd 13 (drw 0 0 (rf qF (l2.set x3.toNat (l2.getD x4.toNat dd)))) (stP qF dd (l2.getD x4.toNat dd) l2 l2.length x3.toNat 0 [ci ((l2.getD x4.toNat dd).X),ci ((l2.getD x4.toNat dd).Y)] rfl (qW (zC g7)) rfl),qi 14 g6,qd 15 (drw 0 0 (rf qF ((l2.set x3.toNat (l2.getD x4.toNat dd)).set x4.toNat (l2.getD x3.toNat dd)))) (stP qF dd (l2.getD x3.toNat dd) (l2.set x3.toNat (l2.getD x4.toNat dd)) l2.length x4.toNat 0 [ci ((l2.getD x3.toNat dd).X),ci ((l2.getD x3.toNat dd).Y)] (QC rfl) (qW (zC g6)) rfl)] [0,0,0,0,0,0,48,112,0,0,768,1792,4083,8179,16383,32767] 1 [9] [] [0] [(0,ro 0 93 2 l2.length (rf qF ((l2.set x3.toNat (l2.getD x4.toNat dd)).set x4.toNat (l2.getD x3.toNat dd))))] ?_
   exact q_vv [] 1 [2,3] [(2,vi (w64 (x3+1))),(3,vi (w64 (x4-1)))] (q_hl (KK ((l2.set x3.toNat (l2.getD x4.toNat dd)).set x4.toNat (l2.getD x3.toNat dd)) l2.length (w64 (x3+1)) (w64 (x4-1))) (ih ((l2.set x3.toNat (l2.getD x4.toNat dd)).set x4.toNat (l2.getD x3.toNat dd)) l2.length (w64 (x3+1)) (w64 (x4-1)) _ (QC (QC rfl)) hm))
  ·refine q_ex 0 ?_;obtain rfl:=oi hm;exact q_l0
theorem qFk (a1:List qA) (r:(List qA)) (hm:WG a1=some r):CtX Tryz.prog globs 234 1 1 [.one (.own 0 0 2 a1.length)] [(0,ro 0 93 2 a1.length (rf qF a1))] (EA a1 r) (SY a1 r):=by
 unfold WG at hm;refine q_E f234 28 λE=>?_;refine s_vn [] 1 ⟨[(0,vo 0 0 2 a1.length),(2,vi 0),(3,vi (w64 ((a1.length:Int)-1)))],[(0,ro 0 93 2 a1.length (rf qF a1))]⟩ ?_;obtain⟨o9,h10,hm⟩:=qC hm;refine zG (nd f234 12) 0 (by kernel_rfl) FUEL NA o9 (q_hl (KK a1 a1.length 0 (w64 ((a1.length:Int)-1))) (qCS E FUEL a1 a1.length 0 (w64 ((a1.length:Int)-1)) o9 rfl h10)) ?_;obtain rfl:=oi hm;exact q_rm
def qWr (r:(List qA)):V:=vo 0 0 2 r.length
def qWt (r:(List qA)):List (Nat×(Nat×O)):=[(0,ro 0 93 2 r.length (rf qF r))]
def qRs (a1:List qA) (x6:Bool):St:=
 ⟨[(0,vc (tl qF dd a1)),(17,vb x6)],[]⟩
theorem qVP (a1:List qA) (r:(List qA)) (hm:qC8 a1=some r):CtX Tryz.prog globs 201 0 0 [.one (tl qF dd a1)] [] (qWr r) (qWt r):=by
 unfold qC8 at hm;refine q_E f201 36 λE=>?_;refine s_vn [] 0 ⟨[(0,vc (tl qF dd a1))],[]⟩ (q_sq ?_);refine q_jn (qRs a1) (λp=>HJ a1 p=some r) ?_ ?_
 ·rintro x6 hm;refine q_cq hm (λhm=>?_) (λhm=>?_)
  ·refine s_vn [] 0 ⟨[(2,vc (.emp))],[]⟩ (q_fn [.own 2 0 93 2 (rf qF [])] ⟨[(2,vo 0 0 2 0)],[(0,ro 0 93 2 0 (rf qF []))]⟩ o0 ?_);refine q_fn [.len 0 (([]:List qA).length)] ⟨[(2,vo 0 0 2 (([]:List qA).length))],[(0,ro 0 93 2 (([]:List qA).length) (rf qF []))]⟩ (o1 (And.intro (show 0=([]:List qA).length from rfl) (show 0=([]:List qA).length from rfl))) ?_;obtain rfl:=oi hm;exact q_rt q_rm
  ·refine q_sk ?_;obtain⟨v8,h9,hm⟩:=qC hm;refine s_vn [qc 1 [18] 0 (qGS a1 v8 h9)] 0 ⟨[(3,vo 0 0 2 v8.length)],[(0,ro 0 93 2 v8.length (rf qF v8))]⟩ ?_;obtain⟨v10,h11,hm⟩:=qC hm;obtain⟨g12,hm⟩:=qJ hm
   refine s_wu [qd 1 (dex (cen [(0,0)] [0] 0 1 (LB v8 v10) (LT v8 v10) [20] [0])) (wK (K:=(kx E 36 0)) ⟨[(20,vo 0 0 2 v8.length)],[(0,ro 0 93 2 v8.length (rf qF v8))]⟩ (opAt (rg f201 30) 1) [(0,0)] [0] 0 o0 rfl (qEp v8 v10 h11) (.inl rfl) (by kernel_rfl))] [.len 0 v8.length] (o1 (And.intro (And.intro (Eq.refl v8.length) (Eq.refl v8.length)) (And.intro (AD g12) (Eq.refl v8.length)))) 1 [] [] [0] [(0,ro 0 93 2 v8.length (rf qF v10))] ?_;obtain⟨v13,h14,hm⟩:=qC hm
   refine s_vn [qd 1 (dpr [.len 0 v10.length] (dex (cen [(0,0)] [0] 0 1 (JR v10 v13) (JS v10 v13) [22] [0]))) (And.intro (And.intro (Eq.symm (show v10.length=v8.length from(AD g12))) (Eq.symm (show v10.length=v8.length from(AD g12)))) (Eq.symm (show v10.length=v8.length from(AD g12)))),qd 1 dN (wK (K:=(kx E 36 0)) ⟨[(22,vo 0 0 2 v10.length)],[(0,ro 0 93 2 v10.length (rf qF v10))]⟩ (opAt (rg f201 62) 1) [(0,0)] [0] 0 o0 rfl (qEN v10 v13 h14) (.inl rfl) (by kernel_rfl))] 1 ⟨[(3,vo 0 0 2 v13.2.length)],[(0,ro 0 93 2 v13.2.length (rf qF v13.2))]⟩ ?_;obtain⟨v15,h16,hm⟩:=qC hm
   refine s_vu [qd 1 (dex (cen [] [] 1 0 (qFi v15) (MQ v15) [24] [0])) (wK (K:=(kx E 36 0)) (b:=false) ⟨[(24,vo 0 0 2 v13.2.length)],[(0,ro 0 93 2 v13.2.length (rf qF v13.2))]⟩ (opAt (rg f201 126) 1) [] [] 1 (o1 (ke v13.2.length)) rfl (qJf v13.2 v15 h16) (.inr ⟨(by kernel_rfl),qJ6 v15⟩) (by kernel_rfl))] 1 [] [(4,vo 1 0 2 v15.length)] [] [(1,ro 0 93 2 v15.length (rf qF v15))] ?_;obtain⟨v17,h18,hm⟩:=qC hm;obtain⟨g19,hm⟩:=qJ hm
   refine s_wu [qd 1 (dex (cen [(0,0)] [0] 1 1 (EA v13.2 v17) (SY v13.2 v17) [26] [0])) (wK (K:=(kx E 36 0)) ⟨[(26,vo 0 0 2 v13.2.length)],[(0,ro 0 93 2 v13.2.length (rf qF v13.2))]⟩ (opAt (rg f201 254) 1) [(0,0)] [0] 1 o0 rfl (qFk v13.2 v17 h18) (.inl rfl) (by kernel_rfl))] [.len 0 v13.2.length] (o1 (And.intro (And.intro (Eq.refl v13.2.length) (Eq.refl v13.2.length)) (And.intro (AD g19) (Eq.refl v13.2.length)))) 2 [] [] [0] [(0,ro 0 93 2 v13.2.length (rf qF v17))] ?_;obtain⟨v20,h21,hm⟩:=qC hm;obtain⟨g22,hm⟩:=qJ hm
   refine s_vn [qd 2 (dex (cen [] [] 2 0 (qFi v20) (MQ v20) [29] [0])) (wK (K:=(kx E 36 0)) (xs':=[.one (.lst v13.2.length (rf qF v17))]) (b:=false) ⟨[(29,vo 0 0 2 v13.2.length)],[(0,ro 0 93 2 v13.2.length (rf qF v17))]⟩ (opAt (rg f201 510) 2) [] [] 2 (o1 (ke v13.2.length)) (by simp only[tl,rf,show v17.length=v13.2.length from(AD g19)]) (qJf v17 v20 h21) (.inr ⟨(by kernel_rfl),qJ6 v20⟩) (by kernel_rfl)),qd 3 (drw 1 1 (rf qF (v15++v20))) (apP qF dd v15 v20 v15.length v20.length 2 16 (v20.length<=v20.length) (ke _) rfl rfl (λ_=>rfl) (wA g22))] 2 ⟨[(4,vo 1 1 2 (v15.length+v20.length))],[(1,ro 1 93 2 (v15.length+v20.length) (rf qF (v15++v20)))]⟩ (q_sq ?_)
   refine s_va 3 [(34,vb (decide ((((v15.length+v20.length):Nat):Int)<3)))] (q_cq hm (λhm=>?_) (λhm=>?_))
   ·refine s_vn [] 3 ⟨[(2,vc (.emp))],[]⟩ (q_fn [.own 2 3 93 2 (rf qF [])] ⟨[(2,vo 3 0 2 0)],[(3,ro 0 93 2 0 (rf qF []))]⟩ o0 ?_);refine q_fn [.len 3 (([]:List qA).length)] ⟨[(2,vo 3 0 2 (([]:List qA).length))],[(3,ro 0 93 2 (([]:List qA).length) (rf qF []))]⟩ (o1 (And.intro (show 0=([]:List qA).length from rfl) (show 0=([]:List qA).length from rfl))) ?_;obtain rfl:=oi hm;exact q_sw 3 0 (q_rt q_rm)
   ·refine q_sk (s_vv [] 3 [4,34] [(2,vo 1 1 2 (v15.length+v20.length))] ?_);refine q_fn [.len 1 ((v15++v20).length)] ⟨[(2,vo 1 1 2 ((v15++v20).length))],[(1,ro 1 93 2 ((v15++v20).length) (rf qF (v15++v20)))]⟩ (o1 (And.intro (Eq.symm (show(v15++v20).length=(v15.length+v20.length) from(wB rfl rfl))) (Eq.symm (show(v15++v20).length=(v15.length+v20.length) from(wB rfl rfl))))) ?_;obtain rfl:=oi hm;exact q_sw 1 0 (q_rt q_rm)
 ·rcases bif_c hm with⟨b2,hm⟩|⟨b2,hm⟩
  ·exact q_vv [qf 3 b2] 0 [] [(17,vb true)] (q_J (true) hm)
  ·rcases bif_c hm with⟨b3,hm⟩|⟨b3,hm⟩
   ·exact q_vv [qf 3 b2,qf 8 b3] 0 [] [(17,vb true)] (q_J (true) hm)
   ·obtain⟨v4,h5,hm⟩:=qC hm;exact q_vv [qf 3 b2,qf 8 b3,qk 10 [13,14] 0 ⟨[(13,vb false),(14,vc (tl qF dd a1))],[]⟩ (qAw a1 v4 h5)] 0 [] [(17,vb (!v4))] (q_J (!v4) hm)
open Go.Proofs Go.Proofs.Tryz
def qJr (r:Rect):V:=va (qT r)
def IU (r:Rect):List (Nat×(Nat×O)):=[]
theorem qSr (r:Rect):ZE (IU r):=by
 intro i k o h;unfold IU at h;cases h
def OP (a1:List qA) (x4:Int) (x5:Rect):St:=
 ⟨[(2,vp 0 0),(3,vp 1 0),(29,vc (tl qF dd a1)),(30,vi (a1.length:Int)),(31,vi x4)],[(0,bx 55 [ci 0,ci 0,ci 0,ci 0]),(1,bx 55 (qT x5))]⟩
def qEU (x8:Rect):St:=
 ⟨[(2,vp 0 0),(3,vp 1 0)],[(0,bx 55 [ci 0,ci 0,ci 0,ci 0]),(1,bx 55 (qT x8))]⟩
theorem qLI (E:Env 0) (a1:List qA):∀(n:Nat) (x4:Int) (x5:Rect) (res:Rect),GN a1 n x4 x5=some res->HL (kx E 65 0) (nd f202 244) (zL 0 qEU res) n (OP a1 x4 x5):=by
 intro n
 induction n with
 |zero=>
  intro x4 x5 res hm;cases hm
 |succ n ih=>
  intro x4 x5 res hm;refine qS (s_va 2 [(32,vb (decide (x4<(a1.length:Int))))] ?_);refine q_sq (q_cq hm (λhm=>?_) (λhm=>?_))
  ·refine q_sk (q_sq ?_);refine q_bk 1 ?_;obtain⟨g7,hm⟩:=qJ hm;refine s_vu [qi 0 g7] 2 [32] [(5,vp 2 0)] [] [(2,bx 93 (qF (a1.getD x4.toNat dd)))] (s_vu [] 3 [] [] [1] [(1,bx 55 [ci (imin x5.X.A ((a1.getD x4.toNat dd).X)),ci (imax x5.X.B ((a1.getD x4.toNat dd).X)),ci x5.Y.A,ci x5.Y.B])] ?_);refine q_vu [] 3 [5] [] [1,2] [(1,bx 55 [ci (imin x5.X.A ((a1.getD x4.toNat dd).X)),ci (imax x5.X.B ((a1.getD x4.toNat dd).X)),ci (imin x5.Y.A ((a1.getD x4.toNat dd).Y)),ci (imax x5.Y.B ((a1.getD x4.toNat dd).Y))])] (q_vv [] 3 [31] [(31,vi (w64 (x4+1)))] ?_)
   exact q_hl (OP a1 (w64 (x4+1)) (Rect.mk (Span.mk (imin x5.X.A ((a1.getD x4.toNat dd).X)) (imax x5.X.B ((a1.getD x4.toNat dd).X))) (Span.mk (imin x5.Y.A ((a1.getD x4.toNat dd).Y)) (imax x5.Y.B ((a1.getD x4.toNat dd).Y))))) (ih (w64 (x4+1)) (Rect.mk (Span.mk (imin x5.X.A ((a1.getD x4.toNat dd).X)) (imax x5.X.B ((a1.getD x4.toNat dd).X))) (Span.mk (imin x5.Y.A ((a1.getD x4.toNat dd).Y)) (imax x5.Y.B ((a1.getD x4.toNat dd).Y)))) _ hm)
  ·refine q_ex 0 ?_;obtain rfl:=oi hm;exact q_l0
theorem qRz (a1:List qA) (r:Rect) (hm:AI a1=some r):CtX Tryz.prog globs 202 0 0 [.one (tl qF dd a1)] [] (qJr r) (IU r):=by
 unfold AI at hm;refine q_E f202 65 λE=>?_;refine s_vn [] 0 ⟨[(0,vc (tl qF dd a1)),(2,vp 0 0)],[(0,bx 55 [ci 0,ci 0,ci 0,ci 0])]⟩ (q_sq ?_);refine s_va 1 [(8,vb ((a1.length:Int)==0))] (q_cq hm (λhm=>?_) (λhm=>?_))
 ·refine s_vv [] 1 [0,8] [] ?_;obtain rfl:=oi hm;exact q_rt q_rm
 ·refine q_sk ?_;obtain⟨g3,hm⟩:=qJ hm;refine s_du [qi 1 g3,qi 5 g3,qi 10 g3,qi 14 g3] [0,1,3,7,0,16,48,112,255,0,512,1536,3584,0,8192,24576,57344,130560,262143,0,1048575] 1 [8] [(3,vp 1 0)] [] [(1,bx 55 [ci ((a1.getD (0:Int).toNat dd).X),ci ((a1.getD (0:Int).toNat dd).X),ci ((a1.getD (0:Int).toNat dd).Y),ci ((a1.getD (0:Int).toNat dd).Y)])] (q_sq ?_);refine s_vv [] 2 [0] [(29,vc (tl qF dd a1)),(30,vi (a1.length:Int)),(31,vi 0)] ?_;obtain⟨o9,h10,hm⟩:=qC hm
  refine zG (nd f202 244) 0 (by kernel_rfl) FUEL qEU o9 (q_hl (OP a1 0 (Rect.mk (Span.mk ((a1.getD (0:Int).toNat dd).X) ((a1.getD (0:Int).toNat dd).X)) (Span.mk ((a1.getD (0:Int).toNat dd).Y) ((a1.getD (0:Int).toNat dd).Y)))) (qLI E a1 FUEL 0 (Rect.mk (Span.mk ((a1.getD (0:Int).toNat dd).X) ((a1.getD (0:Int).toNat dd).X)) (Span.mk ((a1.getD (0:Int).toNat dd).Y) ((a1.getD (0:Int).toNat dd).Y))) o9 h10)) (s_vu [] 2 [3] [] [0,1] [(0,bx 55 (qT o9))] ?_);obtain rfl:=oi hm;exact q_rt q_rm
def qUM (r:Int):V:=vi r
def qUs (r:Int):List (Nat×(Nat×O)):=[]
def qPn (x5:Int):St:=
 ⟨[(5,vi x5)],[]⟩
theorem qJi (a1:Int) (a2:Int) (r:Int) (hm:HZ a1 a2=some r):CtX Tryz.prog globs 204 0 0 [.one (ci a1),.one (ci a2)] [] (qUM r) (qUs r):=by
 unfold HZ at hm;refine q_E f204 16 λE=>?_;refine s_vn [] 0 ⟨[(0,vi a1),(1,vi a2)],[]⟩ ?_;obtain⟨g3,hm⟩:=qJ hm;refine s_vv [qd 2 dN (IM g3)] 0 [] [(5,vi (w64 (Int.tdiv a1 a2)))] (q_jn (qPn) (λp=>IP p=some r) ?_ ?_)
 ·rintro x5 hm;refine s_vn [] 0 ⟨[(4,vi x5)],[]⟩ ?_;obtain rfl:=oi hm;exact q_rt q_rm
 ·refine s_vv [qd 2 dN (IM g3)] 0 [0,1] [(12,vb (decide ((Int.tmod a1 a2)<0)))] (q_cq hm (λhm=>?_) (λhm=>?_))
  ·exact q_vn [] 0 ⟨[(5,vi (w64 ((w64 (Int.tdiv a1 a2))-1)))],[]⟩ (q_J (w64 ((w64 (Int.tdiv a1 a2))-1)) hm)
  ·exact q_sk (q_J (w64 (Int.tdiv a1 a2)) hm)
def qB5 (a1:Int) (a2:Rect) (a3:List qA) (r:Int×Int):V:= .tup [.one (ci r.1),.one (ci r.2)]
def qBV (a1:Int) (a2:Rect) (a3:List qA) (r:Int×Int):List (Nat×(Nat×O)):=[(0,bx 55 (qT a2)),(1,bx 111 [.own 2 0 2 a3.length]),(2,ro 0 93 2 a3.length (rf qF a3))]
def FD (a1:Int) (a2:Rect) (a3:List qA) (x4:Int) (x5:Int) (x6:Int):St:=
 ⟨[(0,vi a1),(2,vp 1 0),(6,vi x4),(7,vi x5),(9,vp 3 0),(10,vp 4 0),(17,vo 2 0 2 a3.length),(18,vi (a3.length:Int)),(19,vi x6)],[(0,bx 55 (qT a2)),(1,bx 111 [.own 2 0 2 a3.length]),(2,ro 0 93 2 a3.length (rf qF a3)),(3,bx 93 (qF (a3.getD x6.toNat dd))),(4,bx 93 (qF (a3.getD ((Int.tmod (w64 (x6+1)) (a3.length:Int)).toNat) dd)))]⟩
def qDI (a1:Int) (a2:Rect) (a3:List qA) (x6:Int) (x23:Int) (x24:Int):St:=
 ⟨[(0,vi a1),(2,vp 1 0),(6,vi x23),(7,vi x24),(17,vo 2 0 2 a3.length),(18,vi (a3.length:Int)),(19,vi x6)],[(0,bx 55 (qT a2)),(1,bx 111 [.own 2 0 2 a3.length]),(2,ro 0 93 2 a3.length (rf qF a3))]⟩
def qLS (a1:Int) (a2:Rect) (a3:List qA) (x4:Int) (x5:Int) (x6:Int) (x19:Bool):St:=
 (FD a1 a2 a3 x4 x5 x6).up [] [(69,vb x19)] [] []
def qMc (a1:Int) (a2:Rect) (a3:List qA) (x4:Int) (x5:Int) (x6:Int) (x13:Bool):St:=
 (FD a1 a2 a3 x4 x5 x6).up [] [(32,vb x13)] [] []
def EY (a1:Int) (a2:Rect) (a3:List qA) (x4:Int) (x5:Int) (x6:Int):St:=
 (FD a1 a2 a3 x4 x5 x6).up [9,10] [] [3,4] []
def qD8 (a2:Rect) (a3:List qA) (x25:Int) (x26:Int):St:=
 ⟨[(6,vi x25),(7,vi x26)],[(0,bx 55 (qT a2)),(1,bx 111 [.own 2 0 2 a3.length]),(2,ro 0 93 2 a3.length (rf qF a3))]⟩
theorem qKq (E:Env 3) (a1:Int) (a2:Rect) (a3:List qA):∀(n:Nat) (x4:Int) (x5:Int) (x6:Int) (res:Int×Int),jH a1 a3 n x4 x5 x6=some res->HL (kx E 109 2) (nd f203 116) (zL 0 (λo=>qD8 a2 a3 o.1 o.2) res) n (EY a1 a2 a3 x4 x5 x6):=by
 intro n
 induction n with
 |zero=>
  intro x4 x5 x6 res hm;cases hm
 |succ n ih=>
  intro x4 x5 x6 res hm;refine qS (s_va 3 [(20,vb (decide (x6<(a3.length:Int))))] ?_);refine q_sq (q_cq hm (λhm=>?_) (λhm=>?_))
  ·refine q_sk (q_jn (ι:=Int×Int) (λp=>qDI a1 a2 a3 x6 p.1 p.2) (λp=>TY x6 (jH a1 a3 n) p.1 p.2=some res) ?_ ?_)
   ·rintro⟨x23,x24⟩ hm;show H _ (qDI a1 a2 a3 x6 x23 x24) _ _;exact q_vv [] 5 [19] [(19,vi (w64 (x6+1)))] (q_hl (EY a1 a2 a3 x23 x24 (w64 (x6+1))) (ih x23 x24 (w64 (x6+1)) _ hm))
   ·refine q_bk 1 ?_;obtain⟨g8,hm⟩:=qJ hm;refine s_vu [qi 1 g8,qd 2 dN (qW (zC g8))] 3 [20] [(8,vi x6),(9,vp 3 0)] [] [(3,bx 93 (qF (a3.getD x6.toNat dd)))] ?_;obtain⟨g9,hm⟩:=qJ hm;obtain⟨g10,hm⟩:=qJ hm;refine s_du [qd 5 dN (IM g9),qi 6 g10,qd 7 dN (qW (zC g10))] [0,0,2,0,8,30,63,127,0,511] 4 [8] [(10,vp 4 0)] [] [(4,bx 93 (qF (a3.getD ((Int.tmod (w64 (x6+1)) (a3.length:Int)).toNat) dd)))] (q_bk 2 ?_);refine q_jn (qMc a1 a2 a3 x4 x5 x6) (λp=>TZ a1 a3 x4 x5 x6 (jH a1 a3 n) p=some res) ?_ ?_
    ·rintro x13 hm;refine q_cq hm (λhm=>?_) (λhm=>?_)
     ·obtain⟨v15,h16,hm⟩:=qC hm;exact q_du [qc 17 [61,66] 5 (qJi (w64 ((w64 (((a3.getD ((Int.tmod (w64 (x6+1)) (a3.length:Int)).toNat) dd).X)-((a3.getD x6.toNat dd).X)))*(w64 (a1-((a3.getD x6.toNat dd).Y))))) (w64 (((a3.getD ((Int.tmod (w64 (x6+1)) (a3.length:Int)).toNat) dd).Y)-((a3.getD x6.toNat dd).Y))) v15 h16)] [0,1,0,4,0,16,60,0,0,256,896,2044,0,4096,0,16384,61440,131068,262143,524287] 5 [7,9,10,32] [(7,vi (w64 (((a3.getD x6.toNat dd).X)+v15)))] [3,4] [] (q_J (x4,w64 (((a3.getD x6.toNat dd).X)+v15)) hm)
     ·refine q_jn (qLS a1 a2 a3 x4 x5 x6) (λp=>UW a1 a3 x4 x5 x6 (jH a1 a3 n) p=some res) ?_ ?_
      ·rintro x19 hm;refine q_cq hm (λhm=>?_) (λhm=>?_)
       ·obtain⟨v21,h22,hm⟩:=qC hm
        exact q_du [qc 17 [98,103] 5 (qJi (w64 ((w64 (((a3.getD ((Int.tmod (w64 (x6+1)) (a3.length:Int)).toNat) dd).X)-((a3.getD x6.toNat dd).X)))*(w64 (a1-((a3.getD ((Int.tmod (w64 (x6+1)) (a3.length:Int)).toNat) dd).Y))))) (w64 (((a3.getD x6.toNat dd).Y)-((a3.getD ((Int.tmod (w64 (x6+1)) (a3.length:Int)).toNat) dd).Y))) v21 h22)] [0,1,0,4,0,16,60,0,0,256,896,2044,0,4096,0,16384,61440,131068,262143,524287] 5 [6,9,10,69] [(6,vi (w64 (((a3.getD ((Int.tmod (w64 (x6+1)) (a3.length:Int)).toNat) dd).X)-v21)))] [3,4] [] (q_J (w64 (((a3.getD ((Int.tmod (w64 (x6+1)) (a3.length:Int)).toNat) dd).X)-v21),x5) hm)
       ·exact q_sk (q_J (x4,x5) hm)
      ·rcases bif_c hm with⟨b17,hm⟩|⟨b17,hm⟩
       ·rcases bif_c hm with⟨b18,hm⟩|⟨b18,hm⟩
        ·exact q_vv [qf 5 b17,qf 11 b18] 5 [32] [(69,vb (decide (a1<=((a3.getD x6.toNat dd).Y))))] (q_J (decide (a1<=((a3.getD x6.toNat dd).Y))) hm)
        ·exact q_vv [qf 5 b17,qf 11 b18] 5 [32] [(69,vb false)] (q_J (false) hm)
       ·exact q_vv [qf 5 b17] 5 [32] [(69,vb false)] (q_J (false) hm)
    ·rcases bif_c hm with⟨b11,hm⟩|⟨b11,hm⟩
     ·rcases bif_c hm with⟨b12,hm⟩|⟨b12,hm⟩
      ·exact q_vv [qf 5 b11,qf 11 b12] 5 [] [(32,vb (decide (a1<=((a3.getD ((Int.tmod (w64 (x6+1)) (a3.length:Int)).toNat) dd).Y))))] (q_J (decide (a1<=((a3.getD ((Int.tmod (w64 (x6+1)) (a3.length:Int)).toNat) dd).Y))) hm)
      ·exact q_vv [qf 5 b11,qf 11 b12] 5 [] [(32,vb false)] (q_J (false) hm)
     ·exact q_vv [qf 5 b11] 5 [] [(32,vb false)] (q_J (false) hm)
  ·refine q_ex 0 ?_;obtain rfl:=oi hm;exact q_l0
theorem qGq (a1:Int) (a2:Rect) (a3:List qA) (r:Int×Int) (hm:GJ a1 a2 a3=some r):CtX Tryz.prog globs 203 3 2 [.one (ci a1),.one (.bptr 0 0 0),.one (.bptr 1 0 0)] [(0,bx 55 (qT a2)),(1,bx 111 [.own 2 0 2 a3.length]),(2,ro 0 93 2 a3.length (rf qF a3))] (qB5 a1 a2 a3 r) (qBV a1 a2 a3 r):=by
 unfold GJ at hm;refine q_E f203 109 λE=>?_;refine s_vn [] 3 ⟨[(0,vi a1),(1,vp 0 0),(2,vp 1 0)],[(0,bx 55 (qT a2)),(1,bx 111 [.own 2 0 2 a3.length]),(2,ro 0 93 2 a3.length (rf qF a3))]⟩ (s_du [] [0,1,3,0,8,24,7,127] 3 [1] [(6,vi a2.X.A),(7,vi a2.X.B)] [] [] ?_);refine q_sq (s_va 3 [(17,vo 2 0 2 a3.length),(18,vi (a3.length:Int)),(19,vi 0)] ?_);obtain⟨o27,h28,hm⟩:=qC hm;refine zG (nd f203 116) 0 (by kernel_rfl) FUEL (λo=>qD8 a2 a3 o.1 o.2) o27 (q_hl (EY a1 a2 a3 a2.X.A a2.X.B 0) (qKq E a1 a2 a3 FUEL a2.X.A a2.X.B 0 o27 h28)) (s_vv [] 3 [6,7] [(4,vi o27.1),(5,vi o27.2)] ?_)
 obtain rfl:=oi hm;exact q_rt q_rm
open Go.Proofs Go.Proofs.Tryz
def qVn (r:Span):V:=va (qK r)
def qTK (r:Span):List (Nat×(Nat×O)):=[]
def qPF (a2:Int) (a3:Int) (v4:(List qA)) (v6:Rect) (x11:Bool):St:=
 ⟨[(1,vi a2),(2,vi a3),(6,vp 0 0),(7,vp 2 0),(8,vp 3 0),(40,vb x11)],[(0,bx 53 [ci 0,ci 0]),(1,ro 0 93 2 v4.length (rf qF v4)),(2,bx 111 [.own 1 0 2 v4.length]),(3,bx 55 (qT v6))]⟩
theorem qSx (a1:List qA) (a2:Int) (a3:Int) (r:Span) (hm:qA9 a1 a2 a3=some r):CtX Tryz.prog globs 154 0 0 [.one (tl qF dd a1),.one (ci a2),.one (ci a3)] [] (qVn r) (qTK r):=by
 unfold qA9 at hm;refine q_E f154 69 λE=>?_;refine s_vn [] 0 ⟨[(0,vc (tl qF dd a1)),(1,vi a2),(2,vi a3),(6,vp 0 0)],[(0,bx 53 [ci 0,ci 0])]⟩ ?_;obtain⟨v4,h5,hm⟩:=qC hm;refine s_vu [qc 1 [15] 1 (qVP a1 v4 h5)] 1 [0] [(7,vp 2 0)] [] [(1,ro 0 93 2 v4.length (rf qF v4)),(2,bx 111 [.own 1 0 2 v4.length])] ?_;obtain⟨v6,h7,hm⟩:=qC hm
 refine s_vu [qd 1 (dex (cen [] [] 3 0 (qJr v6) (IU v6) [17] [1])) (wK (K:=(kx E 69 0)) (b:=false) ⟨[(17,vo 1 0 2 v4.length)],[(1,ro 0 93 2 v4.length (rf qF v4))]⟩ (opAt (rg f154 14) 1) [] [] 3 (o1 (ke v4.length)) rfl (qRz v4 v6 h7) (.inr ⟨(by kernel_rfl),qSr v6⟩) (by kernel_rfl))] 3 [] [(8,vp 3 0)] [] [(3,bx 55 (qT v6))] (q_sq ?_);refine q_jn (qPF a2 a3 v4 v6) (λp=>TJ a2 a3 v4 v6 p=some r) ?_ ?_
 ·rintro x11 hm;refine q_cq hm (λhm=>?_) (λhm=>?_)
  ·refine s_vu [] 4 [1,2,7,8,40] [] [1,2,3] [] ?_;obtain rfl:=oi hm;exact q_rt q_rm
  ·refine q_sk (s_vv [] 4 [7,8,40] [(9,vc (.fn 203 [.bptr 3 0 0,.bptr 2 0 0]))] ?_);obtain⟨v13,h14,hm⟩:=qC hm
   refine s_vu [qd 2 (dex (cen [(3,0),(2,0),(1,0)] [0,0,1] 1 2 (qB5 a2 v6 v4 v13) (qBV a2 v6 v4 v13) [44,45] [3,2,1])) (wK (K:=(kx E 69 0)) ⟨[(44,vc (.fn 203 [.bptr 3 0 0,.bptr 2 0 0])),(45,vi a2)],[(3,bx 55 (qT v6)),(2,bx 111 [.own 1 0 2 v4.length]),(1,ro 0 93 2 v4.length (rf qF v4))]⟩ (opAt (rg f154 126) 2) [(3,0),(2,0),(1,0)] [0,0,1] 1 o0 rfl (qGq a2 v6 v4 v13 h14) (.inl rfl) (by kernel_rfl))] 4 [1] [(10,vi v13.1),(11,vi v13.2)] [1,2] [(1,ro 1 93 2 v4.length (rf qF v4)),(2,bx 111 [.own 1 1 2 v4.length])] ?_;obtain⟨v15,h16,hm⟩:=qC hm
   refine s_vu [qd 2 (dex (cen [(3,0),(2,0),(1,1)] [0,0,2] 1 2 (qB5 a3 v6 v4 v15) (qBV a3 v6 v4 v15) [50,51] [3,2,1])) (wK (K:=(kx E 69 0)) ⟨[(50,vc (.fn 203 [.bptr 3 0 0,.bptr 2 0 0])),(51,vi a3)],[(3,bx 55 (qT v6)),(2,bx 111 [.own 1 1 2 v4.length]),(1,ro 1 93 2 v4.length (rf qF v4))]⟩ (opAt (rg f154 254) 2) [(3,0),(2,0),(1,1)] [0,0,2] 1 o0 rfl (qGq a3 v6 v4 v15 h16) (.inl rfl) (by kernel_rfl))] 4 [2,9] [(12,vi v15.1),(13,vi v15.2)] [1,2,3] [] (s_vu [] 4 [10,11,12,13] [(14,vp 4 0)] [] [(4,bx 53 [ci (imax v13.1 v15.1),ci (imin v13.2 v15.2)])] ?_)
   refine q_sq (s_va 5 [(66,vb (decide ((imax v13.1 v15.1)≥(imin v13.2 v15.2))))] ?_);refine q_cq hm (λhm=>?_) (λhm=>?_)
   ·refine s_vu [] 5 [14,66] [] [4] [] ?_;obtain rfl:=oi hm;exact q_rt q_rm
   ·refine q_sk (s_vn [] 5 ⟨[(6,vp 0 0)],[(0,bx 53 [ci (imax v13.1 v15.1),ci (imin v13.2 v15.2)])]⟩ ?_);obtain rfl:=oi hm;exact q_rt q_rm
 ·rcases bif_c hm with⟨b8,hm⟩|⟨b8,hm⟩
  ·exact q_vv [qf 3 b8] 4 [] [(40,vb true)] (q_J (true) hm)
  ·rcases bif_c hm with⟨b9,hm⟩|⟨b9,hm⟩
   ·exact q_vv [qf 3 b8,qf 8 b9] 4 [] [(40,vb true)] (q_J (true) hm)
   ·rcases bif_c hm with⟨b10,hm⟩|⟨b10,hm⟩
    ·exact q_vv [qf 3 b8,qf 8 b9,qf 15 b10] 4 [] [(40,vb true)] (q_J (true) hm)
    ·exact q_vv [qf 3 b8,qf 8 b9,qf 15 b10] 4 [] [(40,vb (decide (a3>v6.Y.B)))] (q_J (decide (a3>v6.Y.B)) hm)
def qH0 (a1:Int) (a2:List qA) (r:Span):V:=va (qK r)
def qH1 (a1:Int) (a2:List qA) (r:Span):List (Nat×(Nat×O)):=[(0,bx 111 [tl qF dd a2])]
theorem qPK (a1:Int) (a2:List qA) (r:Span) (hm:HC a1 a2=some r):CtX Tryz.prog globs 152 1 1 [.one (ci a1),.one (.bptr 0 0 0)] [(0,bx 111 [tl qF dd a2])] (qH0 a1 a2 r) (qH1 a1 a2 r):=by
 unfold HC at hm;refine q_E f152 15 λE=>?_;refine s_vn [] 1 ⟨[(0,vi a1),(1,vp 0 0),(3,vp 1 0)],[(0,bx 111 [tl qF dd a2]),(1,bx 53 [ci 0,ci 0])]⟩ ?_;obtain⟨v3,h4,hm⟩:=qC hm;refine s_vu [qc 3 [5,7] 2 (HF a1 (w64 (a1+1)) v3 h4)] 2 [0] [(4,vp 2 0)] [] [(2,bx 53 (qK v3))] ?_;obtain⟨v5,h6,hm⟩:=qC hm;refine s_vu [qc 5 [9,11,13] 3 (qSx a2 v3.A v3.B v5 h6)] 3 [1,4] [] [1,2] [(1,bx 53 (qK v5))] ?_;obtain rfl:=oi hm;exact q_rt q_rm
def qLy (r:Bool):V:=vb r
def qLK (r:Bool):List (Nat×(Nat×O)):=[]
theorem jZ (a1:Span) (r:Bool) (hm:yW a1=some r):CtX Tryz.prog globs 156 0 0 [.agg (qK a1)] [] (qLy r) (qLK r):=by
 unfold yW at hm;refine q_E f156 8 λE=>?_;refine s_vn [] 0 ⟨[(1,vp 0 0)],[(0,bx 53 (qK a1))]⟩ (s_vn [] 1 ⟨[(2,vb (decide (a1.A≥a1.B)))],[]⟩ ?_);obtain rfl:=oi hm;exact q_rt q_rm
open Go.Proofs Go.Proofs.Tryz
def qGI (a1:List qA) (r:qH):V:=va [ci r.Low,.own 1 0 2 r.Rows.length]
def qGH (a1:List qA) (r:qH):List (Nat×(Nat×O)):=[(0,bx 111 [tl qF dd a1]),(1,ro 0 53 2 r.Rows.length (rf qK r.Rows))]
def DW (a1:List qA) (x3:Int):St:=
 ⟨[(0,vc (.fn 152 [.bptr 0 0 0])),(2,vp 1 0),(3,vp 2 0),(5,vi x3)],[(0,bx 111 [tl qF dd a1]),(1,bx 78 [ci 0,.emp])]⟩
def qCG (a1:List qA) (x3:Int) (x17:Int) (x18:Int) (l19:List Span) (l19n:Nat):St:=
 (DW a1 x3).up [] [(4,vi x17)] [] [(2,bx 78 [ci x18,.own 3 0 2 l19n]),(3,ro 0 53 2 l19n (rf qK l19))]
def qKE (a1:List qA) (x3:Int) (l5:List Span) (v7:Span) (x13:Int):St:=
 (DW a1 x3).up [] [(6,vp 4 0)] [] [(2,bx 78 [ci x13,.own 3 0 2 l5.length]),(3,ro 0 53 2 l5.length (rf qK l5)),(4,bx 53 (qK v7))]
def MZ (a1:List qA) (x2:Int) (x3:Int) (x4:Int) (l5:List Span) (l5n:Nat):St:=
 (DW a1 x3).up [] [(4,vi x2)] [] [(2,bx 78 [ci x4,.own 3 0 2 l5n]),(3,ro 0 53 2 l5n (rf qK l5))]
def qCQ (a1:List qA) (x20:Int) (x21:Int) (l22:List Span):St:=
 ⟨[(2,vp 1 0),(3,vp 2 0),(4,vi x20)],[(0,bx 111 [tl qF dd a1]),(1,bx 78 [ci 0,.emp]),(2,bx 78 [ci x21,.own 3 0 2 l22.length]),(3,ro 0 53 2 l22.length (rf qK l22))]⟩
theorem qJB (E:Env 1) (a1:List qA):∀(n:Nat) (x2:Int) (x3:Int) (x4:Int) (l5:List Span) (l5n:Nat) (res:Int×Int×(List Span)),l5.length=l5n->jE a1 n x2 x3 x4 l5=some res->HL (kx E 46 1) (nd f92 244) (zL 0 (λo=>qCQ a1 o.1 o.2.1 o.2.2) res) n (MZ a1 x2 x3 x4 l5 l5n):=by
 intro n
 induction n with
 |zero=>
  intro x2 x3 x4 l5 l5n res hl0 hm;cases hm
 |succ n ih=>
  intro x2 x3 x4 l5 l5n res hl0 hm;subst hl0;refine qS (q_sq ?_);refine s_va 4 [(8,vb (decide (x3<60)))] (q_cq hm (λhm=>?_) (λhm=>?_))
  ·refine q_sk (q_jn (ι:=Int×Int×(List Span)×Nat) (λp=>qCG a1 x3 p.1 p.2.1 p.2.2.1 p.2.2.2) (λp=>p.2.2.1.length=p.2.2.2/\RB x3 (jE a1 n) p.1 p.2.1 p.2.2.1=some res) ?_ ?_)
   ·rintro⟨x17,x18,l19,l19n⟩ ⟨el19,hm⟩;replace el19:l19.length=l19n:=el19;subst el19;show H _ (qCG a1 x3 x17 x18 l19 l19.length) _ _;exact q_vv [] 6 [5] [(5,vi (w64 (x3+1)))] (q_hl (MZ a1 x17 (w64 (x3+1)) x18 l19 l19.length) (ih x17 (w64 (x3+1)) x18 l19 l19.length _ rfl hm))
   ·refine q_bk 1 ?_;obtain⟨v7,h8,hm⟩:=qC hm;refine s_vu [qd 2 (dex (cen [(0,0)] [0] 3 1 (qH0 x3 a1 v7) (qH1 x3 a1 v7) [11,12] [0])) (wK (K:=(kx E 46 1)) ⟨[(11,vc (.fn 152 [.bptr 0 0 0])),(12,vi x3)],[(0,bx 111 [tl qF dd a1])]⟩ (opAt (rg f92 3912) 2) [(0,0)] [0] 3 o0 rfl (qPK x3 a1 v7 h8) (.inl rfl) (by kernel_rfl))] 4 [8] [(6,vp 4 0)] [] [(4,bx 53 (qK v7))] (q_bk 2 ?_);obtain⟨v9,h10,hm⟩:=qC hm;refine s_vv [qc 1 [15] 5 (jZ v7 v9 h10)] 5 [] [(14,vb (!v9))] (q_cq hm (λhm=>?_) (λhm=>?_))
    ·refine q_jn (qKE a1 x3 l5 v7) (λp=>BH x3 l5 (jE a1 n) v7 p=some res) ?_ ?_
     ·rintro x13 hm;obtain⟨g14,hm⟩:=qJ hm;refine s_vu [qd 3 (drw 5 0 (rf qK [v7])) (litP qK dd 2 (λ_=>rfl) ([v7]:List Span) 1 rfl),qd 4 (drw 3 1 (rf qK (l5++[v7]))) (apP qK dd l5 ([v7]:List Span) l5.length 1 2 16 (1<=1) (ke _) rfl rfl (λ_=>rfl) (wA g14))] 5 [6] [] [2,3,4] [(2,bx 78 [ci x13,.own 3 1 2 (l5.length+1)]),(3,ro 1 53 2 (l5.length+1) (rf qK (l5++[v7])))] (q_va 6 [(4,vi (((l5.length+1):Nat):Int))] ?_);exact q_J ((((l5.length+1):Nat):Int),x13,(l5++[v7]),(l5.length+1)) ⟨(wB rfl rfl),hm⟩
     ·refine s_vv [] 5 [4,14] [(19,vb (x2==0))] (q_cq hm (λhm=>?_) (λhm=>?_))
      ·exact q_vu [] 5 [19] [] [2] [(2,bx 78 [ci x3,.own 3 0 2 l5.length])] (q_J (x3) hm)
      ·exact q_sk (q_J (x4) hm)
    ·refine s_vu [] 5 [6,14] [(31,vb (decide (x2>0)))] [4] [] (q_cq hm (λhm=>?_) (λhm=>?_))
     ·obtain⟨g16,hm⟩:=qJ hm;exact q_vu [qd 3 (drw 5 0 (rf qK [(Span.mk 0 0)])) (litP qK dd 2 (λ_=>rfl) ([(Span.mk 0 0)]:List Span) 1 rfl),qd 4 (drw 3 1 (rf qK (l5++[(Span.mk 0 0)]))) (apP qK dd l5 ([(Span.mk 0 0)]:List Span) l5.length 1 2 16 (1<=1) (ke _) rfl rfl (λ_=>rfl) (wA g16))] 5 [31] [] [2,3] [(2,bx 78 [ci x4,.own 3 1 2 (l5.length+1)]),(3,ro 1 53 2 (l5.length+1) (rf qK (l5++[(Span.mk 0 0)])))] (q_J (x2,x4,(l5++[(Span.mk 0 0)]),(l5.length+1)) ⟨(wB rfl rfl),hm⟩)
     ·exact q_sk (q_J (x2,x4,l5,l5.length) ⟨rfl,hm⟩)
  ·refine q_ex 0 ?_;obtain rfl:=oi hm;exact q_l0
theorem qMS (a1:List qA) (r:qH) (hm:NB a1=some r):CtX Tryz.prog globs 92 1 1 [.one (.fn 152 [.bptr 0 0 0])] [(0,bx 111 [tl qF dd a1])] (qGI a1 r) (qGH a1 r):=by
 unfold NB at hm;refine q_E f92 46 λE=>?_;refine s_vn [] 1 ⟨[(0,vc (.fn 152 [.bptr 0 0 0])),(2,vp 1 0)],[(0,bx 111 [tl qF dd a1]),(1,bx 78 [ci 0,.emp])]⟩ (s_vu [] 2 [] [(3,vp 2 0)] [] [(2,bx 78 [ci 0,.emp])] ?_);refine s_va 3 [(4,vi 0)] (q_sq ?_);refine s_va 3 [(5,vi (-60))] (q_fu [.ownB 2 1 3 53 2 (rf qK [])] [] [] [2] [(2,bx 78 [ci 0,.own 3 0 2 0]),(3,ro 0 53 2 0 (rf qK []))] o0 ?_);obtain⟨o23,h24,hm⟩:=qC hm;refine zG (nd f92 244) 0 (by kernel_rfl) FUEL (λo=>qCQ a1 o.1 o.2.1 o.2.2) o23 (q_hl (MZ a1 0 (-60) 0 ([]:List Span) 0) (qJB E a1 FUEL 0 (-60) 0 ([]:List Span) 0 o23 rfl h24)) ?_
 obtain⟨g25,hm⟩:=qJ hm;refine s_wu [qd 3 dN (And.intro (zU g25).2.1 (zU g25).2.2)] [.row 3 o23.1.toNat (rf qK (o23.2.2.take o23.1.toNat))] (o1 (tkP qK dd o23.2.2 o23.2.2.length o23.1.toNat (show o23.1.toNat<=o23.2.2.length by have:=(zU g25);omega))) 4 [4] [] [2,3] [(2,bx 78 [ci o23.2.1,.own 3 0 2 o23.1.toNat]),(3,ro 0 53 2 o23.1.toNat (rf qK (o23.2.2.take o23.1.toNat)))] (s_vu [] 4 [3] [] [1,2] [(1,bx 78 [ci o23.2.1,.own 3 0 2 o23.1.toNat])] ?_)
 refine q_fu [.len 3 ((o23.2.2.take o23.1.toNat).length)] [] [] [1,3] [(1,bx 78 [ci o23.2.1,.own 3 0 2 ((o23.2.2.take o23.1.toNat).length)]),(3,ro 0 53 2 ((o23.2.2.take o23.1.toNat).length) (rf qK (o23.2.2.take o23.1.toNat)))] (o1 (And.intro (Eq.symm (show(o23.2.2.take o23.1.toNat).length=o23.1.toNat from(PY rfl (show o23.1.toNat<=o23.2.2.length by have:=(zU g25);omega)))) (Eq.symm (show(o23.2.2.take o23.1.toNat).length=o23.1.toNat from(PY rfl (show o23.1.toNat<=o23.2.2.length by have:=(zU g25);omega)))))) ?_;obtain rfl:=oi hm;exact q_sw 3 1 (q_rt q_rm)
def qK2 (r:qH×Int):V:= .tup [.agg [ci r.1.Low,.own 0 0 2 r.1.Rows.length],.one (ci r.2)]
def qAV (r:qH×Int):List (Nat×(Nat×O)):=[(0,ro 0 53 2 r.1.Rows.length (rf qK r.1.Rows))]
theorem qUE (r:qH×Int):ZE (qAV r):=by
 intro i k o h;unfold qAV at h;rw[look_cons] at h;split at h
 ·cases h;exact λ_ _=>rfl
 ·cases h
theorem qSX (a1:List qA) (r:qH×Int) (hm:qAO a1=some r):CtX Tryz.prog globs 90 0 0 [.one (tl qF dd a1)] [] (qK2 r) (qAV r):=by
 unfold qAO at hm;refine q_E f90 20 λE=>?_;refine s_vn [] 0 ⟨[(1,vp 0 0),(2,vp 1 0)],[(0,bx 111 [tl qF dd a1]),(1,bx 78 [ci 0,.emp])]⟩ (q_sq ?_);obtain⟨v2,h3,hm⟩:=qC hm;refine s_vv [qc 1 [6] 2 (qSY a1 v2 h3)] 2 [] [(4,vi v2)] (s_va 2 [(9,vb (v2 !=0))] ?_);refine q_cq hm (λhm=>?_) (λhm=>?_)
 ·refine s_vu [] 2 [1,4,9] [(3,vi v2)] [0] [] (q_fu [.ownB 1 1 2 53 2 (rf qK [])] [] [] [1] [(1,bx 78 [ci 0,.own 2 0 2 0]),(2,ro 0 53 2 0 (rf qK []))] o0 ?_);refine q_fu [.len 2 (([]:List Span).length)] [] [] [1,2] [(1,bx 78 [ci 0,.own 2 0 2 (([]:List Span).length)]),(2,ro 0 53 2 (([]:List Span).length) (rf qK []))] (o1 (And.intro (show 0=([]:List Span).length from rfl) (show 0=([]:List Span).length from rfl))) ?_;obtain rfl:=oi hm;exact q_sw 2 0 (q_rt q_rm)
 ·refine q_sk ?_;obtain⟨v5,h6,hm⟩:=qC hm;refine s_vu [qd 1 (dex (cen [(0,0)] [0] 1 1 (qGI a1 v5) (qGH a1 v5) [12] [0])) (wK (K:=(kx E 20 0)) ⟨[(12,vc (.fn 152 [.bptr 0 0 0]))],[(0,bx 111 [tl qF dd a1])]⟩ (opAt (rg f90 14) 1) [(0,0)] [0] 1 o0 rfl (qMS a1 v5 h6) (.inl rfl) (by kernel_rfl))] 2 [1,4,9] [(5,vp 3 0)] [0] [(2,ro 0 53 2 v5.Rows.length (rf qK v5.Rows)),(3,bx 78 [ci v5.Low,.own 2 0 2 v5.Rows.length])] (q_sq ?_);refine s_va 4 [(17,vb ((v5.Rows.length:Int)==0))] (q_cq hm (λhm=>?_) (λhm=>?_))
  ·refine s_vu [] 4 [5,17] [(3,vi 18)] [2,3] [] (q_fu [.ownB 1 1 4 53 2 (rf qK [])] [] [] [1] [(1,bx 78 [ci 0,.own 4 0 2 0]),(4,ro 0 53 2 0 (rf qK []))] o0 ?_);refine q_fu [.len 4 (([]:List Span).length)] [] [] [1,4] [(1,bx 78 [ci 0,.own 4 0 2 (([]:List Span).length)]),(4,ro 0 53 2 (([]:List Span).length) (rf qK []))] (o1 (And.intro (show 0=([]:List Span).length from rfl) (show 0=([]:List Span).length from rfl))) ?_;obtain rfl:=oi hm;exact q_sw 4 0 (q_rt q_rm)
  ·refine q_sk (s_vu [] 4 [5,17] [(3,vi 0)] [1,3] [(1,bx 78 [ci v5.Low,.own 2 0 2 v5.Rows.length])] ?_);obtain rfl:=oi hm;exact q_sw 2 0 (q_rt q_rm)
def qNq (r:qH×Int):V:= .tup [.agg [ci r.1.Low,.own 0 0 2 r.1.Rows.length],.one (ci r.2)]
def qN6 (r:qH×Int):List (Nat×(Nat×O)):=[(0,ro 0 53 2 r.1.Rows.length (rf qK r.1.Rows))]
theorem qLM (a1:Ring) (a2:Int) (a3:Int) (r:qH×Int) (hm:GA a1 a2 a3=some r):CtX Tryz.prog globs 45 0 0 [.agg (qX a1),.one (ci a2),.one (ci a3)] [] (qNq r) (qN6 r):=by
 unfold GA at hm;refine q_E f45 26 λE=>?_;refine s_vn [] 0 ⟨[(1,vi a2),(2,vi a3),(3,vp 0 0),(6,vp 1 0)],[(0,bx 71 (qX a1)),(1,bx 78 [ci 0,.emp])]⟩ ?_;obtain⟨v4,h5,hm⟩:=qC hm;obtain⟨v6,h7,hm⟩:=qC hm
 refine s_vu [qc 2 [11,12] 2 (qSF a1 a2 v4 h5),qd 4 (dex (cen [] [] 3 0 (qJt v6) (IC v6) [13,14] [2])) (wK (K:=(kx E 26 0)) (b:=false) ⟨[(13,va [ci v4.Z,.own 2 0 3 v4.Read.length]),(14,vi a3)],[(2,ro 0 95 3 v4.Read.length (rf qV v4.Read))]⟩ (opAt (rg f45 6) 4) [] [] 3 (o1 (ke v4.Read.length)) rfl (qQY (Ring.mk v4.Z v4.Read) a3 v6 h7) (.inr ⟨(by kernel_rfl),qSI v6⟩) (by kernel_rfl))] 2 [1,2,3] [(8,vo 3 0 2 v6.1.length),(9,vi v6.2)] [0] [(3,ro 0 93 2 v6.1.length (rf qF v6.1))] (q_sq ?_);refine s_va 4 [(19,vb (v6.2 !=0))] (q_cq hm (λhm=>?_) (λhm=>?_))
 ·refine s_vu [] 4 [8,9,19] [(7,vi v6.2)] [3] [] (q_fu [.ownB 1 1 4 53 2 (rf qK [])] [] [] [1] [(1,bx 78 [ci 0,.own 4 0 2 0]),(4,ro 0 53 2 0 (rf qK []))] o0 ?_);refine q_fu [.len 4 (([]:List Span).length)] [] [] [1,4] [(1,bx 78 [ci 0,.own 4 0 2 (([]:List Span).length)]),(4,ro 0 53 2 (([]:List Span).length) (rf qK []))] (o1 (And.intro (show 0=([]:List Span).length from rfl) (show 0=([]:List Span).length from rfl))) ?_;obtain rfl:=oi hm;exact q_sw 4 0 (q_rt q_rm)
 ·refine q_sk ?_;obtain⟨v9,h10,hm⟩:=qC hm;refine s_vn [qd 1 (dex (cen [] [] 4 0 (qK2 v9) (qAV v9) [22] [3])) (wK (K:=(kx E 26 0)) (b:=false) ⟨[(22,vo 3 0 2 v6.1.length)],[(3,ro 0 93 2 v6.1.length (rf qF v6.1))]⟩ (opAt (rg f45 30) 1) [] [] 4 (o1 (ke v6.1.length)) rfl (qSX v6.1 v9 h10) (.inr ⟨(by kernel_rfl),qUE v9⟩) (by kernel_rfl))] 4 ⟨[(6,vp 1 0),(7,vi v9.2)],[(1,bx 78 [ci v9.1.Low,.own 4 0 2 v9.1.Rows.length]),(4,ro 0 53 2 v9.1.Rows.length (rf qK v9.1.Rows))]⟩ ?_;obtain rfl:=oi hm;exact q_sw 4 0 (q_rt q_rm)
open Go.Proofs Go.Proofs.Tryz
def qMb (r:Bool):V:=vb r
def qLz (r:Bool):List (Nat×(Nat×O)):=[]
def qIx (x3:Bool):St:=
 ⟨[(2,vb x3)],[]⟩
theorem qKi (a1:Span) (r:Bool) (hm:UM a1=some r):CtX Tryz.prog globs 205 0 0 [.agg (qK a1)] [] (qMb r) (qLz r):=by
 unfold UM at hm;refine q_E f205 17 λE=>?_;refine s_vn [] 0 ⟨[(1,vp 0 0)],[(0,bx 53 (qK a1))]⟩ (q_jn (qIx) (λp=>UJ p=some r) ?_ ?_)
 ·rintro x3 hm;obtain rfl:=oi hm;exact q_rt q_rm
 ·rcases bif_c hm with⟨b2,hm⟩|⟨b2,hm⟩
  ·exact q_vn [qf 6 b2] 1 ⟨[(2,vb (decide ((imax a1.A a1.B)<=600)))],[]⟩ (q_J (decide ((imax a1.A a1.B)<=600)) hm)
  ·exact q_vn [qf 6 b2] 1 ⟨[(2,vb false)],[]⟩ (q_J (false) hm)
end Saw
end Go.SL

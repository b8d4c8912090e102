import Derived.Test.YthbamnkheinbgaaGreatDoorSBase
import Derived.Test.YthbamnkheinbgaaGreatDoorSFa7
set_option linter.unusedVariables false
set_option linter.unusedSimpArgs false
namespace Go.SL
namespace Saw
open Go.Proofs Go.Proofs.Tryz
set_option maxHeartbeats 4000000
set_option maxRecDepth 100000
def qLY (r:(List qA)):V:=vo 0 0 2 r.length
def qNB (r:(List qA)):List (Nat×(Nat×O)):=[(0,ro 0 71 2 r.length (rf qB r))]
def FQ (v7:(List qA)) (l9:List qA) (l9n:Nat) (x10:Int):St:=
 ⟨[(3,vo 0 0 2 v7.length),(4,vo 1 0 2 l9n),(5,vi x10)],[(0,ro 0 71 2 v7.length (rf qB v7)),(1,ro 0 71 2 l9n (rf qB l9))]⟩
def qAY (v7:(List qA)) (l14:List qA):St:=
 ⟨[(3,vo 0 0 2 v7.length),(4,vo 1 0 2 l14.length)],[(0,ro 0 71 2 v7.length (rf qB v7)),(1,ro 0 71 2 l14.length (rf qB l14))]⟩
def qHV (a1:List qA) (x5:Bool):St:=
 ⟨[(0,vc (tl qB dd a1)),(16,vb x5)],[]⟩
theorem qGh (E:Env 0) (v7:(List qA)):∀(n:Nat) (l9:List qA) (l9n:Nat) (x10:Int) (res:(List qA)),l9.length=l9n->ZM v7 n l9 x10=some res->HL (kx E 57 0) (nd f181 500) (zH 0 (λo=>qAY v7 o) res) n (FQ v7 l9 l9n x10):=by
 intro n
 induction n with
 |zero=>
  intro l9 l9n x10 res hl0 hm;cases hm
 |succ n ih=>
  intro l9 l9n x10 res hl0 hm;subst hl0;refine qP (q_sq ?_);refine s_va 2 [(23,vb (decide (x10≥0)))] (q_cq hm (λhm=>?_) (λhm=>?_))
  ·refine q_sk (q_sq ?_);refine q_bk 1 ?_;obtain⟨g12,hm⟩:=qH hm;obtain⟨g13,hm⟩:=qH hm;refine q_vu [qi 3 g12,qd 4 dN (zC (zO g12)),qd 5 (drw 2 0 (rf qB [(v7.getD x10.toNat dd)])) (litP qB dd 2 (λ_=>rfl) ([(v7.getD x10.toNat dd)]:List qA) 1 rfl),qd 6 (drw 1 1 (rf qB (l9++[(v7.getD x10.toNat dd)]))) (apP qB dd l9 ([(v7.getD x10.toNat dd)]:List qA) l9.length 1 2 16 (1<=1) (ki _) rfl rfl (λ_=>rfl) (zK g13))] 2 [4,23] [(4,vo 1 1 2 (l9.length+1))] [1] [(1,ro 1 71 2 (l9.length+1) (rf qB (l9++[(v7.getD x10.toNat dd)])))] (q_vv [] 3 [5] [(5,vi (w64 (x10-1)))] ?_)
   exact q_hl (FQ v7 (l9++[(v7.getD x10.toNat dd)]) (l9.length+1) (w64 (x10-1))) (ih (l9++[(v7.getD x10.toNat dd)]) (l9.length+1) (w64 (x10-1)) _ (zA rfl rfl) hm)
  ·refine q_ex 0 ?_;obtain rfl:=oi hm;exact q_l0
theorem qKD (a1:List qA) (r:(List qA)) (hm:FW a1=some r):CtX Tryz.prog globs 181 0 0 [.one (tl qB dd a1)] [] (qLY r) (qNB r):=by
 unfold FW at hm;refine q_E f181 57 λE=>?_;refine s_vn [] 0 ⟨[(0,vc (tl qB dd a1))],[]⟩ (q_sq ?_);refine q_jn (qHV a1) (λp=>DR a1 p=some r) ?_ ?_
 ·rintro x5 hm;refine q_cq hm (λhm=>?_) (λhm=>?_)
  ·refine s_vn [] 0 ⟨[(2,vc (.emp))],[]⟩ (q_fn [.own 2 0 71 2 (rf qB [])] ⟨[(2,vo 0 0 2 0)],[(0,ro 0 71 2 0 (rf qB []))]⟩ o0 ?_);refine q_fn [.len 0 (([]:List qA).length)] ⟨[(2,vo 0 0 2 (([]:List qA).length))],[(0,ro 0 71 2 (([]:List qA).length) (rf qB []))]⟩ (o1 (And.intro (show 0=([]:List qA).length from rfl) (show 0=([]:List qA).length from rfl))) ?_;obtain rfl:=oi hm;exact q_rt q_rm
  ·refine q_sk ?_;obtain⟨v7,h8,hm⟩:=qD hm;refine s_vn [qc 1 [17] 0 (qHk a1 v7 h8)] 0 ⟨[(3,vo 0 0 2 v7.length)],[(0,ro 0 71 2 v7.length (rf qB v7))]⟩ (s_va 1 [(4,vc (.emp))] ?_);refine q_sq (s_va 1 [(5,vi (w64 ((v7.length:Int)-1)))] ?_);refine q_fo 4 1 71 2 qB ?_;obtain⟨o15,h16,hm⟩:=qD hm;refine qY (nd f181 500) 0 (by kernel_rfl) FUEL (λo=>qAY v7 o) o15 (q_hl (FQ v7 ([]:List qA) 0 (w64 ((v7.length:Int)-1))) (qGh E v7 FUEL ([]:List qA) 0 (w64 ((v7.length:Int)-1)) o15 rfl h16)) ?_;obtain⟨v17,h18,hm⟩:=qD hm;obtain⟨v19,h20,hm⟩:=qD hm
   refine s_vn [qd 1 (dex (cen [] [] 2 0 (AO v17) (PA v17) [33] [0])) (zJ (K:=(kx E 57 0)) (b:=false) ⟨[(33,vo 0 0 2 v7.length)],[(0,ro 0 71 2 v7.length (rf qB v7))]⟩ (opAt (rg f181 126) 1) [] [] 2 (o1 (ki v7.length)) rfl (qBT v7 v17 h18) (.inr ⟨(by kernel_rfl),qDh v17⟩) (by kernel_rfl)),qd 3 (dex (cen [] [] 3 0 (AO v19) (PA v19) [35] [1])) (zJ (K:=(kx E 57 0)) (b:=false) ⟨[(35,vo 1 0 2 o15.length)],[(1,ro 0 71 2 o15.length (rf qB o15))]⟩ (opAt (rg f181 126) 3) [] [] 3 (o1 (ki o15.length)) rfl (qBT o15 v19 h20) (.inr ⟨(by kernel_rfl),qDh v19⟩) (by kernel_rfl))] 2 ⟨[(6,vo 2 0 2 v17.length),(7,vo 3 0 2 v19.length)],[(2,ro 0 71 2 v17.length (rf qB v17)),(3,ro 0 71 2 v19.length (rf qB v19))]⟩ (q_sq ?_)
   refine s_va 4 [(42,vb (decide ((w64 ((v17.length:Int)+(v19.length:Int)))<5)))] (q_cq hm (λhm=>?_) (λhm=>?_))
   ·refine s_vn [] 4 ⟨[(2,vc (.emp))],[]⟩ (q_fn [.own 2 4 71 2 (rf qB [])] ⟨[(2,vo 4 0 2 0)],[(4,ro 0 71 2 0 (rf qB []))]⟩ o0 ?_);refine q_fn [.len 4 (([]:List qA).length)] ⟨[(2,vo 4 0 2 (([]:List qA).length))],[(4,ro 0 71 2 (([]:List qA).length) (rf qB []))]⟩ (o1 (And.intro (show 0=([]:List qA).length from rfl) (show 0=([]:List qA).length from rfl))) ?_;obtain rfl:=oi hm;exact q_sw 4 0 (q_rt q_rm)
   ·refine q_sk ?_;obtain⟨g22,hm⟩:=qH hm;obtain⟨g23,hm⟩:=qH hm
    refine s_vu [qd 0 (drw 4 0 (rf qB [])) (litP qB dd 2 (λ_=>rfl) ([]:List qA) 0 rfl),qd 5 dN (And.intro (qT g22).2.1 (qT g22).2.2),qd 6 (drw 4 1 (rf qB (([]:List qA)++(v17.take ((w64 ((v17.length:Int)-1)).toNat))))) (apPt qB dd ([]:List qA) v17 0 ((w64 ((v17.length:Int)-1)).toNat) v17.length 2 16 (show(w64 ((v17.length:Int)-1)).toNat<=v17.length by have:=(qT g22);omega) rfl rfl (λ_=>rfl) (zK g23))] 4 [6,42] [(8,vo 4 1 2 (0+(w64 ((v17.length:Int)-1)).toNat))] [2] [(4,ro 1 71 2 (0+(w64 ((v17.length:Int)-1)).toNat) (rf qB (([]:List qA)++(v17.take ((w64 ((v17.length:Int)-1)).toNat)))))] ?_
    obtain⟨g24,hm⟩:=qH hm;obtain⟨g25,hm⟩:=qH hm
    refine s_vn [qd 5 dN (And.intro (qT g24).2.1 (qT g24).2.2),qd 6 (drw 4 2 (rf qB ((([]:List qA)++(v17.take ((w64 ((v17.length:Int)-1)).toNat)))++(v19.take ((w64 ((v19.length:Int)-1)).toNat))))) (apPt qB dd (([]:List qA)++(v17.take ((w64 ((v17.length:Int)-1)).toNat))) v19 (0+(w64 ((v17.length:Int)-1)).toNat) ((w64 ((v19.length:Int)-1)).toNat) v19.length 2 16 (show(w64 ((v19.length:Int)-1)).toNat<=v19.length by have:=(qT g24);omega) (zA rfl (wV rfl (show(w64 ((v17.length:Int)-1)).toNat<=v17.length by have:=(qT g22);omega))) rfl (λ_=>rfl) (zK g25))] 5 ⟨[(2,vo 4 2 2 ((0+(w64 ((v17.length:Int)-1)).toNat)+(w64 ((v19.length:Int)-1)).toNat))],[(4,ro 2 71 2 ((0+(w64 ((v17.length:Int)-1)).toNat)+(w64 ((v19.length:Int)-1)).toNat) (rf qB ((([]:List qA)++(v17.take ((w64 ((v17.length:Int)-1)).toNat)))++(v19.take ((w64 ((v19.length:Int)-1)).toNat)))))]⟩ ?_
    refine q_fn [.len 4 (((([]:List qA)++(v17.take ((w64 ((v17.length:Int)-1)).toNat)))++(v19.take ((w64 ((v19.length:Int)-1)).toNat))).length)] ⟨[(2,vo 4 2 2 (((([]:List qA)++(v17.take ((w64 ((v17.length:Int)-1)).toNat)))++(v19.take ((w64 ((v19.length:Int)-1)).toNat))).length))],[(4,ro 2 71 2 (((([]:List qA)++(v17.take ((w64 ((v17.length:Int)-1)).toNat)))++(v19.take ((w64 ((v19.length:Int)-1)).toNat))).length) (rf qB ((([]:List qA)++(v17.take ((w64 ((v17.length:Int)-1)).toNat)))++(v19.take ((w64 ((v19.length:Int)-1)).toNat)))))]⟩ (o1 (And.intro (Eq.symm (show((([]:List qA)++(v17.take ((w64 ((v17.length:Int)-1)).toNat)))++(v19.take ((w64 ((v19.length:Int)-1)).toNat))).length=((0+(w64 ((v17.length:Int)-1)).toNat)+(w64 ((v19.length:Int)-1)).toNat) from(zA (zA rfl (wV rfl (show(w64 ((v17.length:Int)-1)).toNat<=v17.length by have:=(qT g22);omega))) (wV rfl (show(w64 ((v19.length:Int)-1)).toNat<=v19.length by have:=(qT g24);omega))))) (Eq.symm (show((([]:List qA)++(v17.take ((w64 ((v17.length:Int)-1)).toNat)))++(v19.take ((w64 ((v19.length:Int)-1)).toNat))).length=((0+(w64 ((v17.length:Int)-1)).toNat)+(w64 ((v19.length:Int)-1)).toNat) from(zA (zA rfl (wV rfl (show(w64 ((v17.length:Int)-1)).toNat<=v17.length by have:=(qT g22);omega))) (wV rfl (show(w64 ((v19.length:Int)-1)).toNat<=v19.length by have:=(qT g24);omega))))))) ?_
    obtain rfl:=oi hm;exact q_sw 4 0 (q_rt q_rm)
 ·rcases bif_c hm with⟨b2,hm⟩|⟨b2,hm⟩
  ·exact q_vv [qf 3 b2] 0 [] [(16,vb true)] (q_J (true) hm)
  ·obtain⟨v3,h4,hm⟩:=qD hm;exact q_vv [qf 3 b2,qk 5 [12,13] 0 ⟨[(12,vb false),(13,vc (tl qB dd a1))],[]⟩ (TA a1 v3 h4)] 0 [] [(16,vb (!v3))] (q_J (!v3) hm)
def qLj (r:Int):V:=vi r
def qKG (r:Int):List (Nat×(Nat×O)):=[]
def qGp (x5:Int):St:=
 ⟨[(5,vi x5)],[]⟩
theorem qBZ (a1:Int) (a2:Int) (r:Int) (hm:PU a1 a2=some r):CtX Tryz.prog globs 198 0 0 [.one (ci a1),.one (ci a2)] [] (qLj r) (qKG r):=by
 unfold PU at hm;refine q_E f198 17 λE=>?_;refine s_vn [] 0 ⟨[(0,vi a1),(1,vi a2)],[]⟩ ?_;obtain⟨g3,hm⟩:=qH hm;refine s_vv [qd 2 dN (WT g3)] 0 [] [(5,vi (w64 (Int.tdiv a1 a2)))] (q_jn (qGp) (λp=>VR p=some r) ?_ ?_)
 ·rintro x5 hm;refine s_vn [] 0 ⟨[(4,vi x5)],[]⟩ ?_;obtain rfl:=oi hm;exact q_rt q_rm
 ·refine s_vv [] 0 [0,1] [(13,vb (decide ((w64 ((w64 (Int.tdiv a1 a2))*a2))>a1)))] (q_cq hm (λhm=>?_) (λhm=>?_))
  ·exact q_vn [] 0 ⟨[(5,vi (w64 ((w64 (Int.tdiv a1 a2))-1)))],[]⟩ (q_J (w64 ((w64 (Int.tdiv a1 a2))-1)) hm)
  ·exact q_sk (q_J (w64 (Int.tdiv a1 a2)) hm)
def XR (r:Int×Int):V:= .tup [.one (ci r.1),.one (ci r.2)]
def QO (r:Int×Int):List (Nat×(Nat×O)):=[]
theorem qCj (r:Int×Int):jO (QO r):=by
 intro i k o h;unfold QO at h;cases h
def IP (a1:List qA) (a2:Int) (x5:Int) (x17:Int) (x18:Int):St:=
 ⟨[(0,vc (tl qB dd a1)),(1,vi a2),(6,vi x17),(7,vi x18),(8,vi x5)],[]⟩
def GE (a1:List qA) (a2:Int) (x3:Int) (x4:Int) (x5:Int):St:=
 ⟨[(0,vc (tl qB dd a1)),(1,vi a2),(6,vi x3),(7,vi x4),(8,vi x5)],[]⟩
def IR (x19:Int) (x20:Int):St:=
 ⟨[(6,vi x19),(7,vi x20)],[]⟩
theorem qEa (E:Env 0) (a1:List qA) (a2:Int):∀(n:Nat) (x3:Int) (x4:Int) (x5:Int) (res:(Int×Int)⊕(Int×Int)),wY a1 a2 n x3 x4 x5=some res->HL (kx E 74 0) (nd f182 116) (wL 0 (λo=>IR o.1 o.2) (λv st=>RetQ Tryz.prog f182 (XR v) (QO v) .ret st) res) n (GE a1 a2 x3 x4 x5):=by
 intro n
 induction n with
 |zero=>
  intro x3 x4 x5 res hm;cases hm
 |succ n ih=>
  intro x3 x4 x5 res hm;refine qP (q_sq ?_);refine s_va 0 [(16,vb (decide (x5<(a1.length:Int))))] (q_cq hm (λhm=>?_) (λhm=>?_))
  ·refine q_sk (q_jn (ι:=Int×Int) (λp=>IP a1 a2 x5 p.1 p.2) (λp=>JM x5 (wY a1 a2 n) p.1 p.2=some res) ?_ ?_)
   ·rintro⟨x17,x18⟩ hm;show H _ (IP a1 a2 x5 x17 x18) _ _;exact q_vv [] 2 [8] [(8,vi (w64 (x5+1)))] (q_hl (GE a1 a2 x17 x18 (w64 (x5+1))) (ih x17 x18 (w64 (x5+1)) _ hm))
   ·refine q_bk 1 ?_;obtain⟨g7,hm⟩:=qH hm;obtain⟨g8,hm⟩:=qH hm;obtain⟨g9,hm⟩:=qH hm
    refine s_du [qi 2 g7,qd 9 dN (WT g8),qi 10 g9] [0,0,3,7,0,0,32,0,128,480,1008,2032,0,0,12303,32767] 0 [16] [(9,vp 0 0),(10,vp 1 0)] [] [(0,bx 71 (qB (a1.getD x5.toNat dd))),(1,bx 71 (qB (a1.getD (Int.tmod (w64 (x5+1)) (a1.length:Int)).toNat dd)))] (s_du [] [0,1,0,4,15,0,0,64,224,511,0,1024,0,4096,15360,1023,65535] 2 [10] [(11,vi (w64 ((w64 (((a1.getD (Int.tmod (w64 (x5+1)) (a1.length:Int)).toNat dd).X)-((a1.getD x5.toNat dd).X)))*(w64 (a2-((a1.getD x5.toNat dd).Y)))))),(12,vi (w64 (((a1.getD (Int.tmod (w64 (x5+1)) (a1.length:Int)).toNat dd).Y)-((a1.getD x5.toNat dd).Y))))] [1] [] ?_)
    refine q_bk 2 (s_va 2 [(46,vb (decide ((w64 (((a1.getD (Int.tmod (w64 (x5+1)) (a1.length:Int)).toNat dd).Y)-((a1.getD x5.toNat dd).Y)))>0)))] ?_);refine q_cq hm (λhm=>?_) (λhm=>?_)
    ·obtain⟨v11,h12,hm⟩:=qD hm;exact q_du [qc 5 [52,53] 2 (qBZ (w64 ((w64 (((a1.getD (Int.tmod (w64 (x5+1)) (a1.length:Int)).toNat dd).X)-((a1.getD x5.toNat dd).X)))*(w64 (a2-((a1.getD x5.toNat dd).Y))))) (w64 (((a1.getD (Int.tmod (w64 (x5+1)) (a1.length:Int)).toNat dd).Y)-((a1.getD x5.toNat dd).Y))) v11 h12)] [0,0,2,0,0,24,62,127,255] 2 [7,9,11,12,46] [(7,vi (imin x4 (w64 (((a1.getD x5.toNat dd).X)+v11))))] [0] [] (q_J (x3,imin x4 (w64 (((a1.getD x5.toNat dd).X)+v11))) hm)
    ·refine s_vv [] 2 [46] [(57,vb (decide ((w64 (((a1.getD (Int.tmod (w64 (x5+1)) (a1.length:Int)).toNat dd).Y)-((a1.getD x5.toNat dd).Y)))<0)))] (q_cq hm (λhm=>?_) (λhm=>?_))
     ·obtain⟨v14,h15,hm⟩:=qD hm;exact q_du [qc 6 [63,65] 2 (qBZ (w64 ((w64 (((a1.getD (Int.tmod (w64 (x5+1)) (a1.length:Int)).toNat dd).X)-((a1.getD x5.toNat dd).X)))*(w64 (a2-((a1.getD x5.toNat dd).Y))))) (w64 (0-(w64 (((a1.getD (Int.tmod (w64 (x5+1)) (a1.length:Int)).toNat dd).Y)-((a1.getD x5.toNat dd).Y))))) v14 h15)] [0,0,2,0,0,16,56,126,255,511] 2 [6,9,11,12,57] [(6,vi (imax x3 (w64 (((a1.getD x5.toNat dd).X)-v14))))] [0] [] (q_J (imax x3 (w64 (((a1.getD x5.toNat dd).X)-v14)),x4) hm)
     ·refine s_vu [] 2 [9,11,12,57] [(69,vb (decide ((w64 ((w64 (((a1.getD (Int.tmod (w64 (x5+1)) (a1.length:Int)).toNat dd).X)-((a1.getD x5.toNat dd).X)))*(w64 (a2-((a1.getD x5.toNat dd).Y)))))<0)))] [0] [] (q_cq hm (λhm=>?_) (λhm=>?_))
      ·refine s_vn [] 2 ⟨[(4,vi 1),(5,vi 0)],[]⟩ ?_;obtain rfl:=oi hm;refine q_rt (zG (1,0) ?_);exact q_rm
      ·exact q_sk (q_J (x3,x4) hm)
  ·refine q_ex 0 ?_;obtain rfl:=oi hm;exact L1_mk (x3,x4) (by kernel_rfl) (by kernel_rfl)
theorem qBs (a1:List qA) (a2:Int) (r:Int×Int) (hm:WM a1 a2=some r):CtX Tryz.prog globs 182 0 0 [.one (tl qB dd a1),.one (ci a2)] [] (XR r) (QO r):=by
 unfold WM at hm;refine q_E f182 74 λE=>?_;refine s_vn [] 0 ⟨[(0,vc (tl qB dd a1)),(1,vi a2)],[]⟩ (s_va 0 [(6,vi (-600)),(7,vi 600)] ?_);refine q_sq (s_va 0 [(8,vi 0)] ?_);obtain⟨u23,h22,hm⟩:=qD hm;refine zR (nd f182 116) 0 (by kernel_rfl) FUEL (λo=>IR o.1 o.2) (λv st=>RetQ Tryz.prog f182 (XR v) (QO v) .ret st) u23 (q_hl (GE a1 a2 (-600) 600 0) (qEa E a1 a2 FUEL (-600) 600 0 u23 h22)) ?_ ?_
 ·rintro v24 rfl st hr;obtain rfl:=oi hm;exact hr
 ·rintro o21 rfl;replace hm:_=some r:=hm;refine s_vn [] 0 ⟨[(4,vi o21.1),(5,vi o21.2)],[]⟩ ?_;obtain rfl:=oi hm;exact q_rt q_rm
open Go.Proofs Go.Proofs.Tryz
def qKO (r:Span):V:=va (qF r)
def qKI (r:Span):List (Nat×(Nat×O)):=[]
def qGk (v11:Int×Int) (v13:Int×Int) (x17:Bool):St:=
 ⟨[(6,vp 0 0),(12,vp 2 0),(65,vb x17)],[(0,bx 64 [ci 0,ci 0]),(2,bx 64 [ci (imax v11.1 v13.1),ci (imin v11.2 v13.2)])]⟩
def qGV (a2:Int) (a3:Int) (v4:(List qA)) (x9:Bool):St:=
 ⟨[(1,vi a2),(2,vi a3),(6,vp 0 0),(7,vo 1 0 2 v4.length),(30,vb x9)],[(0,bx 64 [ci 0,ci 0]),(1,ro 0 71 2 v4.length (rf qB v4))]⟩
theorem qJK (a1:List qA) (a2:Int) (a3:Int) (r:Span) (hm:GS a1 a2 a3=some r):CtX Tryz.prog globs 155 0 0 [.one (tl qB dd a1),.one (ci a2),.one (ci a3)] [] (qKO r) (qKI r):=by
 unfold GS at hm;refine q_E f155 68 λE=>?_;refine s_vn [] 0 ⟨[(0,vc (tl qB dd a1)),(1,vi a2),(2,vi a3),(6,vp 0 0)],[(0,bx 64 [ci 0,ci 0])]⟩ ?_;obtain⟨v4,h5,hm⟩:=qD hm;refine s_vu [qc 1 [13] 1 (qKD a1 v4 h5)] 1 [0] [(7,vo 1 0 2 v4.length)] [] [(1,ro 0 71 2 v4.length (rf qB v4))] (q_sq ?_);refine q_jn (qGV a2 a3 v4) (λp=>ZZ a2 a3 v4 p=some r) ?_ ?_
 ·rintro x9 hm;refine q_cq hm (λhm=>?_) (λhm=>?_)
  ·refine s_vu [] 2 [1,2,7,30] [] [1] [] ?_;obtain rfl:=oi hm;exact q_rt q_rm
  ·refine q_sk ?_;obtain⟨v11,h12,hm⟩:=qD hm;refine s_vv [qd 2 (dex (cen [] [] 2 0 (XR v11) (QO v11) [33,34] [1])) (zJ (K:=(kx E 68 0)) (b:=false) ⟨[(33,vo 1 0 2 v4.length),(34,vi a2)],[(1,ro 0 71 2 v4.length (rf qB v4))]⟩ (opAt (rg f155 30) 2) [] [] 2 (o1 (ki v4.length)) rfl (qBs v4 a2 v11 h12) (.inr ⟨(by kernel_rfl),qCj v11⟩) (by kernel_rfl))] 2 [1,30] [(8,vi v11.1),(9,vi v11.2)] ?_;obtain⟨v13,h14,hm⟩:=qD hm
   refine s_vu [qd 2 (dex (cen [] [] 2 0 (XR v13) (QO v13) [39,40] [1])) (zJ (K:=(kx E 68 0)) (b:=false) ⟨[(39,vo 1 0 2 v4.length),(40,vi a3)],[(1,ro 0 71 2 v4.length (rf qB v4))]⟩ (opAt (rg f155 62) 2) [] [] 2 (o1 (ki v4.length)) rfl (qBs v4 a3 v13 h14) (.inr ⟨(by kernel_rfl),qCj v13⟩) (by kernel_rfl))] 2 [2,7] [(10,vi v13.1),(11,vi v13.2)] [1] [] (s_vu [] 2 [] [(12,vp 2 0)] [] [(2,bx 64 [ci (imax v11.1 v13.1),ci (imin v11.2 v13.2)])] ?_);refine q_sq (q_jn (qGk v11 v13) (λp=>XU v11 v13 p=some r) ?_ ?_)
   ·rintro x17 hm;refine q_cq hm (λhm=>?_) (λhm=>?_)
    ·refine s_vu [] 3 [12,65] [] [2] [] ?_;obtain rfl:=oi hm;exact q_rt q_rm
    ·refine q_sk (s_vn [] 3 ⟨[(6,vp 0 0)],[(0,bx 64 [ci (imax v11.1 v13.1),ci (imin v11.2 v13.2)])]⟩ ?_);obtain rfl:=oi hm;exact q_rt q_rm
   ·rcases bif_c hm with⟨b15,hm⟩|⟨b15,hm⟩
    ·exact q_vv [qf 3 b15] 3 [8,9,10,11] [(65,vb true)] (q_J (true) hm)
    ·rcases bif_c hm with⟨b16,hm⟩|⟨b16,hm⟩
     ·exact q_vv [qf 3 b15,qf 8 b16] 3 [8,9,10,11] [(65,vb true)] (q_J (true) hm)
     ·exact q_vv [qf 3 b15,qf 8 b16] 3 [8,9,10,11] [(65,vb (decide ((imax v11.1 v13.1)≥(imin v11.2 v13.2))))] (q_J (decide ((imax v11.1 v13.1)≥(imin v11.2 v13.2))) hm)
 ·rcases bif_c hm with⟨b6,hm⟩|⟨b6,hm⟩
  ·exact q_vv [qf 3 b6] 2 [] [(30,vb true)] (q_J (true) hm)
  ·rcases bif_c hm with⟨b7,hm⟩|⟨b7,hm⟩
   ·exact q_vv [qf 3 b6,qf 8 b7] 2 [] [(30,vb true)] (q_J (true) hm)
   ·rcases bif_c hm with⟨b8,hm⟩|⟨b8,hm⟩
    ·exact q_vv [qf 3 b6,qf 8 b7,qf 12 b8] 2 [] [(30,vb true)] (q_J (true) hm)
    ·exact q_vv [qf 3 b6,qf 8 b7,qf 12 b8] 2 [] [(30,vb (decide (a3>600)))] (q_J (decide (a3>600)) hm)
def qLA (r:Int):V:=vi r
def qK8 (r:Int):List (Nat×(Nat×O)):=[]
def NA (a1:List qA) (x7:Int) (x8:Int):St:=
 ⟨[(0,vc (tl qB dd a1)),(3,vi x7),(4,vi x8)],[]⟩
def qAc (x13:Int):St:=
 ⟨[(3,vi x13)],[]⟩
def qHi (a1:List qA) (x5:Bool):St:=
 ⟨[(0,vc (tl qB dd a1)),(13,vb x5)],[]⟩
theorem qFe (E:Env 0) (a1:List qA):∀(n:Nat) (x7:Int) (x8:Int) (res:Int),WA a1 n x7 x8=some res->HL (kx E 48 0) (nd f180 244) (zH 0 qAc res) n (NA a1 x7 x8):=by
 intro n
 induction n with
 |zero=>
  intro x7 x8 res hm;cases hm
 |succ n ih=>
  intro x7 x8 res hm;refine qP (q_sq ?_);refine s_va 0 [(17,vb (decide (x8<(a1.length:Int))))] (q_cq hm (λhm=>?_) (λhm=>?_))
  ·refine q_sk (q_sq ?_);refine q_bk 1 ?_;obtain⟨g10,hm⟩:=qH hm;obtain⟨g11,hm⟩:=qH hm;refine s_vu [qd 5 dN (WT g10),qi 6 g11] 0 [17] [(5,vp 0 0)] [] [(0,bx 71 (qB (a1.getD (Int.tmod (w64 (x8+1)) (a1.length:Int)).toNat dd)))] ?_;obtain⟨g12,hm⟩:=qH hm
   refine q_du [qi 3 g12,qi 14 g12] [0,0,0,6,14,30,0,64,254,511,0,1024,0,0,12288,28672,61440,130048,262143,524287] 1 [3,5] [(3,vi (w64 ((w64 (x7+(w64 (((a1.getD x8.toNat dd).X)*((a1.getD (Int.tmod (w64 (x8+1)) (a1.length:Int)).toNat dd).Y)))))-(w64 (((a1.getD (Int.tmod (w64 (x8+1)) (a1.length:Int)).toNat dd).X)*((a1.getD x8.toNat dd).Y))))))] [0] [] (q_vv [] 1 [4] [(4,vi (w64 (x8+1)))] ?_)
   exact q_hl (NA a1 (w64 ((w64 (x7+(w64 (((a1.getD x8.toNat dd).X)*((a1.getD (Int.tmod (w64 (x8+1)) (a1.length:Int)).toNat dd).Y)))))-(w64 (((a1.getD (Int.tmod (w64 (x8+1)) (a1.length:Int)).toNat dd).X)*((a1.getD x8.toNat dd).Y))))) (w64 (x8+1))) (ih (w64 ((w64 (x7+(w64 (((a1.getD x8.toNat dd).X)*((a1.getD (Int.tmod (w64 (x8+1)) (a1.length:Int)).toNat dd).Y)))))-(w64 (((a1.getD (Int.tmod (w64 (x8+1)) (a1.length:Int)).toNat dd).X)*((a1.getD x8.toNat dd).Y))))) (w64 (x8+1)) _ hm)
  ·refine q_ex 0 ?_;obtain rfl:=oi hm;exact q_l0
theorem qJf (a1:List qA) (r:Int) (hm:DH a1=some r):CtX Tryz.prog globs 180 0 0 [.one (tl qB dd a1)] [] (qLA r) (qK8 r):=by
 unfold DH at hm;refine q_E f180 48 λE=>?_;refine s_vn [] 0 ⟨[(0,vc (tl qB dd a1))],[]⟩ (q_sq ?_);refine q_jn (qHi a1) (λp=>VA a1 p=some r) ?_ ?_
 ·rintro x5 hm;refine q_cq hm (λhm=>?_) (λhm=>?_)
  ·refine s_vn [] 0 ⟨[(2,vi 0)],[]⟩ ?_;obtain rfl:=oi hm;exact q_rt q_rm
  ·refine q_sk (s_vv [] 0 [13] [(3,vi 0)] ?_);refine q_sq (s_va 0 [(4,vi 0)] ?_);obtain⟨o14,h15,hm⟩:=qD hm;refine qY (nd f180 244) 0 (by kernel_rfl) FUEL qAc o14 (q_hl (NA a1 0 0) (qFe E a1 FUEL 0 0 o14 h15)) (s_vn [] 0 ⟨[(2,vi o14)],[]⟩ ?_);obtain rfl:=oi hm;exact q_rt q_rm
 ·rcases bif_c hm with⟨b2,hm⟩|⟨b2,hm⟩
  ·exact q_vv [qf 3 b2] 0 [] [(13,vb true)] (q_J (true) hm)
  ·obtain⟨v3,h4,hm⟩:=qD hm;exact q_vv [qf 3 b2,qk 5 [9,10] 0 ⟨[(9,vb false),(10,vc (tl qB dd a1))],[]⟩ (TA a1 v3 h4)] 0 [] [(13,vb (!v3))] (q_J (!v3) hm)
def qKY (r:Int):V:=vi r
def qLr (r:Int):List (Nat×(Nat×O)):=[]
theorem qIZ (a1:List qA) (r:Int) (hm:GO a1=some r):CtX Tryz.prog globs 154 0 0 [.one (tl qB dd a1)] [] (qKY r) (qLr r):=by
 unfold GO at hm;refine q_E f154 19 λE=>?_;refine s_vn [] 0 ⟨[(0,vc (tl qB dd a1))],[]⟩ (q_sq ?_);refine q_bk 0 (s_va 0 [(3,vb (decide ((a1.length:Int)<3)))] ?_);refine q_cq hm (λhm=>?_) (λhm=>?_)
 ·refine s_vn [] 0 ⟨[(2,vi 3)],[]⟩ ?_;obtain rfl:=oi hm;exact q_rt q_rm
 ·refine s_vv [] 0 [3] [(7,vb (decide ((a1.length:Int)>32)))] (q_cq hm (λhm=>?_) (λhm=>?_))
  ·refine s_vn [] 0 ⟨[(2,vi 4)],[]⟩ ?_;obtain rfl:=oi hm;exact q_rt q_rm
  ·obtain⟨v4,h5,hm⟩:=qD hm;refine s_vv [qc 1 [12] 0 (TA a1 v4 h5)] 0 [7] [(11,vb (!v4))] (q_cq hm (λhm=>?_) (λhm=>?_))
   ·refine s_vn [] 0 ⟨[(2,vi 9)],[]⟩ ?_;obtain rfl:=oi hm;exact q_rt q_rm
   ·obtain⟨v7,h8,hm⟩:=qD hm;refine s_vn [qc 1 [16] 0 (qJf a1 v7 h8)] 0 ⟨[(15,vb (v7==0))],[]⟩ (q_cq hm (λhm=>?_) (λhm=>?_))
    ·refine s_vn [] 0 ⟨[(2,vi 19)],[]⟩ ?_;obtain rfl:=oi hm;exact q_rt q_rm
    ·refine q_sk (s_vn [] 0 ⟨[(2,vi 0)],[]⟩ ?_);obtain rfl:=oi hm;exact q_rt q_rm
open Go.Proofs Go.Proofs.Tryz
def qKR (r:Bool):V:=vb r
def qLi (r:Bool):List (Nat×(Nat×O)):=[]
theorem yD (a1:Span) (r:Bool) (hm:QS a1=some r):CtX Tryz.prog globs 157 0 0 [.agg (qF a1)] [] (qKR r) (qLi r):=by
 unfold QS at hm;refine q_E f157 8 λE=>?_;refine s_vn [] 0 ⟨[(1,vp 0 0)],[(0,bx 64 (qF a1))]⟩ (s_vn [] 1 ⟨[(2,vb (decide (a1.A≥a1.B)))],[]⟩ ?_);obtain rfl:=oi hm;exact q_rt q_rm
def LC (r:qC):V:=va [ci r.Low,.own 0 0 2 r.Rows.length]
def JY (r:qC):List (Nat×(Nat×O)):=[(0,ro 0 64 2 r.Rows.length (rf qF r.Rows))]
theorem qBg (r:qC):jO (JY r):=by
 intro i k o h;unfold JY at h;rw[look_cons] at h;split at h
 ·cases h;exact λ_ _=>rfl
 ·cases h
def wB (a1:Int) (a2:List Span):St:=
 ⟨[(0,vi a1),(1,vc (tl qF dd a2)),(4,vp 0 0),(6,vi (a2.length:Int))],[(0,bx 48 [ci 0,.emp])]⟩
def qD8 (a1:Int) (a2:List Span) (x3:Int) (x8:Bool):St:=
 (wB a1 a2).up [] [(5,vi x3),(21,vb x8)] [] []
def TW (a1:Int) (a2:List Span) (x3:Int):St:=
 (wB a1 a2).up [] [(5,vi x3)] [] []
def EM (a1:Int) (a2:List Span) (x10:Int):St:=
 (wB a1 a2).up [] [(5,vi x10)] [] []
def qEw (a1:Int) (a2:List Span) (o11:Int) (x13:Int) (x18:Bool):St:=
 (wB a1 a2).up [6] [(5,vi o11),(6,vi x13),(34,vb x18)] [] []
def TN (a1:Int) (a2:List Span) (o11:Int) (x13:Int):St:=
 (wB a1 a2).up [6] [(5,vi o11),(6,vi x13)] [] []
def SV (a1:Int) (a2:List Span) (o11:Int) (x20:Int):St:=
 (wB a1 a2).up [6] [(5,vi o11),(6,vi x20)] [] []
def qET (a1:Int) (a2:List Span) (o11:Int) (o21:Int) (x24:Int) (l25:List Span) (x31:Span):St:=
 (wB a1 a2).up [0,6] [(6,vi o21),(7,vp 1 0),(8,vi x24),(9,vp 3 0)] [] [(1,bx 48 [ci (w64 (a1+o11)),.own 2 0 2 l25.length]),(2,ro 0 64 2 l25.length (rf qF l25)),(3,bx 64 (qF x31))]
def TX (a1:Int) (a2:List Span) (o11:Int) (o21:Int) (x24:Int) (l25:List Span) (l25n:Nat):St:=
 (wB a1 a2).up [0,6] [(6,vi o21),(7,vp 1 0),(8,vi x24)] [] [(1,bx 48 [ci (w64 (a1+o11)),.own 2 0 2 l25n]),(2,ro 0 64 2 l25n (rf qF l25))]
def EI (a1:Int) (o11:Int) (l33:List Span):St:=
 ⟨[(4,vp 0 0),(7,vp 1 0)],[(0,bx 48 [ci 0,.emp]),(1,bx 48 [ci (w64 (a1+o11)),.own 2 0 2 l33.length]),(2,ro 0 64 2 l33.length (rf qF l33))]⟩
theorem qDC (E:Env 0) (a1:Int) (a2:List Span):∀(n:Nat) (x3:Int) (res:Int),jD a2 n x3=some res->HL (kx E 65 0) (nd f100 56) (zH 0 (λo=>EM a1 a2 o) res) n (TW a1 a2 x3):=by
 intro n
 induction n with
 |zero=>
  intro x3 res hm;cases hm
 |succ n ih=>
  intro x3 res hm;refine qP (q_sq ?_);refine q_jn (qD8 a1 a2 x3) (λp=>KG x3 (jD a2 n) p=some res) ?_ ?_
  ·rintro x8 hm;refine q_cq hm (λhm=>?_) (λhm=>?_)
   ·refine q_sk (q_bk 1 ?_);exact q_vv [] 1 [5,21] [(5,vi (w64 (x3+1)))] (q_hl (TW a1 a2 (w64 (x3+1))) (ih (w64 (x3+1)) _ hm))
   ·refine q_ex 0 ?_;obtain rfl:=oi hm;exact q_l0
  ·rcases bif_c hm with⟨b4,hm⟩|⟨b4,hm⟩
   ·obtain⟨g5,hm⟩:=qH hm;obtain⟨v6,h7,hm⟩:=qD hm;exact q_vv [qf 3 b4,qi 6 g5,qk 8 [15,19] 1 ⟨[(15,vb true),(19,va [ci ((a2.getD x3.toNat dd).A),ci ((a2.getD x3.toNat dd).B)])],[]⟩ (yD (a2.getD x3.toNat dd) v6 h7)] 1 [] [(21,vb v6)] (q_J (v6) hm)
   ·exact q_vv [qf 3 b4] 1 [] [(21,vb false)] (q_J (false) hm)
theorem qDx (E:Env 0) (a1:Int) (a2:List Span) (o11:Int):∀(n:Nat) (x13:Int) (res:Int),jX a2 o11 n x13=some res->HL (kx E 65 0) (nd f100 120) (zH 2 (λo=>SV a1 a2 o11 o) res) n (TN a1 a2 o11 x13):=by
 intro n
 induction n with
 |zero=>
  intro x13 res hm;cases hm
 |succ n ih=>
  intro x13 res hm;refine qP (q_sq ?_);refine q_jn (qEw a1 a2 o11 x13) (λp=>KH x13 (jX a2 o11 n) p=some res) ?_ ?_
  ·rintro x18 hm;refine q_cq hm (λhm=>?_) (λhm=>?_)
   ·refine q_sk (q_bk 3 ?_);exact q_vv [] 1 [6,34] [(6,vi (w64 (x13-1)))] (q_hl (TN a1 a2 o11 (w64 (x13-1))) (ih (w64 (x13-1)) _ hm))
   ·refine q_ex 2 ?_;obtain rfl:=oi hm;exact q_l0
  ·rcases bif_c hm with⟨b14,hm⟩|⟨b14,hm⟩
   ·obtain⟨g15,hm⟩:=qH hm;obtain⟨v16,h17,hm⟩:=qD hm;exact q_vv [qf 3 b14,qi 7 g15,qk 9 [27,32] 1 ⟨[(27,vb true),(32,va [ci ((a2.getD (w64 (x13-1)).toNat dd).A),ci ((a2.getD (w64 (x13-1)).toNat dd).B)])],[]⟩ (yD (a2.getD (w64 (x13-1)).toNat dd) v16 h17)] 1 [] [(34,vb v16)] (q_J (v16) hm)
   ·exact q_vv [qf 3 b14] 1 [] [(34,vb false)] (q_J (false) hm)
theorem qDy (E:Env 0) (a1:Int) (a2:List Span) (o11:Int) (o21:Int):∀(n:Nat) (x24:Int) (l25:List Span) (l25n:Nat) (res:(List Span)),l25.length=l25n->wD a2 o21 n x24 l25=some res->HL (kx E 65 0) (nd f100 2036) (zH 4 (λo=>EI a1 o11 o) res) n (TX a1 a2 o11 o21 x24 l25 l25n):=by
 intro n
 induction n with
 |zero=>
  intro x24 l25 l25n res hl0 hm;cases hm
 |succ n ih=>
  intro x24 l25 l25n res hl0 hm;subst hl0;refine qP (q_sq ?_);refine s_va 3 [(48,vb (decide (x24<o21)))] (q_cq hm (λhm=>?_) (λhm=>?_))
  ·refine q_sk (q_sq ?_);refine q_bk 5 ?_;obtain⟨g27,hm⟩:=qH hm;refine s_vu [qi 2 g27] 3 [48] [(9,vp 3 0)] [] [(3,bx 64 (qF (a2.getD x24.toNat dd)))] (q_jn (qET a1 a2 o11 o21 x24 l25) (λp=>QN x24 l25 (wD a2 o21 n) p=some res) ?_ ?_)
   ·rintro x31 hm;obtain⟨g32,hm⟩:=qH hm;refine q_vu [qd 3 (drw 4 0 (rf qF [x31])) (litP qF dd 2 (λ_=>rfl) ([x31]:List Span) 1 rfl),qd 4 (drw 2 1 (rf qF (l25++[x31]))) (apP qF dd l25 ([x31]:List Span) l25.length 1 2 16 (1<=1) (ki _) rfl rfl (λ_=>rfl) (zK g32))] 4 [9] [] [1,2,3] [(1,bx 48 [ci (w64 (a1+o11)),.own 2 1 2 (l25.length+1)]),(2,ro 1 64 2 (l25.length+1) (rf qF (l25++[x31])))] (q_vv [] 5 [8] [(8,vi (w64 (x24+1)))] ?_);exact q_hl (TX a1 a2 o11 o21 (w64 (x24+1)) (l25++[x31]) (l25.length+1)) (ih (w64 (x24+1)) (l25++[x31]) (l25.length+1) _ (zA rfl rfl) hm)
   ·obtain⟨v28,h29,hm⟩:=qD hm;refine s_vv [qc 1 [55] 4 (yD (a2.getD x24.toNat dd) v28 h29)] 4 [] [(56,vb v28)] (q_cq hm (λhm=>?_) (λhm=>?_))
    ·exact q_vu [] 4 [56] [] [3] [(3,bx 64 [ci 0,ci 0])] (q_J ((Span.mk 0 0)) hm)
    ·exact q_sk (q_J ((a2.getD x24.toNat dd)) hm)
  ·refine q_ex 4 ?_;obtain rfl:=oi hm;exact q_l0
theorem OQ (a1:Int) (a2:List Span) (r:qC) (hm:QA a1 a2=some r):CtX Tryz.prog globs 100 0 0 [.one (ci a1),.one (tl qF dd a2)] [] (LC r) (JY r):=by
 unfold QA at hm;refine q_E f100 65 λE=>?_;refine s_vn [] 0 ⟨[(0,vi a1),(1,vc (tl qF dd a2)),(4,vp 0 0)],[(0,bx 48 [ci 0,.emp])]⟩ (s_va 1 [(5,vi 0),(6,vi (a2.length:Int))] ?_);refine q_sq ?_;obtain⟨o11,h12,hm⟩:=qD hm;refine qY (nd f100 56) 0 (by kernel_rfl) FUEL (λo=>EM a1 a2 o) o11 (q_hl (TW a1 a2 0) (qDC E a1 a2 FUEL 0 o11 h12)) (q_sq ?_);obtain⟨o21,h22,hm⟩:=qD hm;refine qY (nd f100 120) 2 (by kernel_rfl) FUEL (λo=>SV a1 a2 o11 o) o21 (q_hl (TN a1 a2 o11 (a2.length:Int)) (qDx E a1 a2 o11 FUEL (a2.length:Int) o21 h22)) (q_sq ?_)
 refine s_va 1 [(39,vb (o11==o21))] (q_cq hm (λhm=>?_) (λhm=>?_))
 ·refine s_vv [] 1 [0,1,5,6,39] [] (q_fu [.ownB 0 1 1 64 2 (rf qF [])] [] [] [0] [(0,bx 48 [ci 0,.own 1 0 2 0]),(1,ro 0 64 2 0 (rf qF []))] o0 ?_);refine q_fu [.len 1 (([]:List Span).length)] [] [] [0,1] [(0,bx 48 [ci 0,.own 1 0 2 (([]:List Span).length)]),(1,ro 0 64 2 (([]:List Span).length) (rf qF []))] (o1 (And.intro (show 0=([]:List Span).length from rfl) (show 0=([]:List Span).length from rfl))) ?_;obtain rfl:=oi hm;exact q_sw 1 0 (q_rt q_rm)
 ·refine q_sk (s_vu [] 1 [0,39] [(7,vp 1 0)] [] [(1,bx 48 [ci (w64 (a1+o11)),.emp])] ?_);refine q_sq (s_vv [] 2 [5] [(8,vi o11)] ?_);refine q_fu [.ownB 1 1 2 64 2 (rf qF [])] [] [] [1] [(1,bx 48 [ci (w64 (a1+o11)),.own 2 0 2 0]),(2,ro 0 64 2 0 (rf qF []))] o0 ?_;obtain⟨o34,h35,hm⟩:=qD hm;refine qY (nd f100 2036) 4 (by kernel_rfl) FUEL (λo=>EI a1 o11 o) o34 (q_hl (TX a1 a2 o11 o21 o11 ([]:List Span) 0) (qDy E a1 a2 o11 o21 FUEL o11 ([]:List Span) 0 o34 rfl h35)) (s_vu [] 3 [7] [] [0,1] [(0,bx 48 [ci (w64 (a1+o11)),.own 2 0 2 o34.length])] ?_);obtain rfl:=oi hm;exact q_sw 2 0 (q_rt q_rm)
def qHN (r:qC×Int):V:= .tup [.agg [ci r.1.Low,.own 0 0 2 r.1.Rows.length],.one (ci r.2)]
def IT (r:qC×Int):List (Nat×(Nat×O)):=[(0,ro 0 64 2 r.1.Rows.length (rf qF r.1.Rows))]
theorem qPu (r:qC×Int):jO (IT r):=by
 intro i k o h;unfold IT at h;rw[look_cons] at h;split at h
 ·cases h;exact λ_ _=>rfl
 ·cases h
def YH (a1:List qA):St:=
 ⟨[(0,vc (tl qB dd a1)),(2,vp 0 0)],[(0,bx 48 [ci 0,.emp])]⟩
def AP (a1:List qA) (x6:Int) (x7:Int) (x8:Int):St:=
 (YH a1).up [] [(5,vi x6),(6,vi x7),(7,vi x8)] [] []
def qDn (a1:List qA) (x11:Int) (x12:Int):St:=
 (YH a1).up [] [(5,vi x11),(6,vi x12)] [] []
def qLu (a1:List qA) (o13:Int×Int) (l15:List Span) (x16:Int) (x23:Span):St:=
 (YH a1).up [] [(5,vi o13.1),(6,vi o13.2),(8,vo 1 0 2 l15.length),(9,vi x16),(10,vp 2 0)] [] [(1,ro 0 64 2 l15.length (rf qF l15)),(2,bx 64 (qF x23))]
def qLm (a1:List qA) (o13:Int×Int) (l15:List Span) (x16:Int) (x19:Bool):St:=
 (YH a1).up [] [(5,vi o13.1),(6,vi o13.2),(8,vo 1 0 2 l15.length),(9,vi x16),(10,vp 2 0),(61,vb x19)] [] [(1,ro 0 64 2 l15.length (rf qF l15)),(2,bx 64 [ci 0,ci 0])]
def AX (a1:List qA) (o13:Int×Int) (l15:List Span) (l15n:Nat) (x16:Int):St:=
 (YH a1).up [] [(5,vi o13.1),(6,vi o13.2),(8,vo 1 0 2 l15n),(9,vi x16)] [] [(1,ro 0 64 2 l15n (rf qF l15))]
def qDq (l25:List Span):St:=
 ⟨[(2,vp 0 0),(8,vo 1 0 2 l25.length)],[(0,bx 48 [ci 0,.emp]),(1,ro 0 64 2 l25.length (rf qF l25))]⟩
theorem qJr (E:Env 0) (a1:List qA):∀(n:Nat) (x6:Int) (x7:Int) (x8:Int) (res:Int×Int),YN a1 n x6 x7 x8=some res->HL (kx E 81 0) (nd f97 244) (zH 0 (λo=>qDn a1 o.1 o.2) res) n (AP a1 x6 x7 x8):=by
 intro n
 induction n with
 |zero=>
  intro x6 x7 x8 res hm;cases hm
 |succ n ih=>
  intro x6 x7 x8 res hm;refine qP (q_sq ?_);refine s_va 1 [(29,vb (decide (x8<(a1.length:Int))))] (q_cq hm (λhm=>?_) (λhm=>?_))
  ·refine q_sk (q_sq ?_);refine q_bk 1 ?_;obtain⟨g10,hm⟩:=qH hm;refine s_vv [qi 3 g10] 1 [5,29] [(5,vi (imin x6 ((a1.getD x8.toNat dd).Y)))] (q_vv [qi 3 g10] 1 [6] [(6,vi (imax x7 ((a1.getD x8.toNat dd).Y)))] ?_);exact q_vv [] 1 [7] [(7,vi (w64 (x8+1)))] (q_hl (AP a1 (imin x6 ((a1.getD x8.toNat dd).Y)) (imax x7 ((a1.getD x8.toNat dd).Y)) (w64 (x8+1))) (ih (imin x6 ((a1.getD x8.toNat dd).Y)) (imax x7 ((a1.getD x8.toNat dd).Y)) (w64 (x8+1)) _ hm))
  ·refine q_ex 0 ?_;obtain rfl:=oi hm;exact q_l0
theorem qJO (E:Env 0) (a1:List qA) (o13:Int×Int):∀(n:Nat) (l15:List Span) (l15n:Nat) (x16:Int) (res:(List Span)),l15.length=l15n->wT a1 o13 n l15 x16=some res->HL (kx E 81 0) (nd f97 1012) (zH 2 qDq res) n (AX a1 o13 l15 l15n x16):=by
 intro n
 induction n with
 |zero=>
  intro l15 l15n x16 res hl0 hm;cases hm
 |succ n ih=>
  intro l15 l15n x16 res hl0 hm;subst hl0;refine qP (q_sq ?_);refine s_va 2 [(47,vb (decide (x16<60)))] (q_cq hm (λhm=>?_) (λhm=>?_))
  ·refine q_sk (q_sq ?_);refine q_bk 3 (s_vu [] 2 [47] [(10,vp 2 0)] [] [(2,bx 64 [ci 0,ci 0])] ?_);refine q_jn (qLu a1 o13 l15 x16) (λp=>DE l15 x16 (wT a1 o13 n) p=some res) ?_ ?_
   ·rintro x23 hm;obtain⟨g24,hm⟩:=qH hm;refine q_vu [qd 2 (drw 3 0 (rf qF [x23])) (litP qF dd 2 (λ_=>rfl) ([x23]:List Span) 1 rfl),qd 3 (drw 1 1 (rf qF (l15++[x23]))) (apP qF dd l15 ([x23]:List Span) l15.length 1 2 16 (1<=1) (ki _) rfl rfl (λ_=>rfl) (zK g24))] 3 [8,10] [(8,vo 1 1 2 (l15.length+1))] [1,2] [(1,ro 1 64 2 (l15.length+1) (rf qF (l15++[x23])))] (q_vv [] 4 [9] [(9,vi (w64 (x16+1)))] ?_);exact q_hl (AX a1 o13 (l15++[x23]) (l15.length+1) (w64 (x16+1))) (ih (l15++[x23]) (l15.length+1) (w64 (x16+1)) _ (zA rfl rfl) hm)
   ·refine q_jn (qLm a1 o13 l15 x16) (λp=>SG a1 l15 x16 (wT a1 o13 n) p=some res) ?_ ?_
    ·rintro x19 hm;refine q_cq hm (λhm=>?_) (λhm=>?_)
     ·obtain⟨v21,h22,hm⟩:=qD hm;exact q_vu [qc 6 [62,64,67] 3 (qJK a1 (w64 (10*x16)) (w64 (10*(w64 (x16+1)))) v21 h22)] 3 [61] [] [2] [(2,bx 64 (qF v21))] (q_J (v21) hm)
     ·exact q_sk (q_J ((Span.mk 0 0)) hm)
    ·rcases bif_c hm with⟨b18,hm⟩|⟨b18,hm⟩
     ·exact q_vv [qf 4 b18] 3 [] [(61,vb (decide ((w64 (10*(w64 (x16+1))))<=o13.2)))] (q_J (decide ((w64 (10*(w64 (x16+1))))<=o13.2)) hm)
     ·exact q_vv [qf 4 b18] 3 [] [(61,vb false)] (q_J (false) hm)
  ·refine q_ex 2 ?_;obtain rfl:=oi hm;exact q_l0
theorem qOp (a1:List qA) (r:qC×Int) (hm:qAb a1=some r):CtX Tryz.prog globs 97 0 0 [.one (tl qB dd a1)] [] (qHN r) (IT r):=by
 unfold qAb at hm;refine q_E f97 81 λE=>?_;refine s_vn [] 0 ⟨[(0,vc (tl qB dd a1)),(2,vp 0 0)],[(0,bx 48 [ci 0,.emp])]⟩ (q_sq ?_);obtain⟨v2,h3,hm⟩:=qD hm;refine s_vv [qc 1 [12] 1 (qIZ a1 v2 h3)] 1 [] [(4,vi v2)] (s_va 1 [(15,vb (v2 !=0))] ?_);refine q_cq hm (λhm=>?_) (λhm=>?_)
 ·refine s_vv [] 1 [0,4,15] [(3,vi v2)] (q_fu [.ownB 0 1 1 64 2 (rf qF [])] [] [] [0] [(0,bx 48 [ci 0,.own 1 0 2 0]),(1,ro 0 64 2 0 (rf qF []))] o0 ?_);refine q_fu [.len 1 (([]:List Span).length)] [] [] [0,1] [(0,bx 48 [ci 0,.own 1 0 2 (([]:List Span).length)]),(1,ro 0 64 2 (([]:List Span).length) (rf qF []))] (o1 (And.intro (show 0=([]:List Span).length from rfl) (show 0=([]:List Span).length from rfl))) ?_;obtain rfl:=oi hm;exact q_sw 1 0 (q_rt q_rm)
 ·refine q_sk ?_;obtain⟨g5,hm⟩:=qH hm;refine s_du [qi 1 g5,qi 5 g5] [0,1,3,7,0,16,48,112,15,511] 1 [4,15] [(5,vi ((a1.getD (0:Int).toNat dd).Y)),(6,vi ((a1.getD (0:Int).toNat dd).Y))] [] [] (q_sq ?_);refine s_va 1 [(7,vi 0)] ?_;obtain⟨o13,h14,hm⟩:=qD hm;refine qY (nd f97 244) 0 (by kernel_rfl) FUEL (λo=>qDn a1 o.1 o.2) o13 (q_hl (AP a1 ((a1.getD (0:Int).toNat dd).Y) ((a1.getD (0:Int).toNat dd).Y) 0) (qJr E a1 FUEL ((a1.getD (0:Int).toNat dd).Y) ((a1.getD (0:Int).toNat dd).Y) 0 o13 h14)) (s_va 1 [(8,vc (.emp))] ?_);refine q_sq (s_va 1 [(9,vi (-60))] ?_);refine q_fo 8 1 64 2 qF ?_
  obtain⟨o26,h27,hm⟩:=qD hm;refine qY (nd f97 1012) 2 (by kernel_rfl) FUEL qDq o26 (q_hl (AX a1 o13 ([]:List Span) 0 (-60)) (qJO E a1 o13 FUEL ([]:List Span) 0 (-60) o26 rfl h27)) ?_;obtain⟨v28,h29,hm⟩:=qD hm
  refine s_vu [qd 1 (dex (cen [] [] 2 0 (LC v28) (JY v28) [73] [1])) (zJ (K:=(kx E 81 0)) (b:=false) ⟨[(73,vo 1 0 2 o26.length)],[(1,ro 0 64 2 o26.length (rf qF o26))]⟩ (opAt (rg f97 254) 1) [] [] 2 (o1 (ki o26.length)) rfl (OQ (-60) o26 v28 h29) (.inr ⟨(by kernel_rfl),qBg v28⟩) (by kernel_rfl))] 2 [8] [(11,vp 3 0)] [1] [(2,ro 0 64 2 v28.Rows.length (rf qF v28.Rows)),(3,bx 48 [ci v28.Low,.own 2 0 2 v28.Rows.length])] (q_sq ?_);refine s_va 4 [(78,vb ((v28.Rows.length:Int)==0))] (q_cq hm (λhm=>?_) (λhm=>?_))
  ·refine s_vu [] 4 [11,78] [(3,vi 18)] [2,3] [] (q_fu [.ownB 0 1 4 64 2 (rf qF [])] [] [] [0] [(0,bx 48 [ci 0,.own 4 0 2 0]),(4,ro 0 64 2 0 (rf qF []))] o0 ?_);refine q_fu [.len 4 (([]:List Span).length)] [] [] [0,4] [(0,bx 48 [ci 0,.own 4 0 2 (([]:List Span).length)]),(4,ro 0 64 2 (([]:List Span).length) (rf qF []))] (o1 (And.intro (show 0=([]:List Span).length from rfl) (show 0=([]:List Span).length from rfl))) ?_;obtain rfl:=oi hm;exact q_sw 4 0 (q_rt q_rm)
  ·refine q_sk (s_vu [] 4 [11,78] [(3,vi 0)] [0,3] [(0,bx 48 [ci v28.Low,.own 2 0 2 v28.Rows.length])] ?_);obtain rfl:=oi hm;exact q_sw 2 0 (q_rt q_rm)
open Go.Proofs Go.Proofs.Tryz
def qHR (r:qC×Bool):V:= .tup [.agg [ci r.1.Low,.own 0 0 2 r.1.Rows.length],.one (cb r.2)]
def qHo (r:qC×Bool):List (Nat×(Nat×O)):=[(0,ro 0 64 2 r.1.Rows.length (rf qF r.1.Rows))]
theorem qG1 (a1:Ring) (a2:Int) (a3:Int) (r:qC×Bool) (hm:PG a1 a2 a3=some r):CtX Tryz.prog globs 46 0 0 [.agg (qN a1),.one (ci a2),.one (ci a3)] [] (qHR r) (qHo r):=by
 unfold PG at hm;refine q_E f46 31 λE=>?_;refine s_vn [] 0 ⟨[(1,vi a2),(2,vi a3),(3,vp 0 0),(6,vp 1 0)],[(0,bx 45 (qN a1)),(1,bx 48 [ci 0,.emp])]⟩ ?_;obtain⟨v4,h5,hm⟩:=qD hm;obtain⟨v6,h7,hm⟩:=qD hm
 refine s_vu [qc 2 [13,14] 2 (qJU a1 a2 v4 h5),qd 4 (dex (cen [] [] 3 0 (qB3 v6) (UM v6) [15,16] [2])) (zJ (K:=(kx E 31 0)) (b:=false) ⟨[(15,va [ci v4.Z,.own 2 0 3 v4.Read.length]),(16,vi a3)],[(2,ro 0 73 3 v4.Read.length (rf qG v4.Read))]⟩ (opAt (rg f46 6) 4) [] [] 3 (o1 (ki v4.Read.length)) rfl (qHD (Ring.mk v4.Z v4.Read) a3 v6 h7) (.inr ⟨(by kernel_rfl),qJd v6⟩) (by kernel_rfl))] 2 [1,2,3] [(8,vo 3 0 2 v6.1.length),(9,vi v6.2)] [0] [(3,ro 0 71 2 v6.1.length (rf qB v6.1))] (q_sq ?_);refine s_vv [] 4 [9] [(21,vb (v6.2 !=0))] (q_cq hm (λhm=>?_) (λhm=>?_))
 ·refine s_vu [] 4 [8,21] [(7,vb false)] [3] [] (q_fu [.ownB 1 1 4 64 2 (rf qF [])] [] [] [1] [(1,bx 48 [ci 0,.own 4 0 2 0]),(4,ro 0 64 2 0 (rf qF []))] o0 ?_);refine q_fu [.len 4 (([]:List Span).length)] [] [] [1,4] [(1,bx 48 [ci 0,.own 4 0 2 (([]:List Span).length)]),(4,ro 0 64 2 (([]:List Span).length) (rf qF []))] (o1 (And.intro (show 0=([]:List Span).length from rfl) (show 0=([]:List Span).length from rfl))) ?_;obtain rfl:=oi hm;exact q_sw 4 0 (q_rt q_rm)
 ·refine q_sk ?_;obtain⟨v9,h10,hm⟩:=qD hm;refine s_vu [qd 1 (dex (cen [] [] 4 0 (qHN v9) (IT v9) [24] [3])) (zJ (K:=(kx E 31 0)) (b:=false) ⟨[(24,vo 3 0 2 v6.1.length)],[(3,ro 0 71 2 v6.1.length (rf qB v6.1))]⟩ (opAt (rg f46 30) 1) [] [] 4 (o1 (ki v6.1.length)) rfl (qOp v6.1 v9 h10) (.inr ⟨(by kernel_rfl),qPu v9⟩) (by kernel_rfl))] 4 [8,21] [(10,vp 5 0),(11,vi v9.2)] [3] [(4,ro 0 64 2 v9.1.Rows.length (rf qF v9.1.Rows)),(5,bx 48 [ci v9.1.Low,.own 4 0 2 v9.1.Rows.length])] (s_vu [] 6 [10,11] [(7,vb (v9.2==0))] [1,5] [(1,bx 48 [ci v9.1.Low,.own 4 0 2 v9.1.Rows.length])] ?_);obtain rfl:=oi hm
  exact q_sw 4 0 (q_rt q_rm)
def qNQ (r:Span):V:=va (qF r)
def qOi (r:Span):List (Nat×(Nat×O)):=[]
def qJA (a1:qC) (a2:Int) (x4:Bool):St:=
 ⟨[(1,vi a2),(2,vp 0 0),(4,vp 1 0),(18,vb x4)],[(0,bx 48 (qJ a1)),(1,bx 64 [ci 0,ci 0])]⟩
theorem qEN (a1:qC) (a2:Int) (r:Span) (hm:NP a1 a2=some r):CtX Tryz.prog globs 99 0 0 [.agg (qJ a1),.one (ci a2)] [] (qNQ r) (qOi r):=by
 unfold NP at hm;refine q_E f99 28 λE=>?_;refine s_vn [] 0 ⟨[(1,vi a2),(2,vp 0 0),(4,vp 1 0)],[(0,bx 48 (qJ a1)),(1,bx 64 [ci 0,ci 0])]⟩ (q_sq ?_);refine q_jn (qJA a1 a2) (λp=>LK a1 a2 p=some r) ?_ ?_
 ·rintro x4 hm;refine q_cq hm (λhm=>?_) (λhm=>?_)
  ·refine s_vu [] 2 [1,2,18] [] [0] [] ?_;obtain rfl:=oi hm;exact q_rt q_rm
  ·refine q_sk ?_;obtain⟨g6,hm⟩:=qH hm;refine s_vn [qi 6 g6] 2 ⟨[(4,vp 1 0)],[(1,bx 64 (qF (a1.Rows.getD (w64 (a2-a1.Low)).toNat dd)))]⟩ ?_;obtain rfl:=oi hm;exact q_rt q_rm
 ·rcases bif_c hm with⟨b3,hm⟩|⟨b3,hm⟩
  ·exact q_vv [qf 4 b3] 2 [] [(18,vb true)] (q_J (true) hm)
  ·exact q_vv [qf 4 b3] 2 [] [(18,vb (decide (a2≥(w64 (a1.Low+(a1.Rows.length:Int))))))] (q_J (decide (a2≥(w64 (a1.Low+(a1.Rows.length:Int))))) hm)
def qJv (r:Bool):V:=vb r
def qJn (r:Bool):List (Nat×(Nat×O)):=[]
def qFc (x3:Bool):St:=
 ⟨[(2,vb x3)],[]⟩
theorem ME (a1:Int) (r:Bool) (hm:XW a1=some r):CtX Tryz.prog globs 183 0 0 [.one (ci a1)] [] (qJv r) (qJn r):=by
 unfold XW at hm;refine q_E f183 9 λE=>?_;refine s_vn [] 0 ⟨[(0,vi a1)],[]⟩ (q_jn (qFc) (λp=>TC p=some r) ?_ ?_)
 ·rintro x3 hm;obtain rfl:=oi hm;exact q_rt q_rm
 ·rcases bif_c hm with⟨b2,hm⟩|⟨b2,hm⟩
  ·exact q_vn [qf 2 b2] 0 ⟨[(2,vb true)],[]⟩ (q_J (true) hm)
  ·exact q_vn [qf 2 b2] 0 ⟨[(2,vb (decide (a1>600)))],[]⟩ (q_J (decide (a1>600)) hm)
end Saw
end Go.SL

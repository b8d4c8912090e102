import Derived.Test.YtigmogcdifllhaaGreatDoorEBase
import Derived.Test.YtigmogcdifllhaaGreatDoorEFa14
import Derived.Test.YtigmogcdifllhaaGreatDoorEFa13
set_option linter.unusedVariables false
set_option linter.unusedSimpArgs false
namespace Go.SL
namespace Saw
open Go.Proofs Go.Proofs.Tryz
set_option maxHeartbeats 4000000
set_option maxRecDepth 100000
def qW9 (r:(List qA)):V:=vo 0 0 2 r.length
def qWd (r:(List qA)):List (Nat×(Nat×O)):=[(0,ro 0 93 2 r.length (rf qB r))]
def qBj (v7:(List qA)) (l9:List qA) (l9n:Nat) (x10:Int):St:=
 ⟨[(3,vo 0 0 2 v7.length),(4,vo 1 0 2 l9n),(5,vi x10)],[(0,ro 0 93 2 v7.length (rf qB v7)),(1,ro 0 93 2 l9n (rf qB l9))]⟩
def qGN (v7:(List qA)) (l14:List qA):St:=
 ⟨[(3,vo 0 0 2 v7.length),(4,vo 1 0 2 l14.length)],[(0,ro 0 93 2 v7.length (rf qB v7)),(1,ro 0 93 2 l14.length (rf qB l14))]⟩
def qR2 (a1:List qA) (x5:Bool):St:=
 ⟨[(0,vc (tl qB dd a1)),(16,vb x5)],[]⟩
theorem qOv (E:Env 0) (v7:(List qA)):∀(n:Nat) (l9:List qA) (l9n:Nat) (x10:Int) (res:(List qA)),l9.length=l9n->YM v7 n l9 x10=some res->HL (kx E 57 0) (nd f207 500) (zF 0 (λo=>qGN v7 o) res) n (qBj v7 l9 l9n x10):=by
 intro n
 induction n with
 |zero=>
  intro l9 l9n x10 res hl0 hm;cases hm
 |succ n ih=>
  intro l9 l9n x10 res hl0 hm;subst hl0;refine qR (q_sq ?_);refine s_va 2 [(23,vb (decide (x10≥0)))] (q_cq hm (λhm=>?_) (λhm=>?_))
  ·refine q_sk (q_sq ?_);refine q_bk 1 ?_;obtain⟨g12,hm⟩:=qI hm;obtain⟨g13,hm⟩:=qI hm;refine q_vu [qi 3 g12,qd 4 dN (qW (zD g12)),qd 5 (drw 2 0 (rf qB [(v7.getD x10.toNat dd)])) (litP qB dd 2 (λ_=>rfl) ([(v7.getD x10.toNat dd)]:List qA) 1 rfl),qd 6 (drw 1 1 (rf qB (l9++[(v7.getD x10.toNat dd)]))) (apP qB dd l9 ([(v7.getD x10.toNat dd)]:List qA) l9.length 1 2 16 (1<=1) (kd _) rfl rfl (λ_=>rfl) (zN g13))] 2 [4,23] [(4,vo 1 1 2 (l9.length+1))] [1] [(1,ro 1 93 2 (l9.length+1) (rf qB (l9++[(v7.getD x10.toNat dd)])))] (q_vv [] 3 [5] [(5,vi (w64 (x10-1)))] ?_)
   exact q_hl (qBj v7 (l9++[(v7.getD x10.toNat dd)]) (l9.length+1) (w64 (x10-1))) (ih (l9++[(v7.getD x10.toNat dd)]) (l9.length+1) (w64 (x10-1)) _ (zH rfl rfl) hm)
  ·refine q_ex 0 ?_;obtain rfl:=oi hm;exact q_l0
theorem qUX (a1:List qA) (r:(List qA)) (hm:qAx a1=some r):CtX Tryz.prog globs 207 0 0 [.one (tl qB dd a1)] [] (qW9 r) (qWd r):=by
 unfold qAx at hm;refine q_E f207 57 λE=>?_;refine s_vn [] 0 ⟨[(0,vc (tl qB dd a1))],[]⟩ (q_sq ?_);refine q_jn (qR2 a1) (λp=>AJ a1 p=some r) ?_ ?_
 ·rintro x5 hm;refine q_cq hm (λhm=>?_) (λhm=>?_)
  ·refine s_vn [] 0 ⟨[(2,vc (.emp))],[]⟩ (q_fn [.own 2 0 93 2 (rf qB [])] ⟨[(2,vo 0 0 2 0)],[(0,ro 0 93 2 0 (rf qB []))]⟩ o0 ?_);refine q_fn [.len 0 (([]:List qA).length)] ⟨[(2,vo 0 0 2 (([]:List qA).length))],[(0,ro 0 93 2 (([]:List qA).length) (rf qB []))]⟩ (o1 (And.intro (show 0=([]:List qA).length from rfl) (show 0=([]:List qA).length from rfl))) ?_;obtain rfl:=oi hm;exact q_rt q_rm
  ·refine q_sk ?_;obtain⟨v7,h8,hm⟩:=qC hm;refine s_vn [qc 1 [17] 0 (qQR a1 v7 h8)] 0 ⟨[(3,vo 0 0 2 v7.length)],[(0,ro 0 93 2 v7.length (rf qB v7))]⟩ (s_va 1 [(4,vc (.emp))] ?_);refine q_sq (s_va 1 [(5,vi (w64 ((v7.length:Int)-1)))] ?_);refine q_fo 4 1 93 2 qB ?_;obtain⟨o15,h16,hm⟩:=qC hm;refine zB (nd f207 500) 0 (by kernel_rfl) FUEL (λo=>qGN v7 o) o15 (q_hl (qBj v7 ([]:List qA) 0 (w64 ((v7.length:Int)-1))) (qOv E v7 FUEL ([]:List qA) 0 (w64 ((v7.length:Int)-1)) o15 rfl h16)) ?_;obtain⟨v17,h18,hm⟩:=qC hm;obtain⟨v19,h20,hm⟩:=qC hm
   refine s_vn [qd 1 (dex (cen [] [] 2 0 (qD9 v17) (GV v17) [33] [0])) (zW (K:=(kx E 57 0)) (b:=false) ⟨[(33,vo 0 0 2 v7.length)],[(0,ro 0 93 2 v7.length (rf qB v7))]⟩ (opAt (rg f207 126) 1) [] [] 2 (o1 (kd v7.length)) rfl (qI8 v7 v17 h18) (.inr ⟨(by kernel_rfl),qKw v17⟩) (by kernel_rfl)),qd 3 (dex (cen [] [] 3 0 (qD9 v19) (GV v19) [35] [1])) (zW (K:=(kx E 57 0)) (b:=false) ⟨[(35,vo 1 0 2 o15.length)],[(1,ro 0 93 2 o15.length (rf qB o15))]⟩ (opAt (rg f207 126) 3) [] [] 3 (o1 (kd o15.length)) rfl (qI8 o15 v19 h20) (.inr ⟨(by kernel_rfl),qKw v19⟩) (by kernel_rfl))] 2 ⟨[(6,vo 2 0 2 v17.length),(7,vo 3 0 2 v19.length)],[(2,ro 0 93 2 v17.length (rf qB v17)),(3,ro 0 93 2 v19.length (rf qB v19))]⟩ (q_sq ?_)
   refine s_va 4 [(42,vb (decide ((w64 ((v17.length:Int)+(v19.length:Int)))<5)))] (q_cq hm (λhm=>?_) (λhm=>?_))
   ·refine s_vn [] 4 ⟨[(2,vc (.emp))],[]⟩ (q_fn [.own 2 4 93 2 (rf qB [])] ⟨[(2,vo 4 0 2 0)],[(4,ro 0 93 2 0 (rf qB []))]⟩ o0 ?_);refine q_fn [.len 4 (([]:List qA).length)] ⟨[(2,vo 4 0 2 (([]:List qA).length))],[(4,ro 0 93 2 (([]:List qA).length) (rf qB []))]⟩ (o1 (And.intro (show 0=([]:List qA).length from rfl) (show 0=([]:List qA).length from rfl))) ?_;obtain rfl:=oi hm;exact q_sw 4 0 (q_rt q_rm)
   ·refine q_sk ?_;obtain⟨g22,hm⟩:=qI hm;obtain⟨g23,hm⟩:=qI hm
    refine s_vu [qd 0 (drw 4 0 (rf qB [])) (litP qB dd 2 (λ_=>rfl) ([]:List qA) 0 rfl),qd 5 dN (And.intro (zG g22).2.1 (zG g22).2.2),qd 6 (drw 4 1 (rf qB (([]:List qA)++(v17.take ((w64 ((v17.length:Int)-1)).toNat))))) (apPt qB dd ([]:List qA) v17 0 ((w64 ((v17.length:Int)-1)).toNat) v17.length 2 16 (show(w64 ((v17.length:Int)-1)).toNat<=v17.length by have:=(zG g22);omega) rfl rfl (λ_=>rfl) (zN g23))] 4 [6,42] [(8,vo 4 1 2 (0+(w64 ((v17.length:Int)-1)).toNat))] [2] [(4,ro 1 93 2 (0+(w64 ((v17.length:Int)-1)).toNat) (rf qB (([]:List qA)++(v17.take ((w64 ((v17.length:Int)-1)).toNat)))))] ?_
    obtain⟨g24,hm⟩:=qI hm;obtain⟨g25,hm⟩:=qI hm
    refine s_vn [qd 5 dN (And.intro (zG g24).2.1 (zG g24).2.2),qd 6 (drw 4 2 (rf qB ((([]:List qA)++(v17.take ((w64 ((v17.length:Int)-1)).toNat)))++(v19.take ((w64 ((v19.length:Int)-1)).toNat))))) (apPt qB dd (([]:List qA)++(v17.take ((w64 ((v17.length:Int)-1)).toNat))) v19 (0+(w64 ((v17.length:Int)-1)).toNat) ((w64 ((v19.length:Int)-1)).toNat) v19.length 2 16 (show(w64 ((v19.length:Int)-1)).toNat<=v19.length by have:=(zG g24);omega) (zH rfl (jE rfl (show(w64 ((v17.length:Int)-1)).toNat<=v17.length by have:=(zG g22);omega))) rfl (λ_=>rfl) (zN g25))] 5 ⟨[(2,vo 4 2 2 ((0+(w64 ((v17.length:Int)-1)).toNat)+(w64 ((v19.length:Int)-1)).toNat))],[(4,ro 2 93 2 ((0+(w64 ((v17.length:Int)-1)).toNat)+(w64 ((v19.length:Int)-1)).toNat) (rf qB ((([]:List qA)++(v17.take ((w64 ((v17.length:Int)-1)).toNat)))++(v19.take ((w64 ((v19.length:Int)-1)).toNat)))))]⟩ ?_
    refine q_fn [.len 4 (((([]:List qA)++(v17.take ((w64 ((v17.length:Int)-1)).toNat)))++(v19.take ((w64 ((v19.length:Int)-1)).toNat))).length)] ⟨[(2,vo 4 2 2 (((([]:List qA)++(v17.take ((w64 ((v17.length:Int)-1)).toNat)))++(v19.take ((w64 ((v19.length:Int)-1)).toNat))).length))],[(4,ro 2 93 2 (((([]:List qA)++(v17.take ((w64 ((v17.length:Int)-1)).toNat)))++(v19.take ((w64 ((v19.length:Int)-1)).toNat))).length) (rf qB ((([]:List qA)++(v17.take ((w64 ((v17.length:Int)-1)).toNat)))++(v19.take ((w64 ((v19.length:Int)-1)).toNat)))))]⟩ (o1 (And.intro (Eq.symm (show((([]:List qA)++(v17.take ((w64 ((v17.length:Int)-1)).toNat)))++(v19.take ((w64 ((v19.length:Int)-1)).toNat))).length=((0+(w64 ((v17.length:Int)-1)).toNat)+(w64 ((v19.length:Int)-1)).toNat) from(zH (zH rfl (jE rfl (show(w64 ((v17.length:Int)-1)).toNat<=v17.length by have:=(zG g22);omega))) (jE rfl (show(w64 ((v19.length:Int)-1)).toNat<=v19.length by have:=(zG g24);omega))))) (Eq.symm (show((([]:List qA)++(v17.take ((w64 ((v17.length:Int)-1)).toNat)))++(v19.take ((w64 ((v19.length:Int)-1)).toNat))).length=((0+(w64 ((v17.length:Int)-1)).toNat)+(w64 ((v19.length:Int)-1)).toNat) from(zH (zH rfl (jE rfl (show(w64 ((v17.length:Int)-1)).toNat<=v17.length by have:=(zG g22);omega))) (jE rfl (show(w64 ((v19.length:Int)-1)).toNat<=v19.length by have:=(zG g24);omega))))))) ?_
    obtain rfl:=oi hm;exact q_sw 4 0 (q_rt q_rm)
 ·rcases bif_c hm with⟨b2,hm⟩|⟨b2,hm⟩
  ·exact q_vv [qf 3 b2] 0 [] [(16,vb true)] (q_J (true) hm)
  ·obtain⟨v3,h4,hm⟩:=qC hm;exact q_vv [qf 3 b2,qk 5 [12,13] 0 ⟨[(12,vb false),(13,vc (tl qB dd a1))],[]⟩ (ND a1 v3 h4)] 0 [] [(16,vb (!v3))] (q_J (!v3) hm)
def qVJ (r:Int):V:=vi r
def qVq (r:Int):List (Nat×(Nat×O)):=[]
def qPJ (x5:Int):St:=
 ⟨[(5,vi x5)],[]⟩
theorem qI9 (a1:Int) (a2:Int) (r:Int) (hm:DP a1 a2=some r):CtX Tryz.prog globs 237 0 0 [.one (ci a1),.one (ci a2)] [] (qVJ r) (qVq r):=by
 unfold DP at hm;refine q_E f237 17 λE=>?_;refine s_vn [] 0 ⟨[(0,vi a1),(1,vi a2)],[]⟩ ?_;obtain⟨g3,hm⟩:=qI hm;refine s_vv [qd 2 dN (JK g3)] 0 [] [(5,vi (w64 (Int.tdiv a1 a2)))] (q_jn (qPJ) (λp=>MX p=some r) ?_ ?_)
 ·rintro x5 hm;refine s_vn [] 0 ⟨[(4,vi x5)],[]⟩ ?_;obtain rfl:=oi hm;exact q_rt q_rm
 ·refine s_vv [] 0 [0,1] [(13,vb (decide ((w64 ((w64 (Int.tdiv a1 a2))*a2))>a1)))] (q_cq hm (λhm=>?_) (λhm=>?_))
  ·exact q_vn [] 0 ⟨[(5,vi (w64 ((w64 (Int.tdiv a1 a2))-1)))],[]⟩ (q_J (w64 ((w64 (Int.tdiv a1 a2))-1)) hm)
  ·exact q_sk (q_J (w64 (Int.tdiv a1 a2)) hm)
def UC (r:Int×Int):V:= .tup [.one (ci r.1),.one (ci r.2)]
def JG (r:Int×Int):List (Nat×(Nat×O)):=[]
theorem qIw (r:Int×Int):wQ (JG r):=by
 intro i k o h;unfold JG at h;cases h
def qEG (a1:List qA) (a2:Int) (x5:Int) (x17:Int) (x18:Int):St:=
 ⟨[(0,vc (tl qB dd a1)),(1,vi a2),(6,vi x17),(7,vi x18),(8,vi x5)],[]⟩
def SG (a1:List qA) (a2:Int) (x3:Int) (x4:Int) (x5:Int):St:=
 ⟨[(0,vc (tl qB dd a1)),(1,vi a2),(6,vi x3),(7,vi x4),(8,vi x5)],[]⟩
def qEt (x19:Int) (x20:Int):St:=
 ⟨[(6,vi x19),(7,vi x20)],[]⟩
theorem qMb (E:Env 0) (a1:List qA) (a2:Int):∀(n:Nat) (x3:Int) (x4:Int) (x5:Int) (res:(Int×Int)⊕(Int×Int)),yB a1 a2 n x3 x4 x5=some res->HL (kx E 74 0) (nd f208 116) (wC 0 (λo=>qEt o.1 o.2) (λv st=>RetQ Tryz.prog f208 (UC v) (JG v) .ret st) res) n (SG a1 a2 x3 x4 x5):=by
 intro n
 induction n with
 |zero=>
  intro x3 x4 x5 res hm;cases hm
 |succ n ih=>
  intro x3 x4 x5 res hm;refine qR (q_sq ?_);refine s_va 0 [(16,vb (decide (x5<(a1.length:Int))))] (q_cq hm (λhm=>?_) (λhm=>?_))
  ·refine q_sk (q_jn (ι:=Int×Int) (λp=>qEG a1 a2 x5 p.1 p.2) (λp=>PP x5 (yB a1 a2 n) p.1 p.2=some res) ?_ ?_)
   ·rintro⟨x17,x18⟩ hm;show H _ (qEG a1 a2 x5 x17 x18) _ _;exact q_vv [] 2 [8] [(8,vi (w64 (x5+1)))] (q_hl (SG a1 a2 x17 x18 (w64 (x5+1))) (ih x17 x18 (w64 (x5+1)) _ hm))
   ·refine q_bk 1 ?_;obtain⟨g7,hm⟩:=qI hm;obtain⟨g8,hm⟩:=qI hm;obtain⟨g9,hm⟩:=qI hm
    refine s_du [qi 2 g7,qd 9 dN (JK g8),qi 10 g9] [0,0,3,7,0,0,32,0,128,480,1008,2032,0,0,12303,32767] 0 [16] [(9,vp 0 0),(10,vp 1 0)] [] [(0,bx 93 (qB (a1.getD x5.toNat dd))),(1,bx 93 (qB (a1.getD (Int.tmod (w64 (x5+1)) (a1.length:Int)).toNat dd)))] (s_du [] [0,1,0,4,15,0,0,64,224,511,0,1024,0,4096,15360,1023,65535] 2 [10] [(11,vi (w64 ((w64 (((a1.getD (Int.tmod (w64 (x5+1)) (a1.length:Int)).toNat dd).X)-((a1.getD x5.toNat dd).X)))*(w64 (a2-((a1.getD x5.toNat dd).Y)))))),(12,vi (w64 (((a1.getD (Int.tmod (w64 (x5+1)) (a1.length:Int)).toNat dd).Y)-((a1.getD x5.toNat dd).Y))))] [1] [] ?_)
    refine q_bk 2 (s_va 2 [(46,vb (decide ((w64 (((a1.getD (Int.tmod (w64 (x5+1)) (a1.length:Int)).toNat dd).Y)-((a1.getD x5.toNat dd).Y)))>0)))] ?_);refine q_cq hm (λhm=>?_) (λhm=>?_)
    ·obtain⟨v11,h12,hm⟩:=qC hm;exact q_du [qc 5 [52,53] 2 (qI9 (w64 ((w64 (((a1.getD (Int.tmod (w64 (x5+1)) (a1.length:Int)).toNat dd).X)-((a1.getD x5.toNat dd).X)))*(w64 (a2-((a1.getD x5.toNat dd).Y))))) (w64 (((a1.getD (Int.tmod (w64 (x5+1)) (a1.length:Int)).toNat dd).Y)-((a1.getD x5.toNat dd).Y))) v11 h12)] [0,0,2,0,0,24,62,127,255] 2 [7,9,11,12,46] [(7,vi (imin x4 (w64 (((a1.getD x5.toNat dd).X)+v11))))] [0] [] (q_J (x3,imin x4 (w64 (((a1.getD x5.toNat dd).X)+v11))) hm)
    ·refine s_vv [] 2 [46] [(57,vb (decide ((w64 (((a1.getD (Int.tmod (w64 (x5+1)) (a1.length:Int)).toNat dd).Y)-((a1.getD x5.toNat dd).Y)))<0)))] (q_cq hm (λhm=>?_) (λhm=>?_))
     ·obtain⟨v14,h15,hm⟩:=qC hm;exact q_du [qc 6 [63,65] 2 (qI9 (w64 ((w64 (((a1.getD (Int.tmod (w64 (x5+1)) (a1.length:Int)).toNat dd).X)-((a1.getD x5.toNat dd).X)))*(w64 (a2-((a1.getD x5.toNat dd).Y))))) (w64 (0-(w64 (((a1.getD (Int.tmod (w64 (x5+1)) (a1.length:Int)).toNat dd).Y)-((a1.getD x5.toNat dd).Y))))) v14 h15)] [0,0,2,0,0,16,56,126,255,511] 2 [6,9,11,12,57] [(6,vi (imax x3 (w64 (((a1.getD x5.toNat dd).X)-v14))))] [0] [] (q_J (imax x3 (w64 (((a1.getD x5.toNat dd).X)-v14)),x4) hm)
     ·refine s_vu [] 2 [9,11,12,57] [(69,vb (decide ((w64 ((w64 (((a1.getD (Int.tmod (w64 (x5+1)) (a1.length:Int)).toNat dd).X)-((a1.getD x5.toNat dd).X)))*(w64 (a2-((a1.getD x5.toNat dd).Y)))))<0)))] [0] [] (q_cq hm (λhm=>?_) (λhm=>?_))
      ·refine s_vn [] 2 ⟨[(4,vi 1),(5,vi 0)],[]⟩ ?_;obtain rfl:=oi hm;refine q_rt (zJ (1,0) ?_);exact q_rm
      ·exact q_sk (q_J (x3,x4) hm)
  ·refine q_ex 0 ?_;obtain rfl:=oi hm;exact L1_mk (x3,x4) (by kernel_rfl) (by kernel_rfl)
theorem qHu (a1:List qA) (a2:Int) (r:Int×Int) (hm:KR a1 a2=some r):CtX Tryz.prog globs 208 0 0 [.one (tl qB dd a1),.one (ci a2)] [] (UC r) (JG r):=by
 unfold KR at hm;refine q_E f208 74 λE=>?_;refine s_vn [] 0 ⟨[(0,vc (tl qB dd a1)),(1,vi a2)],[]⟩ (s_va 0 [(6,vi (-600)),(7,vi 600)] ?_);refine q_sq (s_va 0 [(8,vi 0)] ?_);obtain⟨u23,h22,hm⟩:=qC hm;refine zQ (nd f208 116) 0 (by kernel_rfl) FUEL (λo=>qEt o.1 o.2) (λv st=>RetQ Tryz.prog f208 (UC v) (JG v) .ret st) u23 (q_hl (SG a1 a2 (-600) 600 0) (qMb E a1 a2 FUEL (-600) 600 0 u23 h22)) ?_ ?_
 ·rintro v24 rfl st hr;obtain rfl:=oi hm;exact hr
 ·rintro o21 rfl;replace hm:_=some r:=hm;refine s_vn [] 0 ⟨[(4,vi o21.1),(5,vi o21.2)],[]⟩ ?_;obtain rfl:=oi hm;exact q_rt q_rm
open Go.Proofs Go.Proofs.Tryz
def qU3 (r:Span):V:=va (qE r)
def qVs (r:Span):List (Nat×(Nat×O)):=[]
def qO3 (v11:Int×Int) (v13:Int×Int) (x17:Bool):St:=
 ⟨[(6,vp 0 0),(12,vp 2 0),(65,vb x17)],[(0,bx 53 [ci 0,ci 0]),(2,bx 53 [ci (imax v11.1 v13.1),ci (imin v11.2 v13.2)])]⟩
def qPm (a2:Int) (a3:Int) (v4:(List qA)) (x9:Bool):St:=
 ⟨[(1,vi a2),(2,vi a3),(6,vp 0 0),(7,vo 1 0 2 v4.length),(30,vb x9)],[(0,bx 53 [ci 0,ci 0]),(1,ro 0 93 2 v4.length (rf qB v4))]⟩
theorem qSw (a1:List qA) (a2:Int) (a3:Int) (r:Span) (hm:EQ a1 a2 a3=some r):CtX Tryz.prog globs 162 0 0 [.one (tl qB dd a1),.one (ci a2),.one (ci a3)] [] (qU3 r) (qVs r):=by
 unfold EQ at hm;refine q_E f162 68 λE=>?_;refine s_vn [] 0 ⟨[(0,vc (tl qB dd a1)),(1,vi a2),(2,vi a3),(6,vp 0 0)],[(0,bx 53 [ci 0,ci 0])]⟩ ?_;obtain⟨v4,h5,hm⟩:=qC hm;refine s_vu [qc 1 [13] 1 (qUX a1 v4 h5)] 1 [0] [(7,vo 1 0 2 v4.length)] [] [(1,ro 0 93 2 v4.length (rf qB v4))] (q_sq ?_);refine q_jn (qPm a2 a3 v4) (λp=>XV a2 a3 v4 p=some r) ?_ ?_
 ·rintro x9 hm;refine q_cq hm (λhm=>?_) (λhm=>?_)
  ·refine s_vu [] 2 [1,2,7,30] [] [1] [] ?_;obtain rfl:=oi hm;exact q_rt q_rm
  ·refine q_sk ?_;obtain⟨v11,h12,hm⟩:=qC hm;refine s_vv [qd 2 (dex (cen [] [] 2 0 (UC v11) (JG v11) [33,34] [1])) (zW (K:=(kx E 68 0)) (b:=false) ⟨[(33,vo 1 0 2 v4.length),(34,vi a2)],[(1,ro 0 93 2 v4.length (rf qB v4))]⟩ (opAt (rg f162 30) 2) [] [] 2 (o1 (kd v4.length)) rfl (qHu v4 a2 v11 h12) (.inr ⟨(by kernel_rfl),qIw v11⟩) (by kernel_rfl))] 2 [1,30] [(8,vi v11.1),(9,vi v11.2)] ?_;obtain⟨v13,h14,hm⟩:=qC hm
   refine s_vu [qd 2 (dex (cen [] [] 2 0 (UC v13) (JG v13) [39,40] [1])) (zW (K:=(kx E 68 0)) (b:=false) ⟨[(39,vo 1 0 2 v4.length),(40,vi a3)],[(1,ro 0 93 2 v4.length (rf qB v4))]⟩ (opAt (rg f162 62) 2) [] [] 2 (o1 (kd v4.length)) rfl (qHu v4 a3 v13 h14) (.inr ⟨(by kernel_rfl),qIw v13⟩) (by kernel_rfl))] 2 [2,7] [(10,vi v13.1),(11,vi v13.2)] [1] [] (s_vu [] 2 [] [(12,vp 2 0)] [] [(2,bx 53 [ci (imax v11.1 v13.1),ci (imin v11.2 v13.2)])] ?_);refine q_sq (q_jn (qO3 v11 v13) (λp=>UN v11 v13 p=some r) ?_ ?_)
   ·rintro x17 hm;refine q_cq hm (λhm=>?_) (λhm=>?_)
    ·refine s_vu [] 3 [12,65] [] [2] [] ?_;obtain rfl:=oi hm;exact q_rt q_rm
    ·refine q_sk (s_vn [] 3 ⟨[(6,vp 0 0)],[(0,bx 53 [ci (imax v11.1 v13.1),ci (imin v11.2 v13.2)])]⟩ ?_);obtain rfl:=oi hm;exact q_rt q_rm
   ·rcases bif_c hm with⟨b15,hm⟩|⟨b15,hm⟩
    ·exact q_vv [qf 3 b15] 3 [8,9,10,11] [(65,vb true)] (q_J (true) hm)
    ·rcases bif_c hm with⟨b16,hm⟩|⟨b16,hm⟩
     ·exact q_vv [qf 3 b15,qf 8 b16] 3 [8,9,10,11] [(65,vb true)] (q_J (true) hm)
     ·exact q_vv [qf 3 b15,qf 8 b16] 3 [8,9,10,11] [(65,vb (decide ((imax v11.1 v13.1)≥(imin v11.2 v13.2))))] (q_J (decide ((imax v11.1 v13.1)≥(imin v11.2 v13.2))) hm)
 ·rcases bif_c hm with⟨b6,hm⟩|⟨b6,hm⟩
  ·exact q_vv [qf 3 b6] 2 [] [(30,vb true)] (q_J (true) hm)
  ·rcases bif_c hm with⟨b7,hm⟩|⟨b7,hm⟩
   ·exact q_vv [qf 3 b6,qf 8 b7] 2 [] [(30,vb true)] (q_J (true) hm)
   ·rcases bif_c hm with⟨b8,hm⟩|⟨b8,hm⟩
    ·exact q_vv [qf 3 b6,qf 8 b7,qf 12 b8] 2 [] [(30,vb true)] (q_J (true) hm)
    ·exact q_vv [qf 3 b6,qf 8 b7,qf 12 b8] 2 [] [(30,vb (decide (a3>600)))] (q_J (decide (a3>600)) hm)
def qUZ (r:Int):V:=vi r
def qVi (r:Int):List (Nat×(Nat×O)):=[]
def OA (a1:List qA) (x7:Int) (x8:Int):St:=
 ⟨[(0,vc (tl qB dd a1)),(3,vi x7),(4,vi x8)],[]⟩
def qFl (x13:Int):St:=
 ⟨[(3,vi x13)],[]⟩
def qOP (a1:List qA) (x5:Bool):St:=
 ⟨[(0,vc (tl qB dd a1)),(13,vb x5)],[]⟩
theorem qNm (E:Env 0) (a1:List qA):∀(n:Nat) (x7:Int) (x8:Int) (res:Int),KD a1 n x7 x8=some res->HL (kx E 48 0) (nd f206 244) (zF 0 qFl res) n (OA a1 x7 x8):=by
 intro n
 induction n with
 |zero=>
  intro x7 x8 res hm;cases hm
 |succ n ih=>
  intro x7 x8 res hm;refine qR (q_sq ?_);refine s_va 0 [(17,vb (decide (x8<(a1.length:Int))))] (q_cq hm (λhm=>?_) (λhm=>?_))
  ·refine q_sk (q_sq ?_);refine q_bk 1 ?_;obtain⟨g10,hm⟩:=qI hm;obtain⟨g11,hm⟩:=qI hm;refine s_vu [qd 5 dN (JK g10),qi 6 g11] 0 [17] [(5,vp 0 0)] [] [(0,bx 93 (qB (a1.getD (Int.tmod (w64 (x8+1)) (a1.length:Int)).toNat dd)))] ?_;obtain⟨g12,hm⟩:=qI hm
   refine q_du [qi 3 g12,qi 14 g12] [0,0,0,6,14,30,0,64,254,511,0,1024,0,0,12288,28672,61440,130048,262143,524287] 1 [3,5] [(3,vi (w64 ((w64 (x7+(w64 (((a1.getD x8.toNat dd).X)*((a1.getD (Int.tmod (w64 (x8+1)) (a1.length:Int)).toNat dd).Y)))))-(w64 (((a1.getD (Int.tmod (w64 (x8+1)) (a1.length:Int)).toNat dd).X)*((a1.getD x8.toNat dd).Y))))))] [0] [] (q_vv [] 1 [4] [(4,vi (w64 (x8+1)))] ?_)
   exact q_hl (OA a1 (w64 ((w64 (x7+(w64 (((a1.getD x8.toNat dd).X)*((a1.getD (Int.tmod (w64 (x8+1)) (a1.length:Int)).toNat dd).Y)))))-(w64 (((a1.getD (Int.tmod (w64 (x8+1)) (a1.length:Int)).toNat dd).X)*((a1.getD x8.toNat dd).Y))))) (w64 (x8+1))) (ih (w64 ((w64 (x7+(w64 (((a1.getD x8.toNat dd).X)*((a1.getD (Int.tmod (w64 (x8+1)) (a1.length:Int)).toNat dd).Y)))))-(w64 (((a1.getD (Int.tmod (w64 (x8+1)) (a1.length:Int)).toNat dd).X)*((a1.getD x8.toNat dd).Y))))) (w64 (x8+1)) _ hm)
  ·refine q_ex 0 ?_;obtain rfl:=oi hm;exact q_l0
theorem qSD (a1:List qA) (r:Int) (hm:EI a1=some r):CtX Tryz.prog globs 206 0 0 [.one (tl qB dd a1)] [] (qUZ r) (qVi r):=by
 unfold EI at hm;refine q_E f206 48 λE=>?_;refine s_vn [] 0 ⟨[(0,vc (tl qB dd a1))],[]⟩ (q_sq ?_);refine q_jn (qOP a1) (λp=>HD a1 p=some r) ?_ ?_
 ·rintro x5 hm;refine q_cq hm (λhm=>?_) (λhm=>?_)
  ·refine s_vn [] 0 ⟨[(2,vi 0)],[]⟩ ?_;obtain rfl:=oi hm;exact q_rt q_rm
  ·refine q_sk (s_vv [] 0 [13] [(3,vi 0)] ?_);refine q_sq (s_va 0 [(4,vi 0)] ?_);obtain⟨o14,h15,hm⟩:=qC hm;refine zB (nd f206 244) 0 (by kernel_rfl) FUEL qFl o14 (q_hl (OA a1 0 0) (qNm E a1 FUEL 0 0 o14 h15)) (s_vn [] 0 ⟨[(2,vi o14)],[]⟩ ?_);obtain rfl:=oi hm;exact q_rt q_rm
 ·rcases bif_c hm with⟨b2,hm⟩|⟨b2,hm⟩
  ·exact q_vv [qf 3 b2] 0 [] [(13,vb true)] (q_J (true) hm)
  ·obtain⟨v3,h4,hm⟩:=qC hm;exact q_vv [qf 3 b2,qk 5 [9,10] 0 ⟨[(9,vb false),(10,vc (tl qB dd a1))],[]⟩ (ND a1 v3 h4)] 0 [] [(13,vb (!v3))] (q_J (!v3) hm)
def qUG (r:Int):V:=vi r
def qVe (r:Int):List (Nat×(Nat×O)):=[]
theorem qSI (a1:List qA) (r:Int) (hm:EF a1=some r):CtX Tryz.prog globs 161 0 0 [.one (tl qB dd a1)] [] (qUG r) (qVe r):=by
 unfold EF at hm;refine q_E f161 19 λE=>?_;refine s_vn [] 0 ⟨[(0,vc (tl qB dd a1))],[]⟩ (q_sq ?_);refine q_bk 0 (s_va 0 [(3,vb (decide ((a1.length:Int)<3)))] ?_);refine q_cq hm (λhm=>?_) (λhm=>?_)
 ·refine s_vn [] 0 ⟨[(2,vi 3)],[]⟩ ?_;obtain rfl:=oi hm;exact q_rt q_rm
 ·refine s_vv [] 0 [3] [(7,vb (decide ((a1.length:Int)>32)))] (q_cq hm (λhm=>?_) (λhm=>?_))
  ·refine s_vn [] 0 ⟨[(2,vi 4)],[]⟩ ?_;obtain rfl:=oi hm;exact q_rt q_rm
  ·obtain⟨v4,h5,hm⟩:=qC hm;refine s_vv [qc 1 [12] 0 (ND a1 v4 h5)] 0 [7] [(11,vb (!v4))] (q_cq hm (λhm=>?_) (λhm=>?_))
   ·refine s_vn [] 0 ⟨[(2,vi 9)],[]⟩ ?_;obtain rfl:=oi hm;exact q_rt q_rm
   ·obtain⟨v7,h8,hm⟩:=qC hm;refine s_vn [qc 1 [16] 0 (qSD a1 v7 h8)] 0 ⟨[(15,vb (v7==0))],[]⟩ (q_cq hm (λhm=>?_) (λhm=>?_))
    ·refine s_vn [] 0 ⟨[(2,vi 19)],[]⟩ ?_;obtain rfl:=oi hm;exact q_rt q_rm
    ·refine q_sk (s_vn [] 0 ⟨[(2,vi 0)],[]⟩ ?_);obtain rfl:=oi hm;exact q_rt q_rm
open Go.Proofs Go.Proofs.Tryz
def qUD (r:Bool):V:=vb r
def qU4 (r:Bool):List (Nat×(Nat×O)):=[]
theorem ZN (a1:Span) (r:Bool) (hm:JM a1=some r):CtX Tryz.prog globs 164 0 0 [.agg (qE a1)] [] (qUD r) (qU4 r):=by
 unfold JM at hm;refine q_E f164 8 λE=>?_;refine s_vn [] 0 ⟨[(1,vp 0 0)],[(0,bx 53 (qE a1))]⟩ (s_vn [] 1 ⟨[(2,vb (decide (a1.A≥a1.B)))],[]⟩ ?_);obtain rfl:=oi hm;exact q_rt q_rm
def qAa (r:qG):V:=va [ci r.Low,.own 0 0 2 r.Rows.length]
def RS (r:qG):List (Nat×(Nat×O)):=[(0,ro 0 53 2 r.Rows.length (rf qE r.Rows))]
theorem qG4 (r:qG):wQ (RS r):=by
 intro i k o h;unfold RS at h;rw[look_cons] at h;split at h
 ·cases h;exact λ_ _=>rfl
 ·cases h
def wU (a1:Int) (a2:List Span):St:=
 ⟨[(0,vi a1),(1,vc (tl qE dd a2)),(4,vp 0 0),(6,vi (a2.length:Int))],[(0,bx 78 [ci 0,.emp])]⟩
def qLX (a1:Int) (a2:List Span) (x3:Int) (x8:Bool):St:=
 (wU a1 a2).up [] [(5,vi x3),(21,vb x8)] [] []
def NT (a1:Int) (a2:List Span) (x3:Int):St:=
 (wU a1 a2).up [] [(5,vi x3)] [] []
def qDa (a1:Int) (a2:List Span) (x10:Int):St:=
 (wU a1 a2).up [] [(5,vi x10)] [] []
def qLC (a1:Int) (a2:List Span) (o11:Int) (x13:Int) (x18:Bool):St:=
 (wU a1 a2).up [6] [(5,vi o11),(6,vi x13),(34,vb x18)] [] []
def NH (a1:Int) (a2:List Span) (o11:Int) (x13:Int):St:=
 (wU a1 a2).up [6] [(5,vi o11),(6,vi x13)] [] []
def qDn (a1:Int) (a2:List Span) (o11:Int) (x20:Int):St:=
 (wU a1 a2).up [6] [(5,vi o11),(6,vi x20)] [] []
def qLg (a1:Int) (a2:List Span) (o11:Int) (o21:Int) (x24:Int) (l25:List Span) (x31:Span):St:=
 (wU a1 a2).up [0,6] [(6,vi o21),(7,vp 1 0),(8,vi x24),(9,vp 3 0)] [] [(1,bx 78 [ci (w64 (a1+o11)),.own 2 0 2 l25.length]),(2,ro 0 53 2 l25.length (rf qE l25)),(3,bx 53 (qE x31))]
def NK (a1:Int) (a2:List Span) (o11:Int) (o21:Int) (x24:Int) (l25:List Span) (l25n:Nat):St:=
 (wU a1 a2).up [0,6] [(6,vi o21),(7,vp 1 0),(8,vi x24)] [] [(1,bx 78 [ci (w64 (a1+o11)),.own 2 0 2 l25n]),(2,ro 0 53 2 l25n (rf qE l25))]
def qDl (a1:Int) (o11:Int) (l33:List Span):St:=
 ⟨[(4,vp 0 0),(7,vp 1 0)],[(0,bx 78 [ci 0,.emp]),(1,bx 78 [ci (w64 (a1+o11)),.own 2 0 2 l33.length]),(2,ro 0 53 2 l33.length (rf qE l33))]⟩
theorem qKY (E:Env 0) (a1:Int) (a2:List Span):∀(n:Nat) (x3:Int) (res:Int),yP a2 n x3=some res->HL (kx E 65 0) (nd f105 56) (zF 0 (λo=>qDa a1 a2 o) res) n (NT a1 a2 x3):=by
 intro n
 induction n with
 |zero=>
  intro x3 res hm;cases hm
 |succ n ih=>
  intro x3 res hm;refine qR (q_sq ?_);refine q_jn (qLX a1 a2 x3) (λp=>GC x3 (yP a2 n) p=some res) ?_ ?_
  ·rintro x8 hm;refine q_cq hm (λhm=>?_) (λhm=>?_)
   ·refine q_sk (q_bk 1 ?_);exact q_vv [] 1 [5,21] [(5,vi (w64 (x3+1)))] (q_hl (NT a1 a2 (w64 (x3+1))) (ih (w64 (x3+1)) _ hm))
   ·refine q_ex 0 ?_;obtain rfl:=oi hm;exact q_l0
  ·rcases bif_c hm with⟨b4,hm⟩|⟨b4,hm⟩
   ·obtain⟨g5,hm⟩:=qI hm;obtain⟨v6,h7,hm⟩:=qC hm;exact q_vv [qf 3 b4,qi 6 g5,qk 8 [15,19] 1 ⟨[(15,vb true),(19,va [ci ((a2.getD x3.toNat dd).A),ci ((a2.getD x3.toNat dd).B)])],[]⟩ (ZN (a2.getD x3.toNat dd) v6 h7)] 1 [] [(21,vb v6)] (q_J (v6) hm)
   ·exact q_vv [qf 3 b4] 1 [] [(21,vb false)] (q_J (false) hm)
theorem qKE (E:Env 0) (a1:Int) (a2:List Span) (o11:Int):∀(n:Nat) (x13:Int) (res:Int),ZB a2 o11 n x13=some res->HL (kx E 65 0) (nd f105 120) (zF 2 (λo=>qDn a1 a2 o11 o) res) n (NH a1 a2 o11 x13):=by
 intro n
 induction n with
 |zero=>
  intro x13 res hm;cases hm
 |succ n ih=>
  intro x13 res hm;refine qR (q_sq ?_);refine q_jn (qLC a1 a2 o11 x13) (λp=>GJ x13 (ZB a2 o11 n) p=some res) ?_ ?_
  ·rintro x18 hm;refine q_cq hm (λhm=>?_) (λhm=>?_)
   ·refine q_sk (q_bk 3 ?_);exact q_vv [] 1 [6,34] [(6,vi (w64 (x13-1)))] (q_hl (NH a1 a2 o11 (w64 (x13-1))) (ih (w64 (x13-1)) _ hm))
   ·refine q_ex 2 ?_;obtain rfl:=oi hm;exact q_l0
  ·rcases bif_c hm with⟨b14,hm⟩|⟨b14,hm⟩
   ·obtain⟨g15,hm⟩:=qI hm;obtain⟨v16,h17,hm⟩:=qC hm;exact q_vv [qf 3 b14,qi 7 g15,qk 9 [27,32] 1 ⟨[(27,vb true),(32,va [ci ((a2.getD (w64 (x13-1)).toNat dd).A),ci ((a2.getD (w64 (x13-1)).toNat dd).B)])],[]⟩ (ZN (a2.getD (w64 (x13-1)).toNat dd) v16 h17)] 1 [] [(34,vb v16)] (q_J (v16) hm)
   ·exact q_vv [qf 3 b14] 1 [] [(34,vb false)] (q_J (false) hm)
theorem qKM (E:Env 0) (a1:Int) (a2:List Span) (o11:Int) (o21:Int):∀(n:Nat) (x24:Int) (l25:List Span) (l25n:Nat) (res:(List Span)),l25.length=l25n->wW a2 o21 n x24 l25=some res->HL (kx E 65 0) (nd f105 2036) (zF 4 (λo=>qDl a1 o11 o) res) n (NK a1 a2 o11 o21 x24 l25 l25n):=by
 intro n
 induction n with
 |zero=>
  intro x24 l25 l25n res hl0 hm;cases hm
 |succ n ih=>
  intro x24 l25 l25n res hl0 hm;subst hl0;refine qR (q_sq ?_);refine s_va 3 [(48,vb (decide (x24<o21)))] (q_cq hm (λhm=>?_) (λhm=>?_))
  ·refine q_sk (q_sq ?_);refine q_bk 5 ?_;obtain⟨g27,hm⟩:=qI hm;refine s_vu [qi 2 g27] 3 [48] [(9,vp 3 0)] [] [(3,bx 53 (qE (a2.getD x24.toNat dd)))] (q_jn (qLg a1 a2 o11 o21 x24 l25) (λp=>JJ x24 l25 (wW a2 o21 n) p=some res) ?_ ?_)
   ·rintro x31 hm;obtain⟨g32,hm⟩:=qI hm;refine q_vu [qd 3 (drw 4 0 (rf qE [x31])) (litP qE dd 2 (λ_=>rfl) ([x31]:List Span) 1 rfl),qd 4 (drw 2 1 (rf qE (l25++[x31]))) (apP qE dd l25 ([x31]:List Span) l25.length 1 2 16 (1<=1) (kd _) rfl rfl (λ_=>rfl) (zN g32))] 4 [9] [] [1,2,3] [(1,bx 78 [ci (w64 (a1+o11)),.own 2 1 2 (l25.length+1)]),(2,ro 1 53 2 (l25.length+1) (rf qE (l25++[x31])))] (q_vv [] 5 [8] [(8,vi (w64 (x24+1)))] ?_);exact q_hl (NK a1 a2 o11 o21 (w64 (x24+1)) (l25++[x31]) (l25.length+1)) (ih (w64 (x24+1)) (l25++[x31]) (l25.length+1) _ (zH rfl rfl) hm)
   ·obtain⟨v28,h29,hm⟩:=qC hm;refine s_vv [qc 1 [55] 4 (ZN (a2.getD x24.toNat dd) v28 h29)] 4 [] [(56,vb v28)] (q_cq hm (λhm=>?_) (λhm=>?_))
    ·exact q_vu [] 4 [56] [] [3] [(3,bx 53 [ci 0,ci 0])] (q_J ((Span.mk 0 0)) hm)
    ·exact q_sk (q_J ((a2.getD x24.toNat dd)) hm)
  ·refine q_ex 4 ?_;obtain rfl:=oi hm;exact q_l0
theorem qFB (a1:Int) (a2:List Span) (r:qG) (hm:WK a1 a2=some r):CtX Tryz.prog globs 105 0 0 [.one (ci a1),.one (tl qE dd a2)] [] (qAa r) (RS r):=by
 unfold WK at hm;refine q_E f105 65 λE=>?_;refine s_vn [] 0 ⟨[(0,vi a1),(1,vc (tl qE dd a2)),(4,vp 0 0)],[(0,bx 78 [ci 0,.emp])]⟩ (s_va 1 [(5,vi 0),(6,vi (a2.length:Int))] ?_);refine q_sq ?_;obtain⟨o11,h12,hm⟩:=qC hm;refine zB (nd f105 56) 0 (by kernel_rfl) FUEL (λo=>qDa a1 a2 o) o11 (q_hl (NT a1 a2 0) (qKY E a1 a2 FUEL 0 o11 h12)) (q_sq ?_);obtain⟨o21,h22,hm⟩:=qC hm;refine zB (nd f105 120) 2 (by kernel_rfl) FUEL (λo=>qDn a1 a2 o11 o) o21 (q_hl (NH a1 a2 o11 (a2.length:Int)) (qKE E a1 a2 o11 FUEL (a2.length:Int) o21 h22)) (q_sq ?_)
 refine s_va 1 [(39,vb (o11==o21))] (q_cq hm (λhm=>?_) (λhm=>?_))
 ·refine s_vv [] 1 [0,1,5,6,39] [] (q_fu [.ownB 0 1 1 53 2 (rf qE [])] [] [] [0] [(0,bx 78 [ci 0,.own 1 0 2 0]),(1,ro 0 53 2 0 (rf qE []))] o0 ?_);refine q_fu [.len 1 (([]:List Span).length)] [] [] [0,1] [(0,bx 78 [ci 0,.own 1 0 2 (([]:List Span).length)]),(1,ro 0 53 2 (([]:List Span).length) (rf qE []))] (o1 (And.intro (show 0=([]:List Span).length from rfl) (show 0=([]:List Span).length from rfl))) ?_;obtain rfl:=oi hm;exact q_sw 1 0 (q_rt q_rm)
 ·refine q_sk (s_vu [] 1 [0,39] [(7,vp 1 0)] [] [(1,bx 78 [ci (w64 (a1+o11)),.emp])] ?_);refine q_sq (s_vv [] 2 [5] [(8,vi o11)] ?_);refine q_fu [.ownB 1 1 2 53 2 (rf qE [])] [] [] [1] [(1,bx 78 [ci (w64 (a1+o11)),.own 2 0 2 0]),(2,ro 0 53 2 0 (rf qE []))] o0 ?_;obtain⟨o34,h35,hm⟩:=qC hm;refine zB (nd f105 2036) 4 (by kernel_rfl) FUEL (λo=>qDl a1 o11 o) o34 (q_hl (NK a1 a2 o11 o21 o11 ([]:List Span) 0) (qKM E a1 a2 o11 o21 FUEL o11 ([]:List Span) 0 o34 rfl h35)) (s_vu [] 3 [7] [] [0,1] [(0,bx 78 [ci (w64 (a1+o11)),.own 2 0 2 o34.length])] ?_);obtain rfl:=oi hm;exact q_sw 2 0 (q_rt q_rm)
def qRL (r:qG×Int):V:= .tup [.agg [ci r.1.Low,.own 0 0 2 r.1.Rows.length],.one (ci r.2)]
def qEX (r:qG×Int):List (Nat×(Nat×O)):=[(0,ro 0 53 2 r.1.Rows.length (rf qE r.1.Rows))]
theorem q0b (r:qG×Int):wQ (qEX r):=by
 intro i k o h;unfold qEX at h;rw[look_cons] at h;split at h
 ·cases h;exact λ_ _=>rfl
 ·cases h
def RW (a1:List qA):St:=
 ⟨[(0,vc (tl qB dd a1)),(2,vp 0 0)],[(0,bx 78 [ci 0,.emp])]⟩
def qDR (a1:List qA) (x6:Int) (x7:Int) (x8:Int):St:=
 (RW a1).up [] [(5,vi x6),(6,vi x7),(7,vi x8)] [] []
def qKi (a1:List qA) (x11:Int) (x12:Int):St:=
 (RW a1).up [] [(5,vi x11),(6,vi x12)] [] []
def qVh (a1:List qA) (o13:Int×Int) (l15:List Span) (x16:Int) (x23:Span):St:=
 (RW a1).up [] [(5,vi o13.1),(6,vi o13.2),(8,vo 1 0 2 l15.length),(9,vi x16),(10,vp 2 0)] [] [(1,ro 0 53 2 l15.length (rf qE l15)),(2,bx 53 (qE x23))]
def qVF (a1:List qA) (o13:Int×Int) (l15:List Span) (x16:Int) (x19:Bool):St:=
 (RW a1).up [] [(5,vi o13.1),(6,vi o13.2),(8,vo 1 0 2 l15.length),(9,vi x16),(10,vp 2 0),(61,vb x19)] [] [(1,ro 0 53 2 l15.length (rf qE l15)),(2,bx 53 [ci 0,ci 0])]
def qDy (a1:List qA) (o13:Int×Int) (l15:List Span) (l15n:Nat) (x16:Int):St:=
 (RW a1).up [] [(5,vi o13.1),(6,vi o13.2),(8,vo 1 0 2 l15n),(9,vi x16)] [] [(1,ro 0 53 2 l15n (rf qE l15))]
def qKl (l25:List Span):St:=
 ⟨[(2,vp 0 0),(8,vo 1 0 2 l25.length)],[(0,bx 78 [ci 0,.emp]),(1,ro 0 53 2 l25.length (rf qE l25))]⟩
theorem qSK (E:Env 0) (a1:List qA):∀(n:Nat) (x6:Int) (x7:Int) (x8:Int) (res:Int×Int),RZ a1 n x6 x7 x8=some res->HL (kx E 81 0) (nd f102 244) (zF 0 (λo=>qKi a1 o.1 o.2) res) n (qDR a1 x6 x7 x8):=by
 intro n
 induction n with
 |zero=>
  intro x6 x7 x8 res hm;cases hm
 |succ n ih=>
  intro x6 x7 x8 res hm;refine qR (q_sq ?_);refine s_va 1 [(29,vb (decide (x8<(a1.length:Int))))] (q_cq hm (λhm=>?_) (λhm=>?_))
  ·refine q_sk (q_sq ?_);refine q_bk 1 ?_;obtain⟨g10,hm⟩:=qI hm;refine s_vv [qi 3 g10] 1 [5,29] [(5,vi (imin x6 ((a1.getD x8.toNat dd).Y)))] (q_vv [qi 3 g10] 1 [6] [(6,vi (imax x7 ((a1.getD x8.toNat dd).Y)))] ?_);exact q_vv [] 1 [7] [(7,vi (w64 (x8+1)))] (q_hl (qDR a1 (imin x6 ((a1.getD x8.toNat dd).Y)) (imax x7 ((a1.getD x8.toNat dd).Y)) (w64 (x8+1))) (ih (imin x6 ((a1.getD x8.toNat dd).Y)) (imax x7 ((a1.getD x8.toNat dd).Y)) (w64 (x8+1)) _ hm))
  ·refine q_ex 0 ?_;obtain rfl:=oi hm;exact q_l0
theorem qTE (E:Env 0) (a1:List qA) (o13:Int×Int):∀(n:Nat) (l15:List Span) (l15n:Nat) (x16:Int) (res:(List Span)),l15.length=l15n->jU a1 o13 n l15 x16=some res->HL (kx E 81 0) (nd f102 1012) (zF 2 qKl res) n (qDy a1 o13 l15 l15n x16):=by
 intro n
 induction n with
 |zero=>
  intro l15 l15n x16 res hl0 hm;cases hm
 |succ n ih=>
  intro l15 l15n x16 res hl0 hm;subst hl0;refine qR (q_sq ?_);refine s_va 2 [(47,vb (decide (x16<60)))] (q_cq hm (λhm=>?_) (λhm=>?_))
  ·refine q_sk (q_sq ?_);refine q_bk 3 (s_vu [] 2 [47] [(10,vp 2 0)] [] [(2,bx 53 [ci 0,ci 0])] ?_);refine q_jn (qVh a1 o13 l15 x16) (λp=>EW l15 x16 (jU a1 o13 n) p=some res) ?_ ?_
   ·rintro x23 hm;obtain⟨g24,hm⟩:=qI hm;refine q_vu [qd 2 (drw 3 0 (rf qE [x23])) (litP qE dd 2 (λ_=>rfl) ([x23]:List Span) 1 rfl),qd 3 (drw 1 1 (rf qE (l15++[x23]))) (apP qE dd l15 ([x23]:List Span) l15.length 1 2 16 (1<=1) (kd _) rfl rfl (λ_=>rfl) (zN g24))] 3 [8,10] [(8,vo 1 1 2 (l15.length+1))] [1,2] [(1,ro 1 53 2 (l15.length+1) (rf qE (l15++[x23])))] (q_vv [] 4 [9] [(9,vi (w64 (x16+1)))] ?_);exact q_hl (qDy a1 o13 (l15++[x23]) (l15.length+1) (w64 (x16+1))) (ih (l15++[x23]) (l15.length+1) (w64 (x16+1)) _ (zH rfl rfl) hm)
   ·refine q_jn (qVF a1 o13 l15 x16) (λp=>qCD a1 l15 x16 (jU a1 o13 n) p=some res) ?_ ?_
    ·rintro x19 hm;refine q_cq hm (λhm=>?_) (λhm=>?_)
     ·obtain⟨v21,h22,hm⟩:=qC hm;exact q_vu [qc 6 [62,64,67] 3 (qSw a1 (w64 (10*x16)) (w64 (10*(w64 (x16+1)))) v21 h22)] 3 [61] [] [2] [(2,bx 53 (qE v21))] (q_J (v21) hm)
     ·exact q_sk (q_J ((Span.mk 0 0)) hm)
    ·rcases bif_c hm with⟨b18,hm⟩|⟨b18,hm⟩
     ·exact q_vv [qf 4 b18] 3 [] [(61,vb (decide ((w64 (10*(w64 (x16+1))))<=o13.2)))] (q_J (decide ((w64 (10*(w64 (x16+1))))<=o13.2)) hm)
     ·exact q_vv [qf 4 b18] 3 [] [(61,vb false)] (q_J (false) hm)
  ·refine q_ex 2 ?_;obtain rfl:=oi hm;exact q_l0
theorem qZg (a1:List qA) (r:qG×Int) (hm:qFF a1=some r):CtX Tryz.prog globs 102 0 0 [.one (tl qB dd a1)] [] (qRL r) (qEX r):=by
 unfold qFF at hm;refine q_E f102 81 λE=>?_;refine s_vn [] 0 ⟨[(0,vc (tl qB dd a1)),(2,vp 0 0)],[(0,bx 78 [ci 0,.emp])]⟩ (q_sq ?_);obtain⟨v2,h3,hm⟩:=qC hm;refine s_vv [qc 1 [12] 1 (qSI a1 v2 h3)] 1 [] [(4,vi v2)] (s_va 1 [(15,vb (v2 !=0))] ?_);refine q_cq hm (λhm=>?_) (λhm=>?_)
 ·refine s_vv [] 1 [0,4,15] [(3,vi v2)] (q_fu [.ownB 0 1 1 53 2 (rf qE [])] [] [] [0] [(0,bx 78 [ci 0,.own 1 0 2 0]),(1,ro 0 53 2 0 (rf qE []))] o0 ?_);refine q_fu [.len 1 (([]:List Span).length)] [] [] [0,1] [(0,bx 78 [ci 0,.own 1 0 2 (([]:List Span).length)]),(1,ro 0 53 2 (([]:List Span).length) (rf qE []))] (o1 (And.intro (show 0=([]:List Span).length from rfl) (show 0=([]:List Span).length from rfl))) ?_;obtain rfl:=oi hm;exact q_sw 1 0 (q_rt q_rm)
 ·refine q_sk ?_;obtain⟨g5,hm⟩:=qI hm;refine s_du [qi 1 g5,qi 5 g5] [0,1,3,7,0,16,48,112,15,511] 1 [4,15] [(5,vi ((a1.getD (0:Int).toNat dd).Y)),(6,vi ((a1.getD (0:Int).toNat dd).Y))] [] [] (q_sq ?_);refine s_va 1 [(7,vi 0)] ?_;obtain⟨o13,h14,hm⟩:=qC hm;refine zB (nd f102 244) 0 (by kernel_rfl) FUEL (λo=>qKi a1 o.1 o.2) o13 (q_hl (qDR a1 ((a1.getD (0:Int).toNat dd).Y) ((a1.getD (0:Int).toNat dd).Y) 0) (qSK E a1 FUEL ((a1.getD (0:Int).toNat dd).Y) ((a1.getD (0:Int).toNat dd).Y) 0 o13 h14)) (s_va 1 [(8,vc (.emp))] ?_);refine q_sq (s_va 1 [(9,vi (-60))] ?_);refine q_fo 8 1 53 2 qE ?_
  obtain⟨o26,h27,hm⟩:=qC hm;refine zB (nd f102 1012) 2 (by kernel_rfl) FUEL qKl o26 (q_hl (qDy a1 o13 ([]:List Span) 0 (-60)) (qTE E a1 o13 FUEL ([]:List Span) 0 (-60) o26 rfl h27)) ?_;obtain⟨v28,h29,hm⟩:=qC hm
  refine s_vu [qd 1 (dex (cen [] [] 2 0 (qAa v28) (RS v28) [73] [1])) (zW (K:=(kx E 81 0)) (b:=false) ⟨[(73,vo 1 0 2 o26.length)],[(1,ro 0 53 2 o26.length (rf qE o26))]⟩ (opAt (rg f102 254) 1) [] [] 2 (o1 (kd o26.length)) rfl (qFB (-60) o26 v28 h29) (.inr ⟨(by kernel_rfl),qG4 v28⟩) (by kernel_rfl))] 2 [8] [(11,vp 3 0)] [1] [(2,ro 0 53 2 v28.Rows.length (rf qE v28.Rows)),(3,bx 78 [ci v28.Low,.own 2 0 2 v28.Rows.length])] (q_sq ?_);refine s_va 4 [(78,vb ((v28.Rows.length:Int)==0))] (q_cq hm (λhm=>?_) (λhm=>?_))
  ·refine s_vu [] 4 [11,78] [(3,vi 18)] [2,3] [] (q_fu [.ownB 0 1 4 53 2 (rf qE [])] [] [] [0] [(0,bx 78 [ci 0,.own 4 0 2 0]),(4,ro 0 53 2 0 (rf qE []))] o0 ?_);refine q_fu [.len 4 (([]:List Span).length)] [] [] [0,4] [(0,bx 78 [ci 0,.own 4 0 2 (([]:List Span).length)]),(4,ro 0 53 2 (([]:List Span).length) (rf qE []))] (o1 (And.intro (show 0=([]:List Span).length from rfl) (show 0=([]:List Span).length from rfl))) ?_;obtain rfl:=oi hm;exact q_sw 4 0 (q_rt q_rm)
  ·refine q_sk (s_vu [] 4 [11,78] [(3,vi 0)] [0,3] [(0,bx 78 [ci v28.Low,.own 2 0 2 v28.Rows.length])] ?_);obtain rfl:=oi hm;exact q_sw 2 0 (q_rt q_rm)
open Go.Proofs Go.Proofs.Tryz
def qQt (r:qG×Bool):V:= .tup [.agg [ci r.1.Low,.own 0 0 2 r.1.Rows.length],.one (cb r.2)]
def qQH (r:qG×Bool):List (Nat×(Nat×O)):=[(0,ro 0 53 2 r.1.Rows.length (rf qE r.1.Rows))]
theorem qOY (a1:Ring) (a2:Int) (a3:Int) (r:qG×Bool) (hm:GP a1 a2 a3=some r):CtX Tryz.prog globs 49 0 0 [.agg (qU a1),.one (ci a2),.one (ci a3)] [] (qQt r) (qQH r):=by
 unfold GP at hm;refine q_E f49 31 λE=>?_;refine s_vn [] 0 ⟨[(1,vi a2),(2,vi a3),(3,vp 0 0),(6,vp 1 0)],[(0,bx 71 (qU a1)),(1,bx 78 [ci 0,.emp])]⟩ ?_;obtain⟨v4,h5,hm⟩:=qC hm;obtain⟨v6,h7,hm⟩:=qC hm
 refine s_vu [qc 2 [13,14] 2 (qTc a1 a2 v4 h5),qd 4 (dex (cen [] [] 3 0 (qIn v6) (HF v6) [15,16] [2])) (zW (K:=(kx E 31 0)) (b:=false) ⟨[(15,va [ci v4.Z,.own 2 0 3 v4.Read.length]),(16,vi a3)],[(2,ro 0 95 3 v4.Read.length (rf qQ v4.Read))]⟩ (opAt (rg f49 6) 4) [] [] 3 (o1 (kd v4.Read.length)) rfl (qQh (Ring.mk v4.Z v4.Read) a3 v6 h7) (.inr ⟨(by kernel_rfl),qS7 v6⟩) (by kernel_rfl))] 2 [1,2,3] [(8,vo 3 0 2 v6.1.length),(9,vi v6.2)] [0] [(3,ro 0 93 2 v6.1.length (rf qB v6.1))] (q_sq ?_);refine s_vv [] 4 [9] [(21,vb (v6.2 !=0))] (q_cq hm (λhm=>?_) (λhm=>?_))
 ·refine s_vu [] 4 [8,21] [(7,vb false)] [3] [] (q_fu [.ownB 1 1 4 53 2 (rf qE [])] [] [] [1] [(1,bx 78 [ci 0,.own 4 0 2 0]),(4,ro 0 53 2 0 (rf qE []))] o0 ?_);refine q_fu [.len 4 (([]:List Span).length)] [] [] [1,4] [(1,bx 78 [ci 0,.own 4 0 2 (([]:List Span).length)]),(4,ro 0 53 2 (([]:List Span).length) (rf qE []))] (o1 (And.intro (show 0=([]:List Span).length from rfl) (show 0=([]:List Span).length from rfl))) ?_;obtain rfl:=oi hm;exact q_sw 4 0 (q_rt q_rm)
 ·refine q_sk ?_;obtain⟨v9,h10,hm⟩:=qC hm;refine s_vu [qd 1 (dex (cen [] [] 4 0 (qRL v9) (qEX v9) [24] [3])) (zW (K:=(kx E 31 0)) (b:=false) ⟨[(24,vo 3 0 2 v6.1.length)],[(3,ro 0 93 2 v6.1.length (rf qB v6.1))]⟩ (opAt (rg f49 30) 1) [] [] 4 (o1 (kd v6.1.length)) rfl (qZg v6.1 v9 h10) (.inr ⟨(by kernel_rfl),q0b v9⟩) (by kernel_rfl))] 4 [8,21] [(10,vp 5 0),(11,vi v9.2)] [3] [(4,ro 0 53 2 v9.1.Rows.length (rf qE v9.1.Rows)),(5,bx 78 [ci v9.1.Low,.own 4 0 2 v9.1.Rows.length])] (s_vu [] 6 [10,11] [(7,vb (v9.2==0))] [1,5] [(1,bx 78 [ci v9.1.Low,.own 4 0 2 v9.1.Rows.length])] ?_);obtain rfl:=oi hm
  exact q_sw 4 0 (q_rt q_rm)
def qZe (r:Span):V:=va (qE r)
def qYA (r:Span):List (Nat×(Nat×O)):=[]
def qTy (a1:qG) (a2:Int) (x4:Bool):St:=
 ⟨[(1,vi a2),(2,vp 0 0),(4,vp 1 0),(18,vb x4)],[(0,bx 78 (qV a1)),(1,bx 53 [ci 0,ci 0])]⟩
theorem qLf (a1:qG) (a2:Int) (r:Span) (hm:CF a1 a2=some r):CtX Tryz.prog globs 104 0 0 [.agg (qV a1),.one (ci a2)] [] (qZe r) (qYA r):=by
 unfold CF at hm;refine q_E f104 28 λE=>?_;refine s_vn [] 0 ⟨[(1,vi a2),(2,vp 0 0),(4,vp 1 0)],[(0,bx 78 (qV a1)),(1,bx 53 [ci 0,ci 0])]⟩ (q_sq ?_);refine q_jn (qTy a1 a2) (λp=>qAw a1 a2 p=some r) ?_ ?_
 ·rintro x4 hm;refine q_cq hm (λhm=>?_) (λhm=>?_)
  ·refine s_vu [] 2 [1,2,18] [] [0] [] ?_;obtain rfl:=oi hm;exact q_rt q_rm
  ·refine q_sk ?_;obtain⟨g6,hm⟩:=qI hm;refine s_vn [qi 6 g6] 2 ⟨[(4,vp 1 0)],[(1,bx 53 (qE (a1.Rows.getD (w64 (a2-a1.Low)).toNat dd)))]⟩ ?_;obtain rfl:=oi hm;exact q_rt q_rm
 ·rcases bif_c hm with⟨b3,hm⟩|⟨b3,hm⟩
  ·exact q_vv [qf 4 b3] 2 [] [(18,vb true)] (q_J (true) hm)
  ·exact q_vv [qf 4 b3] 2 [] [(18,vb (decide (a2≥(w64 (a1.Low+(a1.Rows.length:Int))))))] (q_J (decide (a2≥(w64 (a1.Low+(a1.Rows.length:Int))))) hm)
def qTC (r:Bool):V:=vb r
def qSl (r:Bool):List (Nat×(Nat×O)):=[]
def qNK (x3:Bool):St:=
 ⟨[(2,vb x3)],[]⟩
theorem qAf (a1:Int) (r:Bool) (hm:UO a1=some r):CtX Tryz.prog globs 209 0 0 [.one (ci a1)] [] (qTC r) (qSl r):=by
 unfold UO at hm;refine q_E f209 9 λE=>?_;refine s_vn [] 0 ⟨[(0,vi a1)],[]⟩ (q_jn (qNK) (λp=>NE p=some r) ?_ ?_)
 ·rintro x3 hm;obtain rfl:=oi hm;exact q_rt q_rm
 ·rcases bif_c hm with⟨b2,hm⟩|⟨b2,hm⟩
  ·exact q_vn [qf 2 b2] 0 ⟨[(2,vb true)],[]⟩ (q_J (true) hm)
  ·exact q_vn [qf 2 b2] 0 ⟨[(2,vb (decide (a1>600)))],[]⟩ (q_J (decide (a1>600)) hm)
end Saw
end Go.SL

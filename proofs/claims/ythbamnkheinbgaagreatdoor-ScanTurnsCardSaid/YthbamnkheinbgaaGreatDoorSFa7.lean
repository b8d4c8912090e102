import Derived.Test.YthbamnkheinbgaaGreatDoorSBase
import Derived.Test.YthbamnkheinbgaaGreatDoorSFa1
import Derived.Test.YthbamnkheinbgaaGreatDoorSFa6
import Derived.Test.YthbamnkheinbgaaGreatDoorSFa4
set_option linter.unusedVariables false
set_option linter.unusedSimpArgs false
namespace Go.SL
namespace Saw
open Go.Proofs Go.Proofs.Tryz
set_option maxHeartbeats 4000000
set_option maxRecDepth 100000
def qIJ (r:Ring):V:=va [ci r.Z,.own 0 0 3 r.Read.length]
def qIu (r:Ring):List (Nat×(Nat×O)):=[(0,ro 0 73 3 r.Read.length (rf qF r.Read))]
def HK (a2:Int) (v3:Ring):St:=
 ⟨[(1,vi a2),(4,vp 1 0),(5,vp 3 0)],[(1,bx 45 [ci 0,.emp]),(2,ro 0 73 3 v3.Read.length (rf qF v3.Read)),(3,bx 45 [ci v3.Z,.own 2 0 3 v3.Read.length])]⟩
def DV (a1:Ring) (a2:Int) (v3:Ring) (l9:List qA) (l9n:Nat) (x10:Int):St:=
 (HK a2 v3).up [] [(6,vo 4 0 2 l9n),(22,vc (tl qF dd a1.Read)),(23,vi (a1.Read.length:Int)),(24,vi x10)] [] [(4,ro 0 71 2 l9n (rf qB l9))]
def OI (a2:Int) (v3:Ring) (l14:List qA):St:=
 (HK a2 v3).up [] [(6,vo 4 0 2 l14.length)] [] [(4,ro 0 71 2 l14.length (rf qB l14))]
def GQ (v3:Ring) (v17:(List qA)) (x19:Int) (l20:List qC) (l20n:Nat):St:=
 ⟨[(4,vp 1 0),(5,vp 3 0),(37,vo 5 0 2 v17.length),(38,vi (v17.length:Int)),(39,vi x19)],[(1,bx 45 [ci 0,.emp]),(2,ro 0 73 3 l20n (rf qF l20)),(3,bx 45 [ci v3.Z,.own 2 0 3 l20n]),(5,ro 0 71 2 v17.length (rf qB v17))]⟩
def IJ (v3:Ring) (l24:List qC):St:=
 ⟨[(4,vp 1 0),(5,vp 3 0)],[(1,bx 45 [ci 0,.emp]),(2,ro 0 73 3 l24.length (rf qF l24)),(3,bx 45 [ci v3.Z,.own 2 0 3 l24.length])]⟩
theorem qDV (E:Env 0) (a1:Ring) (a2:Int) (v3:Ring):∀(n:Nat) (l9:List qA) (l9n:Nat) (x10:Int) (res:(List qA)),l9.length=l9n->WI a1 n l9 x10=some res->HL (kx E 52 0) (nd f75 500) (zF 0 (λo=>OI a2 v3 o) res) n (DV a1 a2 v3 l9 l9n x10):=by
 intro n
 induction n with
 |zero=>
  intro l9 l9n x10 res hl0 hm;cases hm
 |succ n ih=>
  intro l9 l9n x10 res hl0 hm;subst hl0;refine qR (s_va 5 [(25,vb (decide (x10<(a1.Read.length:Int))))] ?_);refine q_sq (q_cq hm (λhm=>?_) (λhm=>?_))
  ·refine q_sk (q_sq ?_);refine q_bk 1 ?_;obtain⟨g12,hm⟩:=qJ hm;refine s_vu [qi 1 g12] 5 [25] [(7,vi x10),(8,vp 5 0)] [] [(5,bx 73 (qF (a1.Read.getD x10.toNat dd)))] ?_;obtain⟨g13,hm⟩:=qJ hm
   refine q_vu [qi 4 g13,qd 5 (drw 0 0 (rf qB (l9.set x10.toNat ((a1.Read.getD x10.toNat dd).P)))) (stP qB dd ((a1.Read.getD x10.toNat dd).P) l9 l9.length x10.toNat 0 [ci (((a1.Read.getD x10.toNat dd).P).X),ci (((a1.Read.getD x10.toNat dd).P).Y)] rfl (qU (zA g13)) rfl)] 6 [7,8] [] [4,5] [(4,ro 0 71 2 l9.length (rf qB (l9.set x10.toNat ((a1.Read.getD x10.toNat dd).P))))] (q_vv [] 6 [24] [(24,vi (w64 (x10+1)))] ?_)
   exact q_hl (DV a1 a2 v3 (l9.set x10.toNat ((a1.Read.getD x10.toNat dd).P)) l9.length (w64 (x10+1))) (ih (l9.set x10.toNat ((a1.Read.getD x10.toNat dd).P)) l9.length (w64 (x10+1)) _ (jP rfl) hm)
  ·refine q_ex 0 ?_;obtain rfl:=oi hm;exact q_l0
theorem qDU (E:Env 0) (v3:Ring) (v17:(List qA)):∀(n:Nat) (x19:Int) (l20:List qC) (l20n:Nat) (res:(List qC)),l20.length=l20n->JA v17 n x19 l20=some res->HL (kx E 52 0) (nd f75 1012) (zF 2 (λo=>IJ v3 o) res) n (GQ v3 v17 x19 l20 l20n):=by
 intro n
 induction n with
 |zero=>
  intro x19 l20 l20n res hl0 hm;cases hm
 |succ n ih=>
  intro x19 l20 l20n res hl0 hm;subst hl0;refine qR (s_va 6 [(40,vb (decide (x19<(v17.length:Int))))] ?_);refine q_sq (q_cq hm (λhm=>?_) (λhm=>?_))
  ·refine q_sk (q_sq ?_);refine q_bk 3 ?_;obtain⟨g22,hm⟩:=qJ hm;refine s_vu [qi 1 g22,qd 2 dN (qU (zA g22))] 6 [40] [(9,vi x19),(10,vp 6 0)] [] [(6,bx 71 (qB (v17.getD x19.toNat dd)))] ?_;obtain⟨g23,hm⟩:=qJ hm
   refine q_vu [qi 4 g23,qd 6 (drw 0 0 (rf qF (l20.set x19.toNat (qC.mk (v17.getD x19.toNat dd) ((l20.getD x19.toNat dd).Ok))))) (stP qF dd (qC.mk (v17.getD x19.toNat dd) ((l20.getD x19.toNat dd).Ok)) l20 l20.length x19.toNat 0 [ci ((v17.getD x19.toNat dd).X),ci ((v17.getD x19.toNat dd).Y)] rfl (qU (zA g23)) rfl)] 7 [9,10] [] [2,6] [(2,ro 0 73 3 l20.length (rf qF (l20.set x19.toNat (qC.mk (v17.getD x19.toNat dd) ((l20.getD x19.toNat dd).Ok)))))] (q_vv [] 7 [39] [(39,vi (w64 (x19+1)))] ?_)
   exact q_hl (GQ v3 v17 (w64 (x19+1)) (l20.set x19.toNat (qC.mk (v17.getD x19.toNat dd) ((l20.getD x19.toNat dd).Ok))) l20.length) (ih (w64 (x19+1)) (l20.set x19.toNat (qC.mk (v17.getD x19.toNat dd) ((l20.getD x19.toNat dd).Ok))) l20.length _ (jP rfl) hm)
  ·refine q_ex 2 ?_;obtain rfl:=oi hm;exact q_l0
theorem qHc (a1:Ring) (a2:Int) (r:Ring) (hm:wE a1 a2=some r):CtX Tryz.prog globs 75 0 0 [.agg (qI a1),.one (ci a2)] [] (qIJ r) (qIu r):=by
 unfold wE at hm;refine q_E f75 52 λE=>?_;refine s_vn [] 0 ⟨[(1,vi a2),(2,vp 0 0),(4,vp 1 0)],[(0,bx 45 (qI a1)),(1,bx 45 [ci 0,.emp])]⟩ ?_;obtain⟨v3,h4,hm⟩:=qE hm;refine s_vu [qc 1 [11] 2 (qAg a1 v3 h4)] 2 [] [(5,vp 3 0)] [] [(2,ro 0 73 3 v3.Read.length (rf qF v3.Read)),(3,bx 45 [ci v3.Z,.own 2 0 3 v3.Read.length])] (q_sq ?_);obtain⟨v5,h6,hm⟩:=qE hm;refine s_vv [qc 1 [13] 4 (RM a1 v5 h6)] 4 [] [(15,vb (v5 !=0))] (q_cq hm (λhm=>?_) (λhm=>?_))
 ·refine s_vu [] 4 [1,2,5,15] [] [0,1,3] [(1,bx 45 [ci v3.Z,.own 2 0 3 v3.Read.length])] ?_;obtain rfl:=oi hm;exact q_sw 2 0 (q_rt q_rm)
 ·refine q_sk ?_;obtain⟨g8,hm⟩:=qJ hm;refine s_vu [qd 3 (drw 4 0 (rf qB (List.replicate ((a1.Read.length:Int).toNat) (qA.mk 0 0)))) (mkP qB dd (qA.mk 0 0) (a1.Read.length:Int) 16 [ci 0,ci 0] (DW g8) rfl)] 4 [15] [(6,vo 4 0 2 ((a1.Read.length:Int).toNat))] [] [(4,ro 0 71 2 ((a1.Read.length:Int).toNat) (rf qB (List.replicate ((a1.Read.length:Int).toNat) (qA.mk 0 0))))] (q_sq ?_);refine s_vu [] 5 [2] [(22,vc (tl qF dd a1.Read)),(23,vi (a1.Read.length:Int)),(24,vi 0)] [0] [] ?_;obtain⟨o15,h16,hm⟩:=qE hm
  refine qZ (nd f75 500) 0 (by kernel_rfl) FUEL (λo=>OI a2 v3 o) o15 (q_hl (DV a1 a2 v3 (List.replicate ((a1.Read.length:Int).toNat) (qA.mk 0 0)) ((a1.Read.length:Int).toNat) 0) (qDV E a1 a2 v3 FUEL (List.replicate ((a1.Read.length:Int).toNat) (qA.mk 0 0)) ((a1.Read.length:Int).toNat) 0 o15 GT h16)) (q_sq ?_);obtain⟨v17,h18,hm⟩:=qE hm
  refine s_vu [qd 2 (dex (cen [] [] 5 0 (qCn v17) (BK v17) [35,36] [4])) (zJ (K:=(kx E 52 0)) (b:=false) ⟨[(35,vo 4 0 2 o15.length),(36,vi a2)],[(4,ro 0 71 2 o15.length (rf qB o15))]⟩ (opAt (rg f75 252) 2) [] [] 5 (o1 (kg o15.length)) rfl (qHy o15 a2 v17 h18) (.inr ⟨(by kernel_rfl),qIC v17⟩) (by kernel_rfl))] 5 [1,6] [(37,vo 5 0 2 v17.length),(38,vi (v17.length:Int)),(39,vi 0)] [4] [(5,ro 0 71 2 v17.length (rf qB v17))] ?_;obtain⟨o25,h26,hm⟩:=qE hm
  refine qZ (nd f75 1012) 2 (by kernel_rfl) FUEL (λo=>IJ v3 o) o25 (q_hl (GQ v3 v17 0 v3.Read v3.Read.length) (qDU E v3 v17 FUEL 0 v3.Read v3.Read.length o25 rfl h26)) (s_vu [] 6 [5] [] [1,3] [(1,bx 45 [ci v3.Z,.own 2 0 3 o25.length])] ?_);obtain rfl:=oi hm;exact q_sw 2 0 (q_rt q_rm)
def CQ (r:List Ring):V:=vo 0 0 2 r.length
def CL (r:List Ring):List (Nat×(Nat×O)):=[(0,ro 0 45 2 r.length (rf qI r))]
theorem IL (a1:List Ring) (r:List Ring) (hm:ZI a1=some r):CtX Tryz.prog globs 135 0 0 [.one (tl qI dd a1)] [] (CQ r) (CL r):=by
 unfold ZI at hm;obtain⟨g1,hm⟩:=qJ hm;obtain rfl:=kH hm;refine LQ (fn:=f135) (c:=nd f135 1) (nt:=8) (by kernel_rfl) (by kernel_rfl) (by kernel_rfl) (by kernel_rfl) λE=>?_;refine R_sq f135 2 3 (by kernel_rfl) (R_rn f135 2 0 [] [] 0 ⟨[(0,vc (tl qI dd a1))],[]⟩ o0 (by kernel_rfl) (by kernel_rfl) ?_);refine R_sq f135 6 7 (by kernel_rfl) (R_sq f135 12 13 (by kernel_rfl) ?_);refine qGP f135 12 1 1 ⟨[(0,vc (tl qI dd a1)),(3,vc (tl qI dd a1))],[]⟩ 22 22 45 4 (.tmp 3) a1.length (rf qI a1) (by kernel_rfl) (by kernel_rfl) (by kernel_rfl) (λb hb=>?_)
 refine R_cn f135 (.tmp 4) 26 27 (by kernel_rfl) b (by kernel_rfl) (λb6=>?_) (λb6=>?_)
 ·obtain rfl:a1=[]:=ut (hb b6);refine R_sq f135 52 53 (by kernel_rfl) (R_rn f135 52 2 [] [.own 2 0 45 2 (rf qI [])] 0 ⟨[(2,vo 0 0 2 0)],[(0,ro 0 45 2 0 (rf qI []))]⟩ o0 (by kernel_rfl) (by kernel_rfl) ?_);exact LC (by kernel_rfl) (GG (by kernel_rfl) (by kernel_rfl))
 ·refine qBi (by kernel_rfl) (R_sq f135 14 15 (by kernel_rfl) ?_);refine R_rn f135 14 3 [(0,drw 0 0 (rf qI [])),(2,drw 0 1 (rf qI ([]++a1)))] [.len 0 a1.length] 0 ⟨[(2,vo 0 1 2 a1.length)],[(0,ro 1 45 2 a1.length (rf qI ([]++a1)))]⟩ (o1 (And.intro (And.intro (litP qI dd 2 (λ_=>rfl) ([]:List Ring) 0 rfl) (apP qI dd ([]:List Ring) a1 0 a1.length 2 32 True trivial rfl rfl (λ_=>rfl) (by have:=zP g1;rw[ky];exact this))) (And.intro (And.intro (ky a1.length) (ky a1.length)) (ky a1.length)))) (by kernel_rfl) (by kernel_rfl) (LC (by kernel_rfl) ?_);exact GG (by kernel_rfl) (by kernel_rfl)
def AV (r:List qD):V:=vo 0 0 7 r.length
def AR (r:List qD):List (Nat×(Nat×O)):=[(0,ro 0 68 7 r.length (rf qG r))]
theorem SO (a1:List qD) (r:List qD) (hm:QA a1=some r):CtX Tryz.prog globs 66 0 0 [.one (tl qG dd a1)] [] (AV r) (AR r):=by
 unfold QA at hm;obtain⟨g1,hm⟩:=qJ hm;obtain rfl:=kH hm;refine LQ (fn:=f66) (c:=nd f66 1) (nt:=8) (by kernel_rfl) (by kernel_rfl) (by kernel_rfl) (by kernel_rfl) λE=>?_;refine R_sq f66 2 3 (by kernel_rfl) (R_rn f66 2 0 [] [] 0 ⟨[(0,vc (tl qG dd a1))],[]⟩ o0 (by kernel_rfl) (by kernel_rfl) ?_);refine R_sq f66 6 7 (by kernel_rfl) (R_sq f66 12 13 (by kernel_rfl) ?_);refine qGP f66 12 1 1 ⟨[(0,vc (tl qG dd a1)),(3,vc (tl qG dd a1))],[]⟩ 23 23 68 4 (.tmp 3) a1.length (rf qG a1) (by kernel_rfl) (by kernel_rfl) (by kernel_rfl) (λb hb=>?_)
 refine R_cn f66 (.tmp 4) 26 27 (by kernel_rfl) b (by kernel_rfl) (λb6=>?_) (λb6=>?_)
 ·obtain rfl:a1=[]:=ut (hb b6);refine R_sq f66 52 53 (by kernel_rfl) (R_rn f66 52 2 [] [.own 2 0 68 7 (rf qG [])] 0 ⟨[(2,vo 0 0 7 0)],[(0,ro 0 68 7 0 (rf qG []))]⟩ o0 (by kernel_rfl) (by kernel_rfl) ?_);exact LC (by kernel_rfl) (GG (by kernel_rfl) (by kernel_rfl))
 ·refine qBi (by kernel_rfl) (R_sq f66 14 15 (by kernel_rfl) ?_);refine R_rn f66 14 3 [(0,drw 0 0 (rf qG [])),(2,drw 0 1 (rf qG ([]++a1)))] [.len 0 a1.length] 0 ⟨[(2,vo 0 1 7 a1.length)],[(0,ro 1 68 7 a1.length (rf qG ([]++a1)))]⟩ (o1 (And.intro (And.intro (litP qG dd 7 (λ_=>rfl) ([]:List qD) 0 rfl) (apP qG dd ([]:List qD) a1 0 a1.length 7 56 True trivial rfl rfl (λ_=>rfl) (by have:=zP g1;rw[ky];exact this))) (And.intro (And.intro (ky a1.length) (ky a1.length)) (ky a1.length)))) (by kernel_rfl) (by kernel_rfl) (LC (by kernel_rfl) ?_);exact GG (by kernel_rfl) (by kernel_rfl)
open Go.Proofs Go.Proofs.Tryz
def qHh (r:Scan):V:=va [.own 0 0 2 r.Rings.length,.own 1 0 7 r.Defects.length]
def qHl (r:Scan):List (Nat×(Nat×O)):=[(0,ro 0 45 2 r.Rings.length (rf qI r.Rings)),(1,ro 0 68 7 r.Defects.length (rf qG r.Defects))]
def UZ (v2:List Ring) (v4:List qD) (x6:Int) (l7:List Ring) (l7n:Nat):St:=
 ⟨[(2,vp 1 0),(3,vp 4 0),(14,vi (v2.length:Int)),(15,vi x6)],[(1,bx 25 [.emp,.emp]),(2,ro 0 45 2 l7n (rf qI l7)),(3,ro 0 68 7 v4.length (rf qG v4)),(4,bx 25 [.own 2 0 2 l7n,.own 3 0 7 v4.length])]⟩
def EQ (v4:List qD) (l15:List Ring):St:=
 ⟨[(2,vp 1 0),(3,vp 4 0)],[(1,bx 25 [.emp,.emp]),(2,ro 0 45 2 l15.length (rf qI l15)),(3,ro 0 68 7 v4.length (rf qG v4)),(4,bx 25 [.own 2 0 2 l15.length,.own 3 0 7 v4.length])]⟩
theorem qC4 (E:Env 0) (v2:List Ring) (v4:List qD):∀(n:Nat) (x6:Int) (l7:List Ring) (l7n:Nat) (res:(List Ring)),l7.length=l7n->wW v2 n x6 l7=some res->HL (kx E 32 0) (nd f73 116) (zF 0 (λo=>EQ v4 o) res) n (UZ v2 v4 x6 l7 l7n):=by
 intro n
 induction n with
 |zero=>
  intro x6 l7 l7n res hl0 hm;cases hm
 |succ n ih=>
  intro x6 l7 l7n res hl0 hm;subst hl0;refine qR (s_va 5 [(16,vb (decide (x6<(v2.length:Int))))] ?_);refine q_sq (q_cq hm (λhm=>?_) (λhm=>?_))
  ·refine q_sk (q_sq ?_);refine q_bk 1 (s_vv [] 5 [16] [(4,vi x6)] ?_);obtain⟨g12,hm⟩:=qJ hm;obtain⟨v13,h14,hm⟩:=qE hm
   refine q_du [qi 6 g12,qd 8 dN (qU (zA g12)),qc 9 [26] 5 (CtX.frz (x':=vc (tl qF dd v13)) (ob':=[]) (XX ((l7.getD x6.toNat dd).Read) v13 h14) 0 (o1 (kg v13.length)) (by kernel_rfl)),qi 10 g12,qd 12 (drw 0 0 (rf qI (l7.set x6.toNat (Ring.mk ((l7.getD x6.toNat dd).Z) v13)))) (stP qI dd (Ring.mk ((l7.getD x6.toNat dd).Z) v13) l7 l7.length x6.toNat 1 [tl qF dd v13] rfl (qU (zA g12)) rfl)] [0,1,0,0,8,0,56,120,248,504,1023,2047,4095] 5 [4] [] [2] [(2,ro 0 45 2 l7.length (rf qI (l7.set x6.toNat (Ring.mk ((l7.getD x6.toNat dd).Z) v13))))] (q_vv [] 5 [15] [(15,vi (w64 (x6+1)))] ?_)
   exact q_hl (UZ v2 v4 (w64 (x6+1)) (l7.set x6.toNat (Ring.mk ((l7.getD x6.toNat dd).Z) v13)) l7.length) (ih (w64 (x6+1)) (l7.set x6.toNat (Ring.mk ((l7.getD x6.toNat dd).Z) v13)) l7.length _ (jP rfl) hm)
  ·refine q_ex 0 ?_;obtain rfl:=oi hm;exact q_l0
theorem qGB (a1:Scan) (r:Scan) (hm:VT a1=some r):CtX Tryz.prog globs 73 0 0 [.agg (qP a1)] [] (qHh r) (qHl r):=by
 unfold VT at hm;refine q_E f73 32 λE=>?_;refine s_vn [] 0 ⟨[(1,vp 0 0),(2,vp 1 0)],[(0,bx 25 (qP a1)),(1,bx 25 [.emp,.emp])]⟩ ?_;obtain⟨v2,h3,hm⟩:=qE hm;obtain⟨v4,h5,hm⟩:=qE hm;refine s_du [qc 2 [6] 2 (IL a1.Rings v2 h3),qc 5 [9] 3 (SO a1.Defects v4 h5)] [0,1,3,0,8,31,63,0,255] 2 [1] [(3,vp 4 0)] [0] [(2,ro 0 45 2 v2.length (rf qI v2)),(3,ro 0 68 7 v4.length (rf qG v4)),(4,bx 25 [.own 2 0 2 v2.length,.own 3 0 7 v4.length])] (q_sq ?_);refine s_va 5 [(14,vi (v2.length:Int)),(15,vi 0)] ?_;obtain⟨o16,h17,hm⟩:=qE hm
 refine qZ (nd f73 116) 0 (by kernel_rfl) FUEL (λo=>EQ v4 o) o16 (q_hl (UZ v2 v4 0 v2 v2.length) (qC4 E v2 v4 FUEL 0 v2 v2.length o16 rfl h17)) (s_vu [] 5 [3] [] [1,4] [(1,bx 25 [.own 2 0 2 o16.length,.own 3 0 7 v4.length])] ?_);obtain rfl:=oi hm;refine q_sw 2 0 (q_sw 3 1 ?_);exact q_rt q_rm
def qGv (r:(List qD)):V:=vo 0 0 7 r.length
def qGE (r:(List qD)):List (Nat×(Nat×O)):=[(0,ro 0 68 7 r.length (rf qG r))]
def KK (a1:List qD) (a2:Int) (l7:List qD) (x8:Int):St:=
 ⟨[(1,vi (Int.tmod (w64 ((Int.tmod a2 4)+4)) 4)),(5,vo 0 0 7 l7.length),(6,vi x8),(7,vp 1 0),(18,vc (tl qG dd a1)),(19,vi (a1.length:Int)),(20,vi x8)],[(0,ro 0 68 7 l7.length (rf qG l7))]⟩
def TI (a1:List qD) (a2:Int) (l7:List qD) (x8:Int) (x11:Int) (x12:Int) (x13:Int) (x14:Int) (x15:Int):St:=
 (KK a1 a2 l7 x8).up [] [(25,vi (Int.tmod (w64 ((Int.tmod a2 4)+4)) 4)),(26,vi x11)] [] [(1,bx 68 [ci ((a1.getD x8.toNat dd).Kind),ci x12,ci x13,ci x14,ci x15,ci ((((a1.getD x8.toNat dd).Box).Z).A),ci ((((a1.getD x8.toNat dd).Box).Z).B)])]
def SB (a1:List qD) (a2:Int) (l7:List qD) (x8:Int) (x17:qD):St:=
 (KK a1 a2 l7 x8).up [] [] [] [(1,bx 68 (qG x17))]
def TX (a1:List qD) (a2:Int) (l7:List qD) (l7n:Nat) (x8:Int):St:=
 (KK a1 a2 l7 x8).up [5,6,7] [(5,vo 0 0 7 l7n)] [0] [(0,ro 0 68 7 l7n (rf qG l7))]
def LY (l21:List qD):St:=
 ⟨[(5,vo 0 0 7 l21.length)],[(0,ro 0 68 7 l21.length (rf qG l21))]⟩
theorem qBI (E:Env 0) (a1:List qD) (a2:Int) (l7:List qD) (x8:Int):∀(n:Nat) (x11:Int) (x12:Int) (x13:Int) (x14:Int) (x15:Int) (res:qD),wP a1 a2 x8 n x11 x12 x13 x14 x15=some res->HL (kx E 53 0) (nd f74 256404) (zF 2 (λo=>SB a1 a2 l7 x8 o) res) n (TI a1 a2 l7 x8 x11 x12 x13 x14 x15):=by
 intro n
 induction n with
 |zero=>
  intro x11 x12 x13 x14 x15 res hm;cases hm
 |succ n ih=>
  intro x11 x12 x13 x14 x15 res hm;refine qR (s_va 2 [(27,vb (decide (x11<(Int.tmod (w64 ((Int.tmod a2 4)+4)) 4))))] ?_);refine q_sq (q_cq hm (λhm=>?_) (λhm=>?_))
  ·refine q_sk (q_sq ?_);refine q_bk 3 (q_vu [] 2 [27] [] [1] [(1,bx 68 [ci ((a1.getD x8.toNat dd).Kind),ci (w64 (0-x15)),ci (w64 (0-x14)),ci x12,ci x13,ci ((((a1.getD x8.toNat dd).Box).Z).A),ci ((((a1.getD x8.toNat dd).Box).Z).B)])] ?_);exact q_vv [] 2 [26] [(26,vi (w64 (x11+1)))] (q_hl (TI a1 a2 l7 x8 (w64 (x11+1)) (w64 (0-x15)) (w64 (0-x14)) x12 x13) (ih (w64 (x11+1)) (w64 (0-x15)) (w64 (0-x14)) x12 x13 _ hm))
  ·refine q_ex 2 ?_;obtain rfl:=oi hm;exact q_l0
theorem qB8 (E:Env 0) (a1:List qD) (a2:Int):∀(n:Nat) (l7:List qD) (l7n:Nat) (x8:Int) (res:(List qD)),l7.length=l7n->jD a1 a2 n l7 x8=some res->HL (kx E 53 0) (nd f74 500) (zF 0 LY res) n (TX a1 a2 l7 l7n x8):=by
 intro n
 induction n with
 |zero=>
  intro l7 l7n x8 res hl0 hm;cases hm
 |succ n ih=>
  intro l7 l7n x8 res hl0 hm;subst hl0;refine qR (s_va 1 [(21,vb (decide (x8<(a1.length:Int))))] ?_);refine q_sq (q_cq hm (λhm=>?_) (λhm=>?_))
  ·refine q_sk (q_sq ?_);refine q_bk 1 ?_;obtain⟨g10,hm⟩:=qJ hm;refine s_vu [qi 1 g10] 1 [21] [(6,vi x8),(7,vp 1 0)] [] [(1,bx 68 (qG (a1.getD x8.toNat dd)))] (q_sq ?_);refine s_va 2 [(25,vi (Int.tmod (w64 ((Int.tmod a2 4)+4)) 4)),(26,vi 0)] ?_;obtain⟨o18,h19,hm⟩:=qE hm
   refine qZ (nd f74 256404) 2 (by kernel_rfl) FUEL (λo=>SB a1 a2 l7 x8 o) o18 (q_hl (TI a1 a2 l7 x8 0 ((((a1.getD x8.toNat dd).Box).X).A) ((((a1.getD x8.toNat dd).Box).X).B) ((((a1.getD x8.toNat dd).Box).Y).A) ((((a1.getD x8.toNat dd).Box).Y).B)) (qBI E a1 a2 l7 x8 FUEL 0 ((((a1.getD x8.toNat dd).Box).X).A) ((((a1.getD x8.toNat dd).Box).X).B) ((((a1.getD x8.toNat dd).Box).Y).A) ((((a1.getD x8.toNat dd).Box).Y).B) o18 h19)) ?_;obtain⟨g20,hm⟩:=qJ hm
   refine q_vu [qi 3 g20,qd 4 (drw 0 0 (rf qG (l7.set x8.toNat o18))) (stP qG dd o18 l7 l7.length x8.toNat 0 (qG o18) rfl (qU (zA g20)) rfl)] 2 [6,7] [] [0,1] [(0,ro 0 68 7 l7.length (rf qG (l7.set x8.toNat o18)))] (q_vv [] 2 [20] [(20,vi (w64 (x8+1)))] ?_);exact q_hl (TX a1 a2 (l7.set x8.toNat o18) l7.length (w64 (x8+1))) (ih (l7.set x8.toNat o18) l7.length (w64 (x8+1)) _ (jP rfl) hm)
  ·refine q_ex 0 ?_;obtain rfl:=oi hm;exact q_l0
theorem qED (a1:List qD) (a2:Int) (r:(List qD)) (hm:PY a1 a2=some r):CtX Tryz.prog globs 74 0 0 [.one (tl qG dd a1),.one (ci a2)] [] (qGv r) (qGE r):=by
 unfold PY at hm;refine q_E f74 53 λE=>?_;refine s_vn [] 0 ⟨[(0,vc (tl qG dd a1)),(1,vi a2)],[]⟩ (q_sq ?_);obtain⟨v3,h4,hm⟩:=qE hm;refine s_vv [qc 1 [8] 0 (SQ a1 v3 h4)] 0 [] [(10,vb (v3 !=0))] (q_cq hm (λhm=>?_) (λhm=>?_))
 ·refine s_vn [] 0 ⟨[(4,vc (.emp))],[]⟩ (q_fn [.own 4 0 68 7 (rf qG [])] ⟨[(4,vo 0 0 7 0)],[(0,ro 0 68 7 0 (rf qG []))]⟩ o0 ?_);refine q_fn [.len 0 (([]:List qD).length)] ⟨[(4,vo 0 0 7 (([]:List qD).length))],[(0,ro 0 68 7 (([]:List qD).length) (rf qG []))]⟩ (o1 (And.intro (show 0=([]:List qD).length from rfl) (show 0=([]:List qD).length from rfl))) ?_;obtain rfl:=oi hm;exact q_rt q_rm
 ·refine q_sk (s_vv [qd 1 dN (show(4:Int)≠0 by decide),qd 3 dN (show(4:Int)≠0 by decide)] 0 [1,10] [(1,vi (Int.tmod (w64 ((Int.tmod a2 4)+4)) 4))] ?_);obtain⟨g6,hm⟩:=qJ hm
  refine s_vu [qd 2 (drw 0 0 (rf qG (List.replicate ((a1.length:Int).toNat) (qD.mk 0 (Box.mk (Span.mk 0 0) (Span.mk 0 0) (Span.mk 0 0)))))) (mkP qG dd (qD.mk 0 (Box.mk (Span.mk 0 0) (Span.mk 0 0) (Span.mk 0 0))) (a1.length:Int) 56 [ci 0,ci 0,ci 0,ci 0,ci 0,ci 0,ci 0] (DW g6) rfl)] 0 [] [(5,vo 0 0 7 ((a1.length:Int).toNat))] [] [(0,ro 0 68 7 ((a1.length:Int).toNat) (rf qG (List.replicate ((a1.length:Int).toNat) (qD.mk 0 (Box.mk (Span.mk 0 0) (Span.mk 0 0) (Span.mk 0 0))))))] (q_sq ?_);refine s_vv [] 1 [0] [(18,vc (tl qG dd a1)),(19,vi (a1.length:Int)),(20,vi 0)] ?_;obtain⟨o22,h23,hm⟩:=qE hm
  refine qZ (nd f74 500) 0 (by kernel_rfl) FUEL LY o22 (q_hl (TX a1 a2 (List.replicate ((a1.length:Int).toNat) (qD.mk 0 (Box.mk (Span.mk 0 0) (Span.mk 0 0) (Span.mk 0 0)))) ((a1.length:Int).toNat) 0) (qB8 E a1 a2 FUEL (List.replicate ((a1.length:Int).toNat) (qD.mk 0 (Box.mk (Span.mk 0 0) (Span.mk 0 0) (Span.mk 0 0)))) ((a1.length:Int).toNat) 0 o22 GT h23)) (s_vv [] 1 [5] [(4,vo 0 0 7 o22.length)] ?_);obtain rfl:=oi hm;exact q_rt q_rm
def qIN (r:Scan):V:=va [.own 0 0 2 r.Rings.length,.own 1 0 7 r.Defects.length]
def qIw (r:Scan):List (Nat×(Nat×O)):=[(0,ro 0 45 2 r.Rings.length (rf qI r.Rings)),(1,ro 0 68 7 r.Defects.length (rf qG r.Defects))]
def DU (a1:Scan) (a2:Int) (v9:(List qD)) (x11:Int) (l12:List Ring) (l12n:Nat):St:=
 ⟨[(1,vi a2),(2,vp 0 0),(4,vp 1 0),(5,vp 4 0),(23,vi (a1.Rings.length:Int)),(24,vi x11)],[(0,bx 25 (qP a1)),(1,bx 25 [.emp,.emp]),(2,ro 0 45 2 l12n (rf qI l12)),(3,ro 0 68 7 v9.length (rf qG v9)),(4,bx 25 [.own 2 0 2 l12n,.own 3 0 7 v9.length])]⟩
def OE (v9:(List qD)) (l22:List Ring):St:=
 ⟨[(4,vp 1 0),(5,vp 4 0)],[(1,bx 25 [.emp,.emp]),(2,ro 0 45 2 l22.length (rf qI l22)),(3,ro 0 68 7 v9.length (rf qG v9)),(4,bx 25 [.own 2 0 2 l22.length,.own 3 0 7 v9.length])]⟩
theorem qDq (E:Env 0) (a1:Scan) (a2:Int) (v9:(List qD)):∀(n:Nat) (x11:Int) (l12:List Ring) (l12n:Nat) (res:(List Ring)),l12.length=l12n->yL a1 a2 n x11 l12=some res->HL (kx E 40 0) (nd f33 244) (zF 0 (λo=>OE v9 o) res) n (DU a1 a2 v9 x11 l12 l12n):=by
 intro n
 induction n with
 |zero=>
  intro x11 l12 l12n res hl0 hm;cases hm
 |succ n ih=>
  intro x11 l12 l12n res hl0 hm;subst hl0;refine qR (s_va 5 [(25,vb (decide (x11<(a1.Rings.length:Int))))] ?_);refine q_sq (q_cq hm (λhm=>?_) (λhm=>?_))
  ·refine q_sk (q_sq ?_);refine q_bk 1 (s_vv [] 5 [25] [(6,vi x11)] ?_);obtain⟨g18,hm⟩:=qJ hm;obtain⟨v19,h20,hm⟩:=qE hm;obtain⟨g21,hm⟩:=qJ hm;refine q_du [qi 6 g18,qc 9 [34,35] 5 (CtX.frz (x':=va (qI v19)) (ob':=[]) (qHc (a1.Rings.getD x11.toNat dd) a2 v19 h20) 0 (o1 (kg v19.Read.length)) (by kernel_rfl)),qi 10 g21,qd 11 (drw 0 0 (rf qI (l12.set x11.toNat v19))) (stP qI dd v19 l12 l12.length x11.toNat 0 (qI v19) rfl (qU (zA g21)) rfl)] [0,1,0,0,8,0,56,120,0,504,1023,2047] 5 [6] [] [2] [(2,ro 0 45 2 l12.length (rf qI (l12.set x11.toNat v19)))] (q_vv [] 5 [24] [(24,vi (w64 (x11+1)))] ?_)
   exact q_hl (DU a1 a2 v9 (w64 (x11+1)) (l12.set x11.toNat v19) l12.length) (ih (w64 (x11+1)) (l12.set x11.toNat v19) l12.length _ (jP rfl) hm)
  ·refine q_ex 0 ?_;obtain rfl:=oi hm;exact q_l0
theorem HU (a1:Scan) (a2:Int) (r:Scan) (hm:BN a1 a2=some r):CtX Tryz.prog globs 33 0 0 [.agg (qP a1),.one (ci a2)] [] (qIN r) (qIw r):=by
 unfold BN at hm;refine q_E f33 40 λE=>?_;refine s_vn [] 0 ⟨[(1,vi a2),(2,vp 0 0),(4,vp 1 0)],[(0,bx 25 (qP a1)),(1,bx 25 [.emp,.emp])]⟩ (q_sq ?_);obtain⟨v3,h4,hm⟩:=qE hm;refine s_vv [qc 1 [7] 2 (YF a1 v3 h4)] 2 [] [(9,vb (v3 !=0))] (q_cq hm (λhm=>?_) (λhm=>?_))
 ·obtain⟨v6,h7,hm⟩:=qE hm;refine s_vn [qc 1 [10] 2 (qGB a1 v6 h7)] 2 ⟨[(4,vp 1 0)],[(1,bx 25 [.own 2 0 2 v6.Rings.length,.own 3 0 7 v6.Defects.length]),(2,ro 0 45 2 v6.Rings.length (rf qI v6.Rings)),(3,ro 0 68 7 v6.Defects.length (rf qG v6.Defects))]⟩ ?_;obtain rfl:=oi hm;refine q_sw 2 0 (q_sw 3 1 ?_);exact q_rt q_rm
 ·refine q_sk ?_;obtain⟨g8,hm⟩:=qJ hm;obtain⟨v9,h10,hm⟩:=qE hm
  refine s_du [qd 3 (drw 2 0 (rf qI (List.replicate ((a1.Rings.length:Int).toNat) (Ring.mk 0 ([]:List qC))))) (mkPe qI dd (Ring.mk 0 ([]:List qC)) (a1.Rings.length:Int) 32 [ci 0,.emp] (DW g8) (.same _ (.emp _ .nil))),qc 7 [17,18] 3 (qED a1.Defects a2 v9 h10)] [0,1,3,7,0,16,0,112,255,0,1023] 2 [9] [(5,vp 4 0)] [] [(2,ro 0 45 2 ((a1.Rings.length:Int).toNat) (rf qI (List.replicate ((a1.Rings.length:Int).toNat) (Ring.mk 0 ([]:List qC))))),(3,ro 0 68 7 v9.length (rf qG v9)),(4,bx 25 [.own 2 0 2 ((a1.Rings.length:Int).toNat),.own 3 0 7 v9.length])] (q_sq ?_)
  refine s_va 5 [(23,vi (a1.Rings.length:Int)),(24,vi 0)] ?_;obtain⟨o23,h24,hm⟩:=qE hm;refine qZ (nd f33 244) 0 (by kernel_rfl) FUEL (λo=>OE v9 o) o23 (q_hl (DU a1 a2 v9 0 (List.replicate ((a1.Rings.length:Int).toNat) (Ring.mk 0 ([]:List qC))) ((a1.Rings.length:Int).toNat)) (qDq E a1 a2 v9 FUEL 0 (List.replicate ((a1.Rings.length:Int).toNat) (Ring.mk 0 ([]:List qC))) ((a1.Rings.length:Int).toNat) o23 GT h24)) (s_vu [] 5 [5] [] [1,4] [(1,bx 25 [.own 2 0 2 o23.length,.own 3 0 7 v9.length])] ?_);obtain rfl:=oi hm;refine q_sw 2 0 (q_sw 3 1 ?_);exact q_rt q_rm
open Go.Proofs Go.Proofs.Tryz
def qCY (r:Int):V:=vi r
def qC6 (r:Int):List (Nat×(Nat×O)):=[]
theorem FT (a1:Int) (r:Int) (hm:yE a1=some r):CtX Tryz.prog globs 139 0 0 [.one (ci a1)] [] (qCY r) (qC6 r):=by
 unfold yE at hm;refine q_E f139 7 λE=>?_;refine s_vn [] 0 ⟨[(0,vi a1)],[]⟩ (s_vn [qd 1 dN (show(4:Int)≠0 by decide),qd 3 dN (show(4:Int)≠0 by decide)] 0 ⟨[(2,vi (Int.tmod (w64 ((Int.tmod a1 4)+4)) 4))],[]⟩ ?_);obtain rfl:=oi hm;exact q_rt q_rm
def qE3 (r:qA):V:=va (qB r)
def qEE (r:qA):List (Nat×(Nat×O)):=[]
def PS (a2:Int) (x3:Int) (x4:qA):St:=
 ⟨[(1,vi a2),(2,vp 0 0),(4,vp 1 0),(5,vi x3)],[(0,bx 71 (qB x4)),(1,bx 71 [ci 0,ci 0])]⟩
def FW (x6:qA):St:=
 ⟨[(2,vp 0 0),(4,vp 1 0)],[(0,bx 71 (qB x6)),(1,bx 71 [ci 0,ci 0])]⟩
theorem qAI (E:Env 0) (a2:Int):∀(n:Nat) (x3:Int) (x4:qA) (res:qA),wT a2 n x3 x4=some res->HL (kx E 18 0) (nd f138 52) (zF 0 FW res) n (PS a2 x3 x4):=by
 intro n
 induction n with
 |zero=>
  intro x3 x4 res hm;cases hm
 |succ n ih=>
  intro x3 x4 res hm;refine qR (q_sq ?_);refine s_va 2 [(8,vb (decide (x3<a2)))] (q_cq hm (λhm=>?_) (λhm=>?_))
  ·refine q_sk (q_sq ?_);refine q_bk 1 (q_vu [] 2 [8] [] [0] [(0,bx 71 [ci (w64 (0-x4.Y)),ci x4.X])] ?_);exact q_vv [] 2 [5] [(5,vi (w64 (x3+1)))] (q_hl (PS a2 (w64 (x3+1)) (qA.mk (w64 (0-x4.Y)) x4.X)) (ih (w64 (x3+1)) (qA.mk (w64 (0-x4.Y)) x4.X) _ hm))
  ·refine q_ex 0 ?_;obtain rfl:=oi hm;exact q_l0
theorem qDP (a1:qA) (a2:Int) (r:qA) (hm:XS a1 a2=some r):CtX Tryz.prog globs 138 0 0 [.agg (qB a1),.one (ci a2)] [] (qE3 r) (qEE r):=by
 unfold XS at hm;refine q_E f138 18 λE=>?_;refine s_vn [] 0 ⟨[(1,vi a2),(2,vp 0 0),(4,vp 1 0)],[(0,bx 71 (qB a1)),(1,bx 71 [ci 0,ci 0])]⟩ (q_sq ?_);refine s_va 2 [(5,vi 0)] ?_;obtain⟨o7,h8,hm⟩:=qE hm;refine qZ (nd f138 52) 0 (by kernel_rfl) FUEL FW o7 (q_hl (PS a2 0 a1) (qAI E a2 FUEL 0 a1 o7 h8)) (s_vu [] 2 [2] [] [0,1] [(1,bx 71 (qB o7))] ?_);obtain rfl:=oi hm;exact q_rt q_rm
def qFe (r:Ring):V:=va [ci r.Z,.own 0 0 3 r.Read.length]
def qFa (r:Ring):List (Nat×(Nat×O)):=[(0,ro 0 73 3 r.Read.length (rf qF r.Read))]
theorem qDp (a1:Ring) (r:Ring) (hm:KA a1=some r):CtX Tryz.prog globs 134 0 0 [.agg (qI a1)] [] (qFe r) (qFa r):=by
 unfold KA at hm;refine q_E f134 10 λE=>?_;refine s_vn [] 0 ⟨[(1,vp 0 0),(2,vp 1 0)],[(0,bx 45 (qI a1)),(1,bx 45 [ci 0,.emp])]⟩ ?_;obtain⟨g2,hm⟩:=qJ hm;refine s_du [qd 2 (drw 2 0 (rf qF [])) (litP qF dd 3 (λ_=>rfl) ([]:List qC) 0 rfl),qd 5 (drw 2 1 (rf qF (([]:List qC)++a1.Read))) (apP qF dd ([]:List qC) a1.Read 0 a1.Read.length 3 24 (True) trivial rfl rfl (λ_=>rfl) (zP g2))] [0,1,0,0,8,28,63,127] 2 [1] [] [0,1] [(1,bx 45 [ci a1.Z,.own 2 1 3 (0+a1.Read.length)]),(2,ro 1 73 3 (0+a1.Read.length) (rf qF (([]:List qC)++a1.Read)))] ?_
 refine q_fu [.len 2 ((([]:List qC)++a1.Read).length)] [] [] [1,2] [(1,bx 45 [ci a1.Z,.own 2 1 3 ((([]:List qC)++a1.Read).length)]),(2,ro 1 73 3 ((([]:List qC)++a1.Read).length) (rf qF (([]:List qC)++a1.Read)))] (o1 (And.intro (Eq.symm (show(([]:List qC)++a1.Read).length=(0+a1.Read.length) from(zX rfl rfl))) (Eq.symm (show(([]:List qC)++a1.Read).length=(0+a1.Read.length) from(zX rfl rfl))))) ?_;obtain rfl:=oi hm;exact q_sw 2 0 (q_rt q_rm)
open Go.Proofs Go.Proofs.Tryz
def KR (r:Bool):V:=vb r
def QF (r:Bool):List (Nat×(Nat×O)):=[]
theorem qE9 (r:Bool):yM (QF r):=by
 intro i k o h;unfold QF at h;cases h
def qCb (a1:List qA) (x2:Int) (x8:Bool):St:=
 ⟨[(0,vc (tl qB dd a1)),(3,vi x2),(39,vb x8)],[]⟩
def PJ (a1:List qA) (x2:Int):St:=
 ⟨[(0,vc (tl qB dd a1)),(3,vi x2)],[]⟩
def FV :St:=
 ⟨[],[]⟩
theorem qAN (E:Env 0) (a1:List qA):∀(n:Nat) (x2:Int) (res:Bool⊕Unit),zY a1 n x2=some res->HL (kx E 40 0) (nd f86 52) (wF 0 (λo=>FV) (λv st=>RetQ Tryz.prog f86 (KR v) (QF v) .ret st) res) n (PJ a1 x2):=by
 intro n
 induction n with
 |zero=>
  intro x2 res hm;cases hm
 |succ n ih=>
  intro x2 res hm;refine qR (q_sq ?_);refine s_va 0 [(7,vb (decide (x2<(a1.length:Int))))] (q_cq hm (λhm=>?_) (λhm=>?_))
  ·refine q_sk (q_sq ?_);refine q_bk 1 (q_jn (qCb a1 x2) (λp=>yP x2 (zY a1 n) p=some res) ?_ ?_)
   ·rintro x8 hm;refine q_cq hm (λhm=>?_) (λhm=>?_)
    ·refine s_vn [] 0 ⟨[(2,vb false)],[]⟩ ?_;obtain rfl:=oi hm;refine q_rt (zC false ?_);exact q_rm
    ·refine q_sk (q_vv [] 0 [3,39] [(3,vi (w64 (x2+1)))] ?_);exact q_hl (PJ a1 (w64 (x2+1))) (ih (w64 (x2+1)) _ hm)
   ·obtain⟨g4,hm⟩:=qJ hm;rcases bif_c hm with⟨b5,hm⟩|⟨b5,hm⟩
    ·exact q_vv [qi 2 g4,qf 6 b5] 0 [7] [(39,vb true)] (q_J (true) hm)
    ·rcases bif_c hm with⟨b6,hm⟩|⟨b6,hm⟩
     ·exact q_vv [qi 2 g4,qf 6 b5,qi 9 g4,qf 14 b6] 0 [7] [(39,vb true)] (q_J (true) hm)
     ·rcases bif_c hm with⟨b7,hm⟩|⟨b7,hm⟩
      ·exact q_vv [qi 2 g4,qf 6 b5,qi 9 g4,qf 14 b6,qi 17 g4,qf 22 b7] 0 [7] [(39,vb true)] (q_J (true) hm)
      ·exact q_vv [qi 2 g4,qf 6 b5,qi 9 g4,qf 14 b6,qi 17 g4,qf 22 b7,qi 25 g4] 0 [7] [(39,vb (decide (((a1.getD x2.toNat dd).Y)>600)))] (q_J (decide (((a1.getD x2.toNat dd).Y)>600)) hm)
  ·refine q_ex 0 ?_;obtain rfl:=oi hm;exact q_l1 ()
theorem qDv (a1:List qA) (r:Bool) (hm:KG a1=some r):CtX Tryz.prog globs 86 0 0 [.one (tl qB dd a1)] [] (KR r) (QF r):=by
 unfold KG at hm;refine q_E f86 40 λE=>?_;refine s_vn [] 0 ⟨[(0,vc (tl qB dd a1))],[]⟩ (q_sq ?_);refine s_va 0 [(3,vi 0)] ?_;obtain⟨u12,h11,hm⟩:=qE hm;refine zN (nd f86 52) 0 (by kernel_rfl) FUEL (λo=>FV) (λv st=>RetQ Tryz.prog f86 (KR v) (QF v) .ret st) u12 (q_hl (PJ a1 0) (qAN E a1 FUEL 0 u12 h11)) ?_ ?_
 ·rintro v13 rfl st hr;obtain rfl:=oi hm;exact hr
 ·rintro o10 rfl;replace hm:_=some r:=hm;refine s_vn [] 0 ⟨[(2,vb true)],[]⟩ ?_;obtain rfl:=oi hm;exact q_rt q_rm
def FH (r:Int):V:=vi r
def NW (r:Int):List (Nat×(Nat×O)):=[]
def qDd (a1:Ring) (x7:Int) (x16:Bool):St:=
 ⟨[(1,vp 0 0),(3,vi x7),(53,vb x16)],[(0,bx 45 (qI a1))]⟩
def qCV (a1:Ring) (x7:Int) (x13:Bool):St:=
 ⟨[(1,vp 0 0),(3,vi x7),(4,vp 1 0),(44,vb x13)],[(0,bx 45 (qI a1)),(1,bx 73 (qF (a1.Read.getD x7.toNat dd)))]⟩
def TS (a1:Ring) (x7:Int):St:=
 ⟨[(1,vp 0 0),(3,vi x7)],[(0,bx 45 (qI a1))]⟩
def MU :St:=
 ⟨[],[]⟩
def qDe (a1:Ring) (x5:Bool):St:=
 ⟨[(1,vp 0 0),(15,vb x5)],[(0,bx 45 (qI a1))]⟩
theorem qBY (E:Env 0) (a1:Ring):∀(n:Nat) (x7:Int) (res:Int⊕Unit),wM a1 n x7=some res->HL (kx E 54 0) (nd f40 116) (wF 1 (λo=>MU) (λv st=>RetQ Tryz.prog f40 (FH v) (NW v) .ret st) res) n (TS a1 x7):=by
 intro n
 induction n with
 |zero=>
  intro x7 res hm;cases hm
 |succ n ih=>
  intro x7 res hm;refine qR (q_sq ?_);refine s_va 1 [(28,vb (decide (x7<(a1.Read.length:Int))))] (q_cq hm (λhm=>?_) (λhm=>?_))
  ·refine q_sk (q_sq ?_);refine q_bk 2 ?_;obtain⟨g9,hm⟩:=qJ hm;refine s_vu [qi 3 g9] 1 [28] [(4,vp 1 0)] [] [(1,bx 73 (qF (a1.Read.getD x7.toNat dd)))] (q_sq ?_);refine q_jn (qCV a1 x7) (λp=>KP a1 x7 (wM a1 n) p=some res) ?_ ?_
   ·rintro x13 hm;refine q_cq hm (λhm=>?_) (λhm=>?_)
    ·refine s_vn [] 3 ⟨[(2,vi 9)],[]⟩ ?_;obtain rfl:=oi hm;refine q_rt (zC 9 ?_);exact q_rm
    ·refine q_sk (q_jn (qDd a1 x7) (λp=>KY x7 (wM a1 n) p=some res) ?_ ?_)
     ·rintro x16 hm;refine q_cq hm (λhm=>?_) (λhm=>?_)
      ·refine s_vn [] 3 ⟨[(2,vi 19)],[]⟩ ?_;obtain rfl:=oi hm;refine q_rt (zC 19 ?_);exact q_rm
      ·refine q_sk (q_vv [] 3 [3,53] [(3,vi (w64 (x7+1)))] ?_);exact q_hl (TS a1 (w64 (x7+1))) (ih (w64 (x7+1)) _ hm)
     ·rcases bif_c hm with⟨b15,hm⟩|⟨b15,hm⟩
      ·exact q_vu [qf 3 b15] 3 [4,44] [(53,vb (!(((((a1.Read.getD x7.toNat dd).P).X)==0)&&(((((a1.Read.getD x7.toNat dd).P).Y)==0)&&true))))] [1] [] (q_J (!(((((a1.Read.getD x7.toNat dd).P).X)==0)&&(((((a1.Read.getD x7.toNat dd).P).Y)==0)&&true))) hm)
      ·exact q_vu [qf 3 b15] 3 [4,44] [(53,vb false)] [1] [] (q_J (false) hm)
   ·rcases bif_c hm with⟨b10,hm⟩|⟨b10,hm⟩
    ·obtain⟨v11,h12,hm⟩:=qE hm
     exact q_vv [qf 2 b10,qd 5 (drw 2 0 (rf qB [(a1.Read.getD x7.toNat dd).P])) (litP qB dd 2 (λ_=>rfl) ([(a1.Read.getD x7.toNat dd).P]:List qA) 1 rfl),qd 6 (dex (cen [] [] 3 0 (KR v11) (QF v11) [38,41] [2])) (zJ (K:=(kx E 54 0)) (xs':=[.one (.lst 1 (rf qB [(a1.Read.getD x7.toNat dd).P]))]) (b:=false) ⟨[(38,vb true),(41,vo 2 0 2 1)],[(2,ro 0 71 2 1 (rf qB [(a1.Read.getD x7.toNat dd).P]))]⟩ (opAt (rg f40 7460) 6) [] [] 3 (o1 (kg 1)) (by simp only[tl,rf,show([(a1.Read.getD x7.toNat dd).P]:List qA).length=1 from rfl]) (qDv ([(a1.Read.getD x7.toNat dd).P]:List qA) v11 h12) (.inr ⟨(by kernel_rfl),qE9 v11⟩) (by kernel_rfl))] 2 [] [(44,vb (!v11))] (q_J (!v11) hm)
    ·exact q_vv [qf 2 b10] 2 [] [(44,vb false)] (q_J (false) hm)
  ·refine q_ex 1 ?_;obtain rfl:=oi hm;exact q_l1 ()
theorem IE (a1:Ring) (r:Int) (hm:YQ a1=some r):CtX Tryz.prog globs 40 0 0 [.agg (qI a1)] [] (FH r) (NW r):=by
 unfold YQ at hm;refine q_E f40 54 λE=>?_;refine s_vn [] 0 ⟨[(1,vp 0 0)],[(0,bx 45 (qI a1))]⟩ (q_sq ?_);refine q_bk 0 (s_va 1 [(5,vb (decide ((a1.Read.length:Int)<8)))] ?_);refine q_cq hm (λhm=>?_) (λhm=>?_)
 ·refine s_vn [] 1 ⟨[(2,vi 3)],[]⟩ ?_;obtain rfl:=oi hm;exact q_rt q_rm
 ·refine s_vv [] 1 [5] [(10,vb (decide ((a1.Read.length:Int)>32)))] (q_cq hm (λhm=>?_) (λhm=>?_))
  ·refine s_vn [] 1 ⟨[(2,vi 4)],[]⟩ ?_;obtain rfl:=oi hm;exact q_rt q_rm
  ·refine q_jn (qDe a1) (λp=>KW a1 p=some r) ?_ ?_
   ·rintro x5 hm;refine q_cq hm (λhm=>?_) (λhm=>?_)
    ·refine s_vn [] 1 ⟨[(2,vi 9)],[]⟩ ?_;obtain rfl:=oi hm;exact q_rt q_rm
    ·refine q_sk (q_sq ?_);refine s_vv [] 1 [15] [(3,vi 0)] ?_;obtain⟨u20,h19,hm⟩:=qE hm;refine zN (nd f40 116) 1 (by kernel_rfl) FUEL (λo=>MU) (λv st=>RetQ Tryz.prog f40 (FH v) (NW v) .ret st) u20 (q_hl (TS a1 0) (qBY E a1 FUEL 0 u20 h19)) ?_ ?_
     ·rintro v21 rfl st hr;obtain rfl:=oi hm;exact hr
     ·rintro o18 rfl;replace hm:_=some r:=hm;refine s_vn [] 1 ⟨[(2,vi 0)],[]⟩ ?_;obtain rfl:=oi hm;exact q_rt q_rm
   ·rcases bif_c hm with⟨b4,hm⟩|⟨b4,hm⟩
    ·exact q_vv [qf 3 b4] 1 [10] [(15,vb true)] (q_J (true) hm)
    ·exact q_vv [qf 3 b4] 1 [10] [(15,vb (decide (a1.Z>20000)))] (q_J (decide (a1.Z>20000)) hm)
def qGV (r:Ring):V:=va [ci r.Z,.own 0 0 3 r.Read.length]
def qGX (r:Ring):List (Nat×(Nat×O)):=[(0,ro 0 73 3 r.Read.length (rf qF r.Read))]
def SP (a2:Int) (v3:Ring) (x8:Int) (l17:List qC) (l17n:Nat):St:=
 ⟨[(1,vi a2),(4,vp 1 0),(5,vp 3 0),(6,vi x8)],[(1,bx 45 [ci 0,.emp]),(2,ro 0 73 3 l17n (rf qF l17)),(3,bx 45 [ci v3.Z,.own 2 0 3 l17n])]⟩
def VR (a2:Int) (v3:Ring) (x8:Int) (l9:List qC) (l9n:Nat):St:=
 ⟨[(1,vi a2),(4,vp 1 0),(5,vp 3 0),(6,vi x8)],[(1,bx 45 [ci 0,.emp]),(2,ro 0 73 3 l9n (rf qF l9)),(3,bx 45 [ci v3.Z,.own 2 0 3 l9n])]⟩
def AB (v3:Ring) (l18:List qC):St:=
 ⟨[(4,vp 1 0),(5,vp 3 0)],[(1,bx 45 [ci 0,.emp]),(2,ro 0 73 3 l18.length (rf qF l18)),(3,bx 45 [ci v3.Z,.own 2 0 3 l18.length])]⟩
theorem qDf (E:Env 0) (a2:Int) (v3:Ring):∀(n:Nat) (x8:Int) (l9:List qC) (l9n:Nat) (res:(List qC)),l9.length=l9n->jW a2 n x8 l9=some res->HL (kx E 41 0) (nd f76 244) (zF 0 (λo=>AB v3 o) res) n (VR a2 v3 x8 l9 l9n):=by
 intro n
 induction n with
 |zero=>
  intro x8 l9 l9n res hl0 hm;cases hm
 |succ n ih=>
  intro x8 l9 l9n res hl0 hm;subst hl0;refine qR (q_sq ?_);refine s_va 4 [(17,vb (decide (x8<(l9.length:Int))))] (q_cq hm (λhm=>?_) (λhm=>?_))
  ·refine q_sk (q_jn (ι:=(List qC)×Nat) (λp=>SP a2 v3 x8 p.1 p.2) (λp=>p.1.length=p.2/\RS x8 (jW a2 n) p.1=some res) ?_ ?_)
   ·rintro⟨l17,l17n⟩ ⟨el17,hm⟩;replace el17:l17.length=l17n:=el17;subst el17;show H _ (SP a2 v3 x8 l17 l17.length) _ _;exact q_vv [] 4 [6] [(6,vi (w64 (x8+1)))] (q_hl (VR a2 v3 (w64 (x8+1)) l17 l17.length) (ih (w64 (x8+1)) l17 l17.length _ rfl hm))
   ·refine q_bk 1 ?_;obtain⟨g11,hm⟩:=qJ hm;refine s_vv [qi 3 g11,qd 5 dN (qU (zA g11))] 4 [17] [(25,vb ((l9.getD x8.toNat dd).Ok))] (q_cq hm (λhm=>?_) (λhm=>?_))
    ·obtain⟨v13,h14,hm⟩:=qE hm;obtain⟨v15,h16,hm⟩:=qE hm
     exact q_du [qi 6 g11,qd 8 dN (qU (zA g11)),qc 10 [35] 4 (FT a2 v13 h14),qc 11 [34,36] 4 (qDP ((l9.getD x8.toNat dd).P) v13 v15 h16),qi 12 g11,qd 14 (drw 0 0 (rf qF (l9.set x8.toNat (qC.mk v15 ((l9.getD x8.toNat dd).Ok))))) (stP qF dd (qC.mk v15 ((l9.getD x8.toNat dd).Ok)) l9 l9.length x8.toNat 0 (qB v15) rfl (qU (zA g11)) rfl)] [0,1,0,0,8,0,56,120,248,0,512,2040,4095,8191,16383] 4 [25] [] [2] [(2,ro 0 73 3 l9.length (rf qF (l9.set x8.toNat (qC.mk v15 ((l9.getD x8.toNat dd).Ok)))))] (q_J ((l9.set x8.toNat (qC.mk v15 ((l9.getD x8.toNat dd).Ok))),l9.length) ⟨(jP rfl),hm⟩)
    ·exact q_sk (q_J (l9,l9.length) ⟨rfl,hm⟩)
  ·refine q_ex 0 ?_;obtain rfl:=oi hm;exact q_l0
theorem qFY (a1:Ring) (a2:Int) (r:Ring) (hm:QD a1 a2=some r):CtX Tryz.prog globs 76 0 0 [.agg (qI a1),.one (ci a2)] [] (qGV r) (qGX r):=by
 unfold QD at hm;refine q_E f76 41 λE=>?_;refine s_vn [] 0 ⟨[(1,vi a2),(2,vp 0 0),(4,vp 1 0)],[(0,bx 45 (qI a1)),(1,bx 45 [ci 0,.emp])]⟩ ?_;obtain⟨v3,h4,hm⟩:=qE hm;refine s_vu [qc 1 [7] 2 (qDp a1 v3 h4)] 2 [] [(5,vp 3 0)] [] [(2,ro 0 73 3 v3.Read.length (rf qF v3.Read)),(3,bx 45 [ci v3.Z,.own 2 0 3 v3.Read.length])] (q_sq ?_);obtain⟨v5,h6,hm⟩:=qE hm;refine s_vu [qc 1 [9] 4 (IE a1 v5 h6)] 4 [2] [(11,vb (v5 !=0))] [0] [] (q_cq hm (λhm=>?_) (λhm=>?_))
 ·refine s_vu [] 4 [1,5,11] [] [1,3] [(1,bx 45 [ci v3.Z,.own 2 0 3 v3.Read.length])] ?_;obtain rfl:=oi hm;exact q_sw 2 0 (q_rt q_rm)
 ·refine q_sk (q_sq ?_);refine s_vv [] 4 [11] [(6,vi 0)] ?_;obtain⟨o19,h20,hm⟩:=qE hm;refine qZ (nd f76 244) 0 (by kernel_rfl) FUEL (λo=>AB v3 o) o19 (q_hl (VR a2 v3 0 v3.Read v3.Read.length) (qDf E a2 v3 FUEL 0 v3.Read v3.Read.length o19 rfl h20)) (s_vu [] 4 [5] [] [1,3] [(1,bx 45 [ci v3.Z,.own 2 0 3 o19.length])] ?_);obtain rfl:=oi hm;exact q_sw 2 0 (q_rt q_rm)
open Go.Proofs Go.Proofs.Tryz
def qGm (r:Bool):V:=vb r
def qF5 (r:Bool):List (Nat×(Nat×O)):=[]
def qCT (x4:Bool):St:=
 ⟨[(2,vb x4)],[]⟩
theorem qEQ (a1:Box) (r:Bool) (hm:RD a1=some r):CtX Tryz.prog globs 87 0 0 [.agg (RJ a1)] [] (qGm r) (qF5 r):=by
 unfold RD at hm;refine q_E f87 28 λE=>?_;refine s_vn [] 0 ⟨[(1,vp 0 0)],[(0,bx 66 (RJ a1))]⟩ (q_jn (qCT) (λp=>WZ p=some r) ?_ ?_)
 ·rintro x4 hm;obtain rfl:=oi hm;exact q_rt q_rm
 ·rcases bif_c hm with⟨b2,hm⟩|⟨b2,hm⟩
  ·exact q_vn [qf 7 b2] 1 ⟨[(2,vb true)],[]⟩ (q_J (true) hm)
  ·rcases bif_c hm with⟨b3,hm⟩|⟨b3,hm⟩
   ·exact q_vn [qf 7 b2,qf 16 b3] 1 ⟨[(2,vb true)],[]⟩ (q_J (true) hm)
   ·exact q_vn [qf 7 b2,qf 16 b3] 1 ⟨[(2,vb (decide (a1.Z.A≥a1.Z.B)))],[]⟩ (q_J (decide (a1.Z.A≥a1.Z.B)) hm)
def qJA (r:Bool):V:=vb r
def qJN (r:Bool):List (Nat×(Nat×O)):=[]
def qGq (x5:Bool):St:=
 ⟨[(6,vb x5)],[]⟩
theorem YT (a1:Span) (a2:Int) (a3:Int) (r:Bool) (hm:TG a1 a2 a3=some r):CtX Tryz.prog globs 143 0 0 [.agg (qL a1),.one (ci a2),.one (ci a3)] [] (qJA r) (qJN r):=by
 unfold TG at hm;refine q_E f143 17 λE=>?_;refine s_vn [] 0 ⟨[(1,vi a2),(2,vi a3),(3,vp 0 0)],[(0,bx 64 (qL a1))]⟩ (q_jn (qGq) (λp=>BH p=some r) ?_ ?_)
 ·rintro x5 hm;obtain rfl:=oi hm;exact q_rt q_rm
 ·rcases bif_c hm with⟨b4,hm⟩|⟨b4,hm⟩
  ·exact q_vn [qf 4 b4] 1 ⟨[(6,vb (decide (a1.B<=a3)))],[]⟩ (q_J (decide (a1.B<=a3)) hm)
  ·exact q_vn [qf 4 b4] 1 ⟨[(6,vb false)],[]⟩ (q_J (false) hm)
def qFi (r:Bool):V:=vb r
def qEX (r:Bool):List (Nat×(Nat×O)):=[]
def qBW (x10:Bool):St:=
 ⟨[(2,vb x10)],[]⟩
theorem qDH (a1:Box) (r:Bool) (hm:KH a1=some r):CtX Tryz.prog globs 88 0 0 [.agg (RJ a1)] [] (qFi r) (qEX r):=by
 unfold KH at hm;refine q_E f88 16 λE=>?_;refine s_vn [] 0 ⟨[(1,vp 0 0)],[(0,bx 66 (RJ a1))]⟩ (q_jn (qBW) (λp=>ZN p=some r) ?_ ?_)
 ·rintro x10 hm;obtain rfl:=oi hm;exact q_rt q_rm
 ·obtain⟨v2,h3,hm⟩:=qE hm;rcases bif_c hm with⟨b4,hm⟩|⟨b4,hm⟩
  ·obtain⟨v5,h6,hm⟩:=qE hm;rcases bif_c hm with⟨b7,hm⟩|⟨b7,hm⟩
   ·obtain⟨v8,h9,hm⟩:=qE hm;exact q_vn [qk 2 [4] 1 ⟨[(4,va (qL a1.X))],[]⟩ (YT a1.X (-600) 600 v2 h3),qf 3 b4,qk 6 [6,8] 1 ⟨[(6,vb true),(8,va (qL a1.Y))],[]⟩ (YT a1.Y (-600) 600 v5 h6),qf 8 b7,qk 11 [11,13] 1 ⟨[(11,vb true),(13,va (qL a1.Z))],[]⟩ (YT a1.Z 0 20000 v8 h9)] 1 ⟨[(2,vb v8)],[]⟩ (q_J (v8) hm)
   ·exact q_vn [qk 2 [4] 1 ⟨[(4,va (qL a1.X))],[]⟩ (YT a1.X (-600) 600 v2 h3),qf 3 b4,qk 6 [6,8] 1 ⟨[(6,vb true),(8,va (qL a1.Y))],[]⟩ (YT a1.Y (-600) 600 v5 h6),qf 8 b7] 1 ⟨[(2,vb false)],[]⟩ (q_J (false) hm)
  ·exact q_vn [qk 2 [4] 1 ⟨[(4,va (qL a1.X))],[]⟩ (YT a1.X (-600) 600 v2 h3),qf 3 b4] 1 ⟨[(2,vb false)],[]⟩ (q_J (false) hm)
end Saw
end Go.SL

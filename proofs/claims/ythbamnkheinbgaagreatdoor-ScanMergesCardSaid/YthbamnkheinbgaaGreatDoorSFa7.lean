import Derived.Test.YthbamnkheinbgaaGreatDoorSBase
import Derived.Test.YthbamnkheinbgaaGreatDoorSFa6
import Derived.Test.YthbamnkheinbgaaGreatDoorSFa4
set_option linter.unusedVariables false
set_option linter.unusedSimpArgs false
namespace Go.SL
namespace Saw
open Go.Proofs Go.Proofs.Tryz
set_option maxHeartbeats 4000000
set_option maxRecDepth 100000
def ZT (r:Int):V:=vi r
def ZS (r:Int):List (Nat×(Nat×O)):=[]
def yV (a1:List qA) (a2:qA) (x3:Int):St:=
 ⟨[(0,vc (tl qD dd a1)),(3,vp 0 0),(7,vi (a1.length:Int)),(8,vi x3)],[(0,bx 68 (qD a2))]⟩
def XB :St:=
 ⟨[],[]⟩
theorem NN (E:Env 0) (a1:List qA) (a2:qA):∀(n:Nat) (x3:Int) (res:Int⊕Unit),zJ a1 a2 n x3=some res->HL (kx E 19 0) (nd f133 52) (zR 0 (λo=>XB) (λv st=>RetQ Tryz.prog f133 (ZT v) (ZS v) .ret st) res) n (yV a1 a2 x3):=by
 intro n
 induction n with
 |zero=>
  intro x3 res hm;cases hm
 |succ n ih=>
  intro x3 res hm;refine qQ (s_va 1 [(9,vb (decide (x3<(a1.length:Int))))] ?_);refine q_sq (q_cq hm (λhm=>?_) (λhm=>?_))
  ·refine q_sk (q_sq ?_);refine q_bk 1 (s_vv [] 1 [9] [(5,vi x3)] ?_);obtain⟨g5,hm⟩:=qJ hm;refine s_du [qi 3 g5] [0,0,0,6,14,31] 1 [] [(16,vb ((a2.Kind==((a1.getD x3.toNat dd).Kind))&&((((a2.Box.X.A==((((a1.getD x3.toNat dd).Box).X).A))&&((a2.Box.X.B==((((a1.getD x3.toNat dd).Box).X).B))&&true))&&(((a2.Box.Y.A==((((a1.getD x3.toNat dd).Box).Y).A))&&((a2.Box.Y.B==((((a1.getD x3.toNat dd).Box).Y).B))&&true))&&(((a2.Box.Z.A==((((a1.getD x3.toNat dd).Box).Z).A))&&((a2.Box.Z.B==((((a1.getD x3.toNat dd).Box).Z).B))&&true))&&true)))&&true)))] [] [] (q_cq hm (λhm=>?_) (λhm=>?_))
   ·refine s_vn [] 1 ⟨[(4,vi x3)],[]⟩ ?_;obtain rfl:=oi hm;refine q_rt (qW x3 ?_);exact q_rm
   ·refine q_sk (q_vv [] 1 [5,8,16] [(8,vi (w64 (x3+1)))] ?_);exact q_hl (yV a1 a2 (w64 (x3+1))) (ih (w64 (x3+1)) _ hm)
  ·refine q_ex 0 ?_;obtain rfl:=oi hm;exact q_l1 ()
theorem HQ (a1:List qA) (a2:qA) (r:Int) (hm:yW a1 a2=some r):CtX Tryz.prog globs 133 0 0 [.one (tl qD dd a1),.agg (qD a2)] [] (ZT r) (ZS r):=by
 unfold yW at hm;refine q_E f133 19 λE=>?_;refine s_vn [] 0 ⟨[(0,vc (tl qD dd a1)),(3,vp 0 0)],[(0,bx 68 (qD a2))]⟩ (q_sq ?_);refine s_va 1 [(7,vi (a1.length:Int)),(8,vi 0)] ?_;obtain⟨u9,h8,hm⟩:=qG hm;refine zC (nd f133 52) 0 (by kernel_rfl) FUEL (λo=>XB) (λv st=>RetQ Tryz.prog f133 (ZT v) (ZS v) .ret st) u9 (q_hl (yV a1 a2 0) (NN E a1 a2 FUEL 0 u9 h8)) ?_ ?_
 ·rintro v10 rfl st hr;obtain rfl:=oi hm;exact hr
 ·rintro o7 rfl;replace hm:_=some r:=hm;refine s_vn [] 1 ⟨[(4,vi (-1))],[]⟩ ?_;obtain rfl:=oi hm;exact q_rt q_rm
def FK (r:Bool):V:=vb r
def FG (r:Bool):List (Nat×(Nat×O)):=[]
theorem BT (a1:List qA) (a2:qA) (r:Bool) (hm:wJ a1 a2=some r):CtX Tryz.prog globs 68 0 0 [.one (tl qD dd a1),.agg (qD a2)] [] (FK r) (FG r):=by
 unfold wJ at hm;refine q_E f68 9 λE=>?_;refine s_vn [] 0 ⟨[(0,vc (tl qD dd a1)),(3,vp 0 0)],[(0,bx 68 (qD a2))]⟩ ?_;obtain⟨v3,h4,hm⟩:=qG hm;refine s_vn [qc 2 [5,6] 1 (HQ a1 a2 v3 h4)] 1 ⟨[(4,vb (decide (v3≥0)))],[]⟩ ?_;obtain rfl:=oi hm;exact q_rt q_rm
def AE (r:List qA):V:=vo 0 0 7 r.length
def AP (r:List qA):List (Nat×(Nat×O)):=[(0,ro 0 68 7 r.length (rf qD r))]
theorem HZ (a1:List qA) (r:List qA) (hm:wZ a1=some r):CtX Tryz.prog globs 66 0 0 [.one (tl qD dd a1)] [] (AE r) (AP r):=by
 unfold wZ at hm;obtain⟨g1,hm⟩:=qJ hm;obtain rfl:=kG hm;refine OY (fn:=f66) (c:=nd f66 1) (nt:=8) (by kernel_rfl) (by kernel_rfl) (by kernel_rfl) (by kernel_rfl) λE=>?_;refine R_sq f66 2 3 (by kernel_rfl) (R_rn f66 2 0 [] [] 0 ⟨[(0,vc (tl qD dd a1))],[]⟩ o0 (by kernel_rfl) (by kernel_rfl) ?_);refine R_sq f66 6 7 (by kernel_rfl) (R_sq f66 12 13 (by kernel_rfl) ?_);refine R_nil f66 12 1 1 ⟨[(0,vc (tl qD dd a1)),(3,vc (tl qD dd a1))],[]⟩ 23 23 68 4 (.tmp 3) a1.length (rf qD a1) (by kernel_rfl) (by kernel_rfl) (by kernel_rfl) (λb hb=>?_)
 refine R_cn f66 (.tmp 4) 26 27 (by kernel_rfl) b (by kernel_rfl) (λb6=>?_) (λb6=>?_)
 ·obtain rfl:a1=[]:=uE (hb b6);refine R_sq f66 52 53 (by kernel_rfl) (R_rn f66 52 2 [] [.own 2 0 68 7 (rf qD [])] 0 ⟨[(2,vo 0 0 7 0)],[(0,ro 0 68 7 0 (rf qD []))]⟩ o0 (by kernel_rfl) (by kernel_rfl) ?_);exact OV (by kernel_rfl) (MP (by kernel_rfl) (by kernel_rfl))
 ·refine qDD (by kernel_rfl) (R_sq f66 14 15 (by kernel_rfl) ?_);refine R_rn f66 14 3 [(0,drw 0 0 (rf qD [])),(2,drw 0 1 (rf qD ([]++a1)))] [.len 0 a1.length] 0 ⟨[(2,vo 0 1 7 a1.length)],[(0,ro 1 68 7 a1.length (rf qD ([]++a1)))]⟩ (o1 (And.intro (And.intro (litP qD dd 7 (λ_=>rfl) ([]:List qA) 0 rfl) (apP qD dd ([]:List qA) a1 0 a1.length 7 56 True trivial rfl rfl (λ_=>rfl) (by have:=zK g1;rw[kz];exact this))) (And.intro (And.intro (kz a1.length) (kz a1.length)) (kz a1.length)))) (by kernel_rfl) (by kernel_rfl) (OV (by kernel_rfl) ?_);exact MP (by kernel_rfl) (by kernel_rfl)
open Go.Proofs Go.Proofs.Tryz
def ME (r:Scan×Int):V:= .tup [.agg [.own 0 0 2 r.1.Rings.length,.own 1 0 7 r.1.Defects.length],.one (ci r.2)]
def LK (r:Scan×Int):List (Nat×(Nat×O)):=[(0,ro 0 45 2 r.1.Rings.length (rf qH r.1.Rings)),(1,ro 0 68 7 r.1.Defects.length (rf qD r.1.Defects))]
def WE (a1:Scan):St:=
 ⟨[(2,vp 0 0),(4,vp 2 0),(8,vp 5 0)],[(0,bx 25 (qR a1)),(2,bx 25 [.emp,.emp])]⟩
def UF (a1:Scan) (a2:Scan) (v11:List qA) (x13:Int) (l14:List Ring) (l14n:Nat):St:=
 (WE a1).up [] [(3,vp 1 0),(44,vi (a1.Rings.length:Int)),(45,vi x13)] [] [(1,bx 25 (qR a2)),(3,ro 0 45 2 l14n (rf qH l14)),(4,ro 0 68 7 v11.length (rf qD v11)),(5,bx 25 [.own 3 0 2 l14n,.own 4 0 7 v11.length])]
def SV (a1:Scan) (a2:Scan) (v11:List qA) (l22:List Ring):St:=
 (WE a1).up [] [(3,vp 1 0)] [] [(1,bx 25 (qR a2)),(3,ro 0 45 2 l22.length (rf qH l22)),(4,ro 0 68 7 v11.length (rf qD v11)),(5,bx 25 [.own 3 0 2 l22.length,.own 4 0 7 v11.length])]
def EC (a1:Scan) (a2:Scan) (o23:(List Ring)) (x27:Int) (l35:List qA) (l35n:Nat):St:=
 (WE a1).up [] [(73,vc (tl qD dd a2.Defects)),(74,vi (a2.Defects.length:Int)),(75,vi x27)] [] [(3,ro 0 45 2 o23.length (rf qH o23)),(4,ro 0 68 7 l35n (rf qD l35)),(5,bx 25 [.own 3 0 2 o23.length,.own 4 0 7 l35n])]
def VF (a1:Scan) (a2:Scan) (o23:(List Ring)) (x27:Int) (l28:List qA) (l28n:Nat):St:=
 (WE a1).up [] [(73,vc (tl qD dd a2.Defects)),(74,vi (a2.Defects.length:Int)),(75,vi x27)] [] [(3,ro 0 45 2 o23.length (rf qH o23)),(4,ro 0 68 7 l28n (rf qD l28)),(5,bx 25 [.own 3 0 2 o23.length,.own 4 0 7 l28n])]
def SF (o23:(List Ring)) (l36:List qA):St:=
 ⟨[(4,vp 2 0),(8,vp 5 0)],[(2,bx 25 [.emp,.emp]),(3,ro 0 45 2 o23.length (rf qH o23)),(4,ro 0 68 7 l36.length (rf qD l36)),(5,bx 25 [.own 3 0 2 o23.length,.own 4 0 7 l36.length])]⟩
theorem qCI (E:Env 0) (a1:Scan) (a2:Scan) (v11:List qA):∀(n:Nat) (x13:Int) (l14:List Ring) (l14n:Nat) (res:(Scan×Int)⊕(List Ring)),l14.length=l14n->jL a1 a2 n x13 l14=some res->HL (kx E 97 0) (nd f30 1012) (zR 0 (λo=>SV a1 a2 v11 o) (λv st=>RetQ Tryz.prog f30 (ME v) (LK v) .ret st) res) n (UF a1 a2 v11 x13 l14 l14n):=by
 intro n
 induction n with
 |zero=>
  intro x13 l14 l14n res hl0 hm;cases hm
 |succ n ih=>
  intro x13 l14 l14n res hl0 hm;subst hl0;refine qQ (s_va 6 [(46,vb (decide (x13<(a1.Rings.length:Int))))] ?_);refine q_sq (q_cq hm (λhm=>?_) (λhm=>?_))
  ·refine q_sk (q_sq ?_);refine q_bk 1 (s_vv [] 6 [46] [(9,vi x13)] ?_);obtain⟨g16,hm⟩:=qJ hm;obtain⟨g17,hm⟩:=qJ hm;obtain⟨v18,h19,hm⟩:=qG hm;refine s_du [qi 3 g16,qi 8 g17,qc 10 [53,58] 6 (qFJ (a1.Rings.getD x13.toNat dd) (a2.Rings.getD x13.toNat dd) v18 h19)] [0,1,0,7,15,0,32,0,224,480,1023,2047,4095,4095,0,24575,65535] 6 [] [(10,vp 7 0),(11,vi v18.2)] [] [(6,ro 0 73 3 v18.1.Read.length (rf qF v18.1.Read)),(7,bx 45 [ci v18.1.Z,.own 6 0 3 v18.1.Read.length])] (q_sq ?_);refine s_va 8 [(63,vb (v18.2 !=0))] (q_cq hm (λhm=>?_) (λhm=>?_))
   ·refine s_vn [] 8 ⟨[(4,vp 2 0),(5,vi v18.2)],[(2,bx 25 [.emp,.emp])]⟩ (q_fu [.ownB 2 0 8 45 2 (rf qH [])] [] [] [2] [(2,bx 25 [.own 8 0 2 0,.emp]),(8,ro 0 45 2 0 (rf qH []))] o0 ?_);refine q_fu [.ownB 2 1 9 68 7 (rf qD [])] [] [] [2] [(2,bx 25 [.own 8 0 2 0,.own 9 0 7 0]),(9,ro 0 68 7 0 (rf qD []))] o0 (q_fu [.len 8 (([]:List Ring).length)] [] [] [2,8] [(2,bx 25 [.own 8 0 2 (([]:List Ring).length),.own 9 0 7 0]),(8,ro 0 45 2 (([]:List Ring).length) (rf qH []))] (o1 (And.intro (show 0=([]:List Ring).length from rfl) (show 0=([]:List Ring).length from rfl))) ?_)
    refine q_fu [.len 9 (([]:List qA).length)] [] [] [2,9] [(2,bx 25 [.own 8 0 2 (([]:List Ring).length),.own 9 0 7 (([]:List qA).length)]),(9,ro 0 68 7 (([]:List qA).length) (rf qD []))] (o1 (And.intro (show 0=([]:List qA).length from rfl) (show 0=([]:List qA).length from rfl))) ?_;obtain rfl:=oi hm;refine q_sw 8 0 (q_sw 9 1 ?_);refine q_rt (qW ((Scan.mk ([]:List Ring) ([]:List qA)),v18.2) ?_);exact q_rm
   ·refine q_sk ?_;obtain⟨g21,hm⟩:=qJ hm;refine q_vu [qi 4 g21,qd 5 (dpr [.frz 6] (drw 0 0 (rf qH (l14.set x13.toNat v18.1)))) (And.intro (kg v18.1.Read.length) (kg v18.1.Read.length)),qd 5 dN (stP qH dd v18.1 l14 l14.length x13.toNat 0 (qH v18.1) rfl (qY (zF g21)) rfl)] 8 [9,10,11,63] [] [3,6,7] [(3,ro 0 45 2 l14.length (rf qH (l14.set x13.toNat v18.1)))] (q_vv [] 8 [45] [(45,vi (w64 (x13+1)))] ?_);exact q_hl (UF a1 a2 v11 (w64 (x13+1)) (l14.set x13.toNat v18.1) l14.length) (ih (w64 (x13+1)) (l14.set x13.toNat v18.1) l14.length _ (ZA rfl) hm)
  ·refine q_ex 0 ?_;obtain rfl:=oi hm;exact q_l1 l14
theorem qCj (E:Env 0) (a1:Scan) (a2:Scan) (o23:(List Ring)):∀(n:Nat) (x27:Int) (l28:List qA) (l28n:Nat) (res:(List qA)),l28.length=l28n->wD a1 a2 n x27 l28=some res->HL (kx E 97 0) (nd f30 2036) (zL 2 (λo=>SF o23 o) res) n (VF a1 a2 o23 x27 l28 l28n):=by
 intro n
 induction n with
 |zero=>
  intro x27 l28 l28n res hl0 hm;cases hm
 |succ n ih=>
  intro x27 l28 l28n res hl0 hm;subst hl0;refine qQ (s_va 6 [(76,vb (decide (x27<(a2.Defects.length:Int))))] ?_);refine q_sq (q_cq hm (λhm=>?_) (λhm=>?_))
  ·refine q_sk (q_jn (ι:=(List qA)×Nat) (λp=>EC a1 a2 o23 x27 p.1 p.2) (λp=>p.1.length=p.2/\RC x27 (wD a1 a2 n) p.1=some res) ?_ ?_)
   ·rintro⟨l35,l35n⟩ ⟨el35,hm⟩;replace el35:l35.length=l35n:=el35;subst el35;show H _ (EC a1 a2 o23 x27 l35 l35.length) _ _;exact q_vv [] 8 [75] [(75,vi (w64 (x27+1)))] (q_hl (VF a1 a2 o23 (w64 (x27+1)) l35 l35.length) (ih (w64 (x27+1)) l35 l35.length _ rfl hm))
   ·refine q_bk 3 ?_;obtain⟨g30,hm⟩:=qJ hm;refine s_vu [qi 0 g30] 6 [76] [(13,vp 6 0)] [] [(6,bx 68 (qD (a2.Defects.getD x27.toNat dd)))] ?_;obtain⟨v31,h32,hm⟩:=qG hm;refine s_vv [qc 3 [80,81] 7 (BT a1.Defects (a2.Defects.getD x27.toNat dd) v31 h32)] 7 [] [(83,vb (!v31))] (q_cq hm (λhm=>?_) (λhm=>?_))
    ·obtain⟨g34,hm⟩:=qJ hm;exact q_vu [qd 3 (drw 7 0 (rf qD [(a2.Defects.getD x27.toNat dd)])) (litP qD dd 7 (λ_=>rfl) ([(a2.Defects.getD x27.toNat dd)]:List qA) 1 rfl),qd 4 (drw 4 1 (rf qD (l28++[(a2.Defects.getD x27.toNat dd)]))) (apP qD dd l28 ([(a2.Defects.getD x27.toNat dd)]:List qA) l28.length 1 7 56 (1<=1) (kg _) rfl rfl (λ_=>rfl) (zK g34))] 7 [13,83] [] [4,5,6] [(4,ro 1 68 7 (l28.length+1) (rf qD (l28++[(a2.Defects.getD x27.toNat dd)]))),(5,bx 25 [.own 3 0 2 o23.length,.own 4 1 7 (l28.length+1)])] (q_J ((l28++[(a2.Defects.getD x27.toNat dd)]),(l28.length+1)) ⟨(zN rfl rfl),hm⟩)
    ·exact q_sk (q_J (l28,l28.length) ⟨rfl,hm⟩)
  ·refine q_ex 2 ?_;obtain rfl:=oi hm;exact q_l0
theorem qFL (a1:Scan) (a2:Scan) (r:Scan×Int) (hm:UR a1 a2=some r):CtX Tryz.prog globs 30 0 0 [.agg (qR a1),.agg (qR a2)] [] (ME r) (LK r):=by
 unfold UR at hm;refine q_E f30 97 λE=>?_;refine s_vn [] 0 ⟨[(2,vp 0 0),(3,vp 1 0),(4,vp 2 0)],[(0,bx 25 (qR a1)),(1,bx 25 (qR a2)),(2,bx 25 [.emp,.emp])]⟩ (q_sq ?_);obtain⟨v3,h4,hm⟩:=qG hm;refine s_vv [qc 1 [14] 3 (ZC a1 v3 h4)] 3 [] [(6,vi v3)] (s_va 3 [(17,vb (v3 !=0))] ?_);refine q_cq hm (λhm=>?_) (λhm=>?_)
 ·refine s_vu [] 3 [2,3,6,17] [(5,vi v3)] [0,1] [] (q_fu [.ownB 2 0 3 45 2 (rf qH [])] [] [] [2] [(2,bx 25 [.own 3 0 2 0,.emp]),(3,ro 0 45 2 0 (rf qH []))] o0 ?_);refine q_fu [.ownB 2 1 4 68 7 (rf qD [])] [] [] [2] [(2,bx 25 [.own 3 0 2 0,.own 4 0 7 0]),(4,ro 0 68 7 0 (rf qD []))] o0 (q_fu [.len 3 (([]:List Ring).length)] [] [] [2,3] [(2,bx 25 [.own 3 0 2 (([]:List Ring).length),.own 4 0 7 0]),(3,ro 0 45 2 (([]:List Ring).length) (rf qH []))] (o1 (And.intro (show 0=([]:List Ring).length from rfl) (show 0=([]:List Ring).length from rfl))) ?_)
  refine q_fu [.len 4 (([]:List qA).length)] [] [] [2,4] [(2,bx 25 [.own 3 0 2 (([]:List Ring).length),.own 4 0 7 (([]:List qA).length)]),(4,ro 0 68 7 (([]:List qA).length) (rf qD []))] (o1 (And.intro (show 0=([]:List qA).length from rfl) (show 0=([]:List qA).length from rfl))) ?_;obtain rfl:=oi hm;refine q_sw 3 0 (q_sw 4 1 ?_);exact q_rt q_rm
 ·refine q_sk (q_sq ?_);obtain⟨v6,h7,hm⟩:=qG hm;refine s_vv [qc 1 [20] 3 (ZC a2 v6 h7)] 3 [6,17] [(7,vi v6)] (s_va 3 [(23,vb (v6 !=0))] ?_);refine q_cq hm (λhm=>?_) (λhm=>?_)
  ·refine s_vu [] 3 [2,3,7,23] [(5,vi v6)] [0,1] [] (q_fu [.ownB 2 0 3 45 2 (rf qH [])] [] [] [2] [(2,bx 25 [.own 3 0 2 0,.emp]),(3,ro 0 45 2 0 (rf qH []))] o0 ?_);refine q_fu [.ownB 2 1 4 68 7 (rf qD [])] [] [] [2] [(2,bx 25 [.own 3 0 2 0,.own 4 0 7 0]),(4,ro 0 68 7 0 (rf qD []))] o0 (q_fu [.len 3 (([]:List Ring).length)] [] [] [2,3] [(2,bx 25 [.own 3 0 2 (([]:List Ring).length),.own 4 0 7 0]),(3,ro 0 45 2 (([]:List Ring).length) (rf qH []))] (o1 (And.intro (show 0=([]:List Ring).length from rfl) (show 0=([]:List Ring).length from rfl))) ?_)
   refine q_fu [.len 4 (([]:List qA).length)] [] [] [2,4] [(2,bx 25 [.own 3 0 2 (([]:List Ring).length),.own 4 0 7 (([]:List qA).length)]),(4,ro 0 68 7 (([]:List qA).length) (rf qD []))] (o1 (And.intro (show 0=([]:List qA).length from rfl) (show 0=([]:List qA).length from rfl))) ?_;obtain rfl:=oi hm;refine q_sw 3 0 (q_sw 4 1 ?_);exact q_rt q_rm
  ·refine q_sk (q_sq ?_);refine s_vv [] 3 [7,23] [(32,vb ((a1.Rings.length:Int) !=(a2.Rings.length:Int)))] (q_cq hm (λhm=>?_) (λhm=>?_))
   ·refine s_vu [] 3 [2,3,32] [(5,vi 19)] [0,1] [] (q_fu [.ownB 2 0 3 45 2 (rf qH [])] [] [] [2] [(2,bx 25 [.own 3 0 2 0,.emp]),(3,ro 0 45 2 0 (rf qH []))] o0 ?_);refine q_fu [.ownB 2 1 4 68 7 (rf qD [])] [] [] [2] [(2,bx 25 [.own 3 0 2 0,.own 4 0 7 0]),(4,ro 0 68 7 0 (rf qD []))] o0 (q_fu [.len 3 (([]:List Ring).length)] [] [] [2,3] [(2,bx 25 [.own 3 0 2 (([]:List Ring).length),.own 4 0 7 0]),(3,ro 0 45 2 (([]:List Ring).length) (rf qH []))] (o1 (And.intro (show 0=([]:List Ring).length from rfl) (show 0=([]:List Ring).length from rfl))) ?_)
    refine q_fu [.len 4 (([]:List qA).length)] [] [] [2,4] [(2,bx 25 [.own 3 0 2 (([]:List Ring).length),.own 4 0 7 (([]:List qA).length)]),(4,ro 0 68 7 (([]:List qA).length) (rf qD []))] (o1 (And.intro (show 0=([]:List qA).length from rfl) (show 0=([]:List qA).length from rfl))) ?_;obtain rfl:=oi hm;refine q_sw 3 0 (q_sw 4 1 ?_);exact q_rt q_rm
   ·refine q_sk ?_;obtain⟨g10,hm⟩:=qJ hm;obtain⟨v11,h12,hm⟩:=qG hm
    refine s_du [qd 3 (drw 3 0 (rf qH (List.replicate ((a1.Rings.length:Int).toNat) (Ring.mk 0 ([]:List qC))))) (mkPe qH dd (Ring.mk 0 ([]:List qC)) (a1.Rings.length:Int) 32 [ci 0,.emp] (qBg g10) (.same _ (.emp _ .nil))),qc 6 [39] 4 (HZ a1.Defects v11 h12)] [0,1,3,7,0,16,48,127,0,511] 3 [32] [(8,vp 5 0)] [] [(3,ro 0 45 2 ((a1.Rings.length:Int).toNat) (rf qH (List.replicate ((a1.Rings.length:Int).toNat) (Ring.mk 0 ([]:List qC))))),(4,ro 0 68 7 v11.length (rf qD v11)),(5,bx 25 [.own 3 0 2 ((a1.Rings.length:Int).toNat),.own 4 0 7 v11.length])] (q_sq ?_)
    refine s_va 6 [(44,vi (a1.Rings.length:Int)),(45,vi 0)] ?_;obtain⟨u25,h24,hm⟩:=qG hm;refine zC (nd f30 1012) 0 (by kernel_rfl) FUEL (λo=>SV a1 a2 v11 o) (λv st=>RetQ Tryz.prog f30 (ME v) (LK v) .ret st) u25 (q_hl (UF a1 a2 v11 0 (List.replicate ((a1.Rings.length:Int).toNat) (Ring.mk 0 ([]:List qC))) ((a1.Rings.length:Int).toNat)) (qCI E a1 a2 v11 FUEL 0 (List.replicate ((a1.Rings.length:Int).toNat) (Ring.mk 0 ([]:List qC))) ((a1.Rings.length:Int).toNat) u25 qBc h24)) ?_ ?_
    ·rintro v26 rfl st hr;obtain rfl:=oi hm;exact hr
    ·rintro o23 rfl;replace hm:_=some r:=hm;refine q_sq (s_vu [] 6 [3] [(73,vc (tl qD dd a2.Defects)),(74,vi (a2.Defects.length:Int)),(75,vi 0)] [1] [] ?_);obtain⟨o37,h38,hm⟩:=qG hm;refine zI (nd f30 2036) 2 (by kernel_rfl) FUEL (λo=>SF o23 o) o37 (q_hl (VF a1 a2 o23 0 v11 v11.length) (qCj E a1 a2 o23 FUEL 0 v11 v11.length o37 rfl h38)) (q_sq ?_);refine s_va 6 [(94,vb (decide ((o37.length:Int)>64)))] (q_cq hm (λhm=>?_) (λhm=>?_))
     ·refine s_vu [] 6 [8,94] [(5,vi 4)] [3,4,5] [] (q_fu [.ownB 2 0 6 45 2 (rf qH [])] [] [] [2] [(2,bx 25 [.own 6 0 2 0,.emp]),(6,ro 0 45 2 0 (rf qH []))] o0 ?_);refine q_fu [.ownB 2 1 7 68 7 (rf qD [])] [] [] [2] [(2,bx 25 [.own 6 0 2 0,.own 7 0 7 0]),(7,ro 0 68 7 0 (rf qD []))] o0 (q_fu [.len 6 (([]:List Ring).length)] [] [] [2,6] [(2,bx 25 [.own 6 0 2 (([]:List Ring).length),.own 7 0 7 0]),(6,ro 0 45 2 (([]:List Ring).length) (rf qH []))] (o1 (And.intro (show 0=([]:List Ring).length from rfl) (show 0=([]:List Ring).length from rfl))) ?_)
      refine q_fu [.len 7 (([]:List qA).length)] [] [] [2,7] [(2,bx 25 [.own 6 0 2 (([]:List Ring).length),.own 7 0 7 (([]:List qA).length)]),(7,ro 0 68 7 (([]:List qA).length) (rf qD []))] (o1 (And.intro (show 0=([]:List qA).length from rfl) (show 0=([]:List qA).length from rfl))) ?_;obtain rfl:=oi hm;refine q_sw 6 0 (q_sw 7 1 ?_);exact q_rt q_rm
     ·refine q_sk (s_vu [] 6 [8,94] [(5,vi 0)] [2,5] [(2,bx 25 [.own 3 0 2 o23.length,.own 4 0 7 o37.length])] ?_);obtain rfl:=oi hm;refine q_sw 3 0 (q_sw 4 1 ?_);exact q_rt q_rm
def KI (r:Bool):V:=vb r
def QC (r:Bool):List (Nat×(Nat×O)):=[]
theorem qEf (r:Bool):yS (QC r):=by
 intro i k o h;unfold QC at h;cases h
def qBN (a1:List qB) (x2:Int) (x8:Bool):St:=
 ⟨[(0,vc (tl qE dd a1)),(3,vi x2),(39,vb x8)],[]⟩
def PD (a1:List qB) (x2:Int):St:=
 ⟨[(0,vc (tl qE dd a1)),(3,vi x2)],[]⟩
def FB :St:=
 ⟨[],[]⟩
theorem qAQ (E:Env 0) (a1:List qB):∀(n:Nat) (x2:Int) (res:Bool⊕Unit),zS a1 n x2=some res->HL (kx E 40 0) (nd f86 52) (zR 0 (λo=>FB) (λv st=>RetQ Tryz.prog f86 (KI v) (QC v) .ret st) res) n (PD a1 x2):=by
 intro n
 induction n with
 |zero=>
  intro x2 res hm;cases hm
 |succ n ih=>
  intro x2 res hm;refine qQ (q_sq ?_);refine s_va 0 [(7,vb (decide (x2<(a1.length:Int))))] (q_cq hm (λhm=>?_) (λhm=>?_))
  ·refine q_sk (q_sq ?_);refine q_bk 1 (q_jn (qBN a1 x2) (λp=>yF x2 (zS a1 n) p=some res) ?_ ?_)
   ·rintro x8 hm;refine q_cq hm (λhm=>?_) (λhm=>?_)
    ·refine s_vn [] 0 ⟨[(2,vb false)],[]⟩ ?_;obtain rfl:=oi hm;refine q_rt (qW false ?_);exact q_rm
    ·refine q_sk (q_vv [] 0 [3,39] [(3,vi (w64 (x2+1)))] ?_);exact q_hl (PD a1 (w64 (x2+1))) (ih (w64 (x2+1)) _ hm)
   ·obtain⟨g4,hm⟩:=qJ hm;rcases bif_c hm with⟨b5,hm⟩|⟨b5,hm⟩
    ·exact q_vv [qi 2 g4,qf 6 b5] 0 [7] [(39,vb true)] (q_J (true) hm)
    ·rcases bif_c hm with⟨b6,hm⟩|⟨b6,hm⟩
     ·exact q_vv [qi 2 g4,qf 6 b5,qi 9 g4,qf 14 b6] 0 [7] [(39,vb true)] (q_J (true) hm)
     ·rcases bif_c hm with⟨b7,hm⟩|⟨b7,hm⟩
      ·exact q_vv [qi 2 g4,qf 6 b5,qi 9 g4,qf 14 b6,qi 17 g4,qf 22 b7] 0 [7] [(39,vb true)] (q_J (true) hm)
      ·exact q_vv [qi 2 g4,qf 6 b5,qi 9 g4,qf 14 b6,qi 17 g4,qf 22 b7,qi 25 g4] 0 [7] [(39,vb (decide (((a1.getD x2.toNat dd).Y)>600)))] (q_J (decide (((a1.getD x2.toNat dd).Y)>600)) hm)
  ·refine q_ex 0 ?_;obtain rfl:=oi hm;exact q_l1 ()
theorem qCU (a1:List qB) (r:Bool) (hm:XW a1=some r):CtX Tryz.prog globs 86 0 0 [.one (tl qE dd a1)] [] (KI r) (QC r):=by
 unfold XW at hm;refine q_E f86 40 λE=>?_;refine s_vn [] 0 ⟨[(0,vc (tl qE dd a1))],[]⟩ (q_sq ?_);refine s_va 0 [(3,vi 0)] ?_;obtain⟨u12,h11,hm⟩:=qG hm;refine zC (nd f86 52) 0 (by kernel_rfl) FUEL (λo=>FB) (λv st=>RetQ Tryz.prog f86 (KI v) (QC v) .ret st) u12 (q_hl (PD a1 0) (qAQ E a1 FUEL 0 u12 h11)) ?_ ?_
 ·rintro v13 rfl st hr;obtain rfl:=oi hm;exact hr
 ·rintro o10 rfl;replace hm:_=some r:=hm;refine s_vn [] 0 ⟨[(2,vb true)],[]⟩ ?_;obtain rfl:=oi hm;exact q_rt q_rm
def NF (r:Int):V:=vi r
def NM (r:Int):List (Nat×(Nat×O)):=[]
def qCy (a1:Ring) (x7:Int) (x16:Bool):St:=
 ⟨[(1,vp 0 0),(3,vi x7),(53,vb x16)],[(0,bx 45 (qH a1))]⟩
def qCv (a1:Ring) (x7:Int) (x13:Bool):St:=
 ⟨[(1,vp 0 0),(3,vi x7),(4,vp 1 0),(44,vb x13)],[(0,bx 45 (qH a1)),(1,bx 73 (qF (a1.Read.getD x7.toNat dd)))]⟩
def TE (a1:Ring) (x7:Int):St:=
 ⟨[(1,vp 0 0),(3,vi x7)],[(0,bx 45 (qH a1))]⟩
def HD :St:=
 ⟨[],[]⟩
def qCn (a1:Ring) (x5:Bool):St:=
 ⟨[(1,vp 0 0),(15,vb x5)],[(0,bx 45 (qH a1))]⟩
theorem qBO (E:Env 0) (a1:Ring):∀(n:Nat) (x7:Int) (res:Int⊕Unit),wF a1 n x7=some res->HL (kx E 54 0) (nd f40 116) (zR 1 (λo=>HD) (λv st=>RetQ Tryz.prog f40 (NF v) (NM v) .ret st) res) n (TE a1 x7):=by
 intro n
 induction n with
 |zero=>
  intro x7 res hm;cases hm
 |succ n ih=>
  intro x7 res hm;refine qQ (q_sq ?_);refine s_va 1 [(28,vb (decide (x7<(a1.Read.length:Int))))] (q_cq hm (λhm=>?_) (λhm=>?_))
  ·refine q_sk (q_sq ?_);refine q_bk 2 ?_;obtain⟨g9,hm⟩:=qJ hm;refine s_vu [qi 3 g9] 1 [28] [(4,vp 1 0)] [] [(1,bx 73 (qF (a1.Read.getD x7.toNat dd)))] (q_sq ?_);refine q_jn (qCv a1 x7) (λp=>KC a1 x7 (wF a1 n) p=some res) ?_ ?_
   ·rintro x13 hm;refine q_cq hm (λhm=>?_) (λhm=>?_)
    ·refine s_vn [] 3 ⟨[(2,vi 9)],[]⟩ ?_;obtain rfl:=oi hm;refine q_rt (qW 9 ?_);exact q_rm
    ·refine q_sk (q_jn (qCy a1 x7) (λp=>KA x7 (wF a1 n) p=some res) ?_ ?_)
     ·rintro x16 hm;refine q_cq hm (λhm=>?_) (λhm=>?_)
      ·refine s_vn [] 3 ⟨[(2,vi 19)],[]⟩ ?_;obtain rfl:=oi hm;refine q_rt (qW 19 ?_);exact q_rm
      ·refine q_sk (q_vv [] 3 [3,53] [(3,vi (w64 (x7+1)))] ?_);exact q_hl (TE a1 (w64 (x7+1))) (ih (w64 (x7+1)) _ hm)
     ·rcases bif_c hm with⟨b15,hm⟩|⟨b15,hm⟩
      ·exact q_vu [qf 3 b15] 3 [4,44] [(53,vb (!(((((a1.Read.getD x7.toNat dd).P).X)==0)&&(((((a1.Read.getD x7.toNat dd).P).Y)==0)&&true))))] [1] [] (q_J (!(((((a1.Read.getD x7.toNat dd).P).X)==0)&&(((((a1.Read.getD x7.toNat dd).P).Y)==0)&&true))) hm)
      ·exact q_vu [qf 3 b15] 3 [4,44] [(53,vb false)] [1] [] (q_J (false) hm)
   ·rcases bif_c hm with⟨b10,hm⟩|⟨b10,hm⟩
    ·obtain⟨v11,h12,hm⟩:=qG hm
     exact q_vv [qf 2 b10,qd 5 (drw 2 0 (rf qE [(a1.Read.getD x7.toNat dd).P])) (litP qE dd 2 (λ_=>rfl) ([(a1.Read.getD x7.toNat dd).P]:List qB) 1 rfl),qd 6 (dex (cen [] [] 3 0 (KI v11) (QC v11) [38,41] [2])) (zG (K:=(kx E 54 0)) (xs':=[.one (.lst 1 (rf qE [(a1.Read.getD x7.toNat dd).P]))]) (b:=false) ⟨[(38,vb true),(41,vo 2 0 2 1)],[(2,ro 0 71 2 1 (rf qE [(a1.Read.getD x7.toNat dd).P]))]⟩ (opAt (rg f40 7460) 6) [] [] 3 (o1 (kg 1)) (by simp only[tl,rf,show([(a1.Read.getD x7.toNat dd).P]:List qB).length=1 from rfl]) (qCU ([(a1.Read.getD x7.toNat dd).P]:List qB) v11 h12) (.inr ⟨(by kernel_rfl),qEf v11⟩) (by kernel_rfl))] 2 [] [(44,vb (!v11))] (q_J (!v11) hm)
    ·exact q_vv [qf 2 b10] 2 [] [(44,vb false)] (q_J (false) hm)
  ·refine q_ex 1 ?_;obtain rfl:=oi hm;exact q_l1 ()
theorem GB (a1:Ring) (r:Int) (hm:ZV a1=some r):CtX Tryz.prog globs 40 0 0 [.agg (qH a1)] [] (NF r) (NM r):=by
 unfold ZV at hm;refine q_E f40 54 λE=>?_;refine s_vn [] 0 ⟨[(1,vp 0 0)],[(0,bx 45 (qH a1))]⟩ (q_sq ?_);refine q_bk 0 (s_va 1 [(5,vb (decide ((a1.Read.length:Int)<8)))] ?_);refine q_cq hm (λhm=>?_) (λhm=>?_)
 ·refine s_vn [] 1 ⟨[(2,vi 3)],[]⟩ ?_;obtain rfl:=oi hm;exact q_rt q_rm
 ·refine s_vv [] 1 [5] [(10,vb (decide ((a1.Read.length:Int)>32)))] (q_cq hm (λhm=>?_) (λhm=>?_))
  ·refine s_vn [] 1 ⟨[(2,vi 4)],[]⟩ ?_;obtain rfl:=oi hm;exact q_rt q_rm
  ·refine q_jn (qCn a1) (λp=>KB a1 p=some r) ?_ ?_
   ·rintro x5 hm;refine q_cq hm (λhm=>?_) (λhm=>?_)
    ·refine s_vn [] 1 ⟨[(2,vi 9)],[]⟩ ?_;obtain rfl:=oi hm;exact q_rt q_rm
    ·refine q_sk (q_sq ?_);refine s_vv [] 1 [15] [(3,vi 0)] ?_;obtain⟨u20,h19,hm⟩:=qG hm;refine zC (nd f40 116) 1 (by kernel_rfl) FUEL (λo=>HD) (λv st=>RetQ Tryz.prog f40 (NF v) (NM v) .ret st) u20 (q_hl (TE a1 0) (qBO E a1 FUEL 0 u20 h19)) ?_ ?_
     ·rintro v21 rfl st hr;obtain rfl:=oi hm;exact hr
     ·rintro o18 rfl;replace hm:_=some r:=hm;refine s_vn [] 1 ⟨[(2,vi 0)],[]⟩ ?_;obtain rfl:=oi hm;exact q_rt q_rm
   ·rcases bif_c hm with⟨b4,hm⟩|⟨b4,hm⟩
    ·exact q_vv [qf 3 b4] 1 [10] [(15,vb true)] (q_J (true) hm)
    ·exact q_vv [qf 3 b4] 1 [10] [(15,vb (decide (a1.Z>20000)))] (q_J (decide (a1.Z>20000)) hm)
open Go.Proofs Go.Proofs.Tryz
def qEF (r:Ring):V:=va [ci r.Z,.own 0 0 3 r.Read.length]
def qD8 (r:Ring):List (Nat×(Nat×O)):=[(0,ro 0 73 3 r.Read.length (rf qF r.Read))]
theorem qDL (a1:Ring) (r:Ring) (hm:XV a1=some r):CtX Tryz.prog globs 134 0 0 [.agg (qH a1)] [] (qEF r) (qD8 r):=by
 unfold XV at hm;refine q_E f134 10 λE=>?_;refine s_vn [] 0 ⟨[(1,vp 0 0),(2,vp 1 0)],[(0,bx 45 (qH a1)),(1,bx 45 [ci 0,.emp])]⟩ ?_;obtain⟨g2,hm⟩:=qJ hm;refine s_du [qd 2 (drw 2 0 (rf qF [])) (litP qF dd 3 (λ_=>rfl) ([]:List qC) 0 rfl),qd 5 (drw 2 1 (rf qF (([]:List qC)++a1.Read))) (apP qF dd ([]:List qC) a1.Read 0 a1.Read.length 3 24 (True) trivial rfl rfl (λ_=>rfl) (zK g2))] [0,1,0,0,8,28,63,127] 2 [1] [] [0,1] [(1,bx 45 [ci a1.Z,.own 2 1 3 (0+a1.Read.length)]),(2,ro 1 73 3 (0+a1.Read.length) (rf qF (([]:List qC)++a1.Read)))] ?_
 refine q_fu [.len 2 ((([]:List qC)++a1.Read).length)] [] [] [1,2] [(1,bx 45 [ci a1.Z,.own 2 1 3 ((([]:List qC)++a1.Read).length)]),(2,ro 1 73 3 ((([]:List qC)++a1.Read).length) (rf qF (([]:List qC)++a1.Read)))] (o1 (And.intro (Eq.symm (show(([]:List qC)++a1.Read).length=(0+a1.Read.length) from(zN rfl rfl))) (Eq.symm (show(([]:List qC)++a1.Read).length=(0+a1.Read.length) from(zN rfl rfl))))) ?_;obtain rfl:=oi hm;exact q_sw 2 0 (q_rt q_rm)
def qFr (r:Ring×Int):V:= .tup [.agg [ci r.1.Z,.own 0 0 3 r.1.Read.length],.one (ci r.2)]
def qFp (r:Ring×Int):List (Nat×(Nat×O)):=[(0,ro 0 73 3 r.1.Read.length (rf qF r.1.Read))]
def LI (a2:Ring) (v12:Ring) (x14:Int) (l20:List qC) (l20n:Nat):St:=
 ⟨[(3,vp 1 0),(4,vp 2 0),(8,vp 4 0),(9,vi x14)],[(1,bx 45 (qH a2)),(2,bx 45 [ci 0,.emp]),(3,ro 0 73 3 l20n (rf qF l20)),(4,bx 45 [ci v12.Z,.own 3 0 3 l20n])]⟩
def TJ (a2:Ring) (v12:Ring) (x14:Int) (l15:List qC) (l15n:Nat):St:=
 ⟨[(3,vp 1 0),(4,vp 2 0),(8,vp 4 0),(9,vi x14)],[(1,bx 45 (qH a2)),(2,bx 45 [ci 0,.emp]),(3,ro 0 73 3 l15n (rf qF l15)),(4,bx 45 [ci v12.Z,.own 3 0 3 l15n])]⟩
def LV (v12:Ring) (l21:List qC):St:=
 ⟨[(4,vp 2 0),(8,vp 4 0)],[(2,bx 45 [ci 0,.emp]),(3,ro 0 73 3 l21.length (rf qF l21)),(4,bx 45 [ci v12.Z,.own 3 0 3 l21.length])]⟩
def qCq (a1:Ring) (a2:Ring) (x10:Bool):St:=
 ⟨[(2,vp 0 0),(3,vp 1 0),(4,vp 2 0),(35,vb x10)],[(0,bx 45 (qH a1)),(1,bx 45 (qH a2)),(2,bx 45 [ci 0,.emp])]⟩
theorem qBD (E:Env 0) (a2:Ring) (v12:Ring):∀(n:Nat) (x14:Int) (l15:List qC) (l15n:Nat) (res:(List qC)),l15.length=l15n->wQ a2 n x14 l15=some res->HL (kx E 63 0) (nd f69 1012) (zL 0 (λo=>LV v12 o) res) n (TJ a2 v12 x14 l15 l15n):=by
 intro n
 induction n with
 |zero=>
  intro x14 l15 l15n res hl0 hm;cases hm
 |succ n ih=>
  intro x14 l15 l15n res hl0 hm;subst hl0;refine qQ (q_sq ?_);refine s_va 5 [(43,vb (decide (x14<(l15.length:Int))))] (q_cq hm (λhm=>?_) (λhm=>?_))
  ·refine q_sk (q_jn (ι:=(List qC)×Nat) (λp=>LI a2 v12 x14 p.1 p.2) (λp=>p.1.length=p.2/\KM x14 (wQ a2 n) p.1=some res) ?_ ?_)
   ·rintro⟨l20,l20n⟩ ⟨el20,hm⟩;replace el20:l20.length=l20n:=el20;subst el20;show H _ (LI a2 v12 x14 l20 l20.length) _ _;exact q_vv [] 5 [9] [(9,vi (w64 (x14+1)))] (q_hl (TJ a2 v12 (w64 (x14+1)) l20 l20.length) (ih (w64 (x14+1)) l20 l20.length _ rfl hm))
   ·refine q_bk 1 ?_;obtain⟨g17,hm⟩:=qJ hm;refine s_vv [qi 3 g17,qd 5 dN (qY (zF g17))] 5 [43] [(52,vb (!((l15.getD x14.toNat dd).Ok)))] (q_cq hm (λhm=>?_) (λhm=>?_))
    ·obtain⟨g19,hm⟩:=qJ hm;exact q_du [qi 6 g19,qi 8 g17,qd 9 (drw 0 0 (rf qF (l15.set x14.toNat (a2.Read.getD x14.toNat dd)))) (stP qF dd (a2.Read.getD x14.toNat dd) l15 l15.length x14.toNat 0 [ci (((a2.Read.getD x14.toNat dd).P).X),ci (((a2.Read.getD x14.toNat dd).P).Y),cb ((a2.Read.getD x14.toNat dd).Ok)] rfl (qY (zF g17)) rfl)] [0,1,0,0,8,0,56,120,255,511] 5 [52] [] [3] [(3,ro 0 73 3 l15.length (rf qF (l15.set x14.toNat (a2.Read.getD x14.toNat dd))))] (q_J ((l15.set x14.toNat (a2.Read.getD x14.toNat dd)),l15.length) ⟨(ZA rfl),hm⟩)
    ·exact q_sk (q_J (l15,l15.length) ⟨rfl,hm⟩)
  ·refine q_ex 0 ?_;obtain rfl:=oi hm;exact q_l0
theorem qEG (a1:Ring) (a2:Ring) (r:Ring×Int) (hm:YH a1 a2=some r):CtX Tryz.prog globs 69 0 0 [.agg (qH a1),.agg (qH a2)] [] (qFr r) (qFp r):=by
 unfold YH at hm;refine q_E f69 63 λE=>?_;refine s_vn [] 0 ⟨[(2,vp 0 0),(3,vp 1 0),(4,vp 2 0)],[(0,bx 45 (qH a1)),(1,bx 45 (qH a2)),(2,bx 45 [ci 0,.emp])]⟩ (q_sq ?_);obtain⟨v3,h4,hm⟩:=qG hm;refine s_vv [qc 1 [10] 3 (GB a1 v3 h4)] 3 [] [(6,vi v3)] (s_va 3 [(13,vb (v3 !=0))] ?_);refine q_cq hm (λhm=>?_) (λhm=>?_)
 ·refine s_vu [] 3 [2,3,6,13] [(5,vi v3)] [0,1] [] (q_fu [.ownB 2 1 3 73 3 (rf qF [])] [] [] [2] [(2,bx 45 [ci 0,.own 3 0 3 0]),(3,ro 0 73 3 0 (rf qF []))] o0 ?_);refine q_fu [.len 3 (([]:List qC).length)] [] [] [2,3] [(2,bx 45 [ci 0,.own 3 0 3 (([]:List qC).length)]),(3,ro 0 73 3 (([]:List qC).length) (rf qF []))] (o1 (And.intro (show 0=([]:List qC).length from rfl) (show 0=([]:List qC).length from rfl))) ?_;obtain rfl:=oi hm;exact q_sw 3 0 (q_rt q_rm)
 ·refine q_sk (q_sq ?_);obtain⟨v6,h7,hm⟩:=qG hm;refine s_vv [qc 1 [16] 3 (GB a2 v6 h7)] 3 [6,13] [(7,vi v6)] (s_va 3 [(19,vb (v6 !=0))] ?_);refine q_cq hm (λhm=>?_) (λhm=>?_)
  ·refine s_vu [] 3 [2,3,7,19] [(5,vi v6)] [0,1] [] (q_fu [.ownB 2 1 3 73 3 (rf qF [])] [] [] [2] [(2,bx 45 [ci 0,.own 3 0 3 0]),(3,ro 0 73 3 0 (rf qF []))] o0 ?_);refine q_fu [.len 3 (([]:List qC).length)] [] [] [2,3] [(2,bx 45 [ci 0,.own 3 0 3 (([]:List qC).length)]),(3,ro 0 73 3 (([]:List qC).length) (rf qF []))] (o1 (And.intro (show 0=([]:List qC).length from rfl) (show 0=([]:List qC).length from rfl))) ?_;obtain rfl:=oi hm;exact q_sw 3 0 (q_rt q_rm)
  ·refine q_sk (q_sq ?_);refine q_jn (qCq a1 a2) (λp=>KD a1 a2 p=some r) ?_ ?_
   ·rintro x10 hm;refine q_cq hm (λhm=>?_) (λhm=>?_)
    ·refine s_vu [] 3 [2,3,35] [(5,vi 19)] [0,1] [] (q_fu [.ownB 2 1 3 73 3 (rf qF [])] [] [] [2] [(2,bx 45 [ci 0,.own 3 0 3 0]),(3,ro 0 73 3 0 (rf qF []))] o0 ?_);refine q_fu [.len 3 (([]:List qC).length)] [] [] [2,3] [(2,bx 45 [ci 0,.own 3 0 3 (([]:List qC).length)]),(3,ro 0 73 3 (([]:List qC).length) (rf qF []))] (o1 (And.intro (show 0=([]:List qC).length from rfl) (show 0=([]:List qC).length from rfl))) ?_;obtain rfl:=oi hm;exact q_sw 3 0 (q_rt q_rm)
    ·refine q_sk ?_;obtain⟨v12,h13,hm⟩:=qG hm;refine s_vu [qc 1 [37] 3 (qDL a1 v12 h13)] 3 [2,35] [(8,vp 4 0)] [0] [(3,ro 0 73 3 v12.Read.length (rf qF v12.Read)),(4,bx 45 [ci v12.Z,.own 3 0 3 v12.Read.length])] (q_sq ?_);refine s_va 5 [(9,vi 0)] ?_;obtain⟨o22,h23,hm⟩:=qG hm;refine zI (nd f69 1012) 0 (by kernel_rfl) FUEL (λo=>LV v12 o) o22 (q_hl (TJ a2 v12 0 v12.Read v12.Read.length) (qBD E a2 v12 FUEL 0 v12.Read v12.Read.length o22 rfl h23)) (s_vu [] 5 [8] [(5,vi 0)] [2,4] [(2,bx 45 [ci v12.Z,.own 3 0 3 o22.length])] ?_);obtain rfl:=oi hm;exact q_sw 3 0 (q_rt q_rm)
   ·rcases bif_c hm with⟨b9,hm⟩|⟨b9,hm⟩
    ·exact q_vv [qf 5 b9] 3 [7,19] [(35,vb true)] (q_J (true) hm)
    ·exact q_vv [qf 5 b9] 3 [7,19] [(35,vb ((a1.Read.length:Int) !=(a2.Read.length:Int)))] (q_J ((a1.Read.length:Int) !=(a2.Read.length:Int)) hm)
def AM (r:Bool):V:=vb r
def AQ (r:Bool):List (Nat×(Nat×O)):=[]
def GP (a1:List qA) (a2:qA) (x3:Int):St:=
 ⟨[(0,vc (tl qD dd a1)),(3,vp 0 0),(5,vi x3)],[(0,bx 68 (qD a2))]⟩
def IC :St:=
 ⟨[],[]⟩
theorem qDf (E:Env 0) (a1:List qA) (a2:qA):∀(n:Nat) (x3:Int) (res:Bool⊕Unit),yB a1 a2 n x3=some res->HL (kx E 18 0) (nd f70 52) (zR 0 (λo=>IC) (λv st=>RetQ Tryz.prog f70 (AM v) (AQ v) .ret st) res) n (GP a1 a2 x3):=by
 intro n
 induction n with
 |zero=>
  intro x3 res hm;cases hm
 |succ n ih=>
  intro x3 res hm;refine qQ (q_sq ?_);refine s_va 1 [(9,vb (decide (x3<(a1.length:Int))))] (q_cq hm (λhm=>?_) (λhm=>?_))
  ·refine q_sk (q_sq ?_);refine q_bk 1 ?_;obtain⟨g5,hm⟩:=qJ hm;refine s_du [qi 2 g5] [0,0,3,7,0,31] 1 [9] [(17,vb ((((a1.getD x3.toNat dd).Kind)==a2.Kind)&&((((((((a1.getD x3.toNat dd).Box).X).A)==a2.Box.X.A)&&((((((a1.getD x3.toNat dd).Box).X).B)==a2.Box.X.B)&&true))&&(((((((a1.getD x3.toNat dd).Box).Y).A)==a2.Box.Y.A)&&((((((a1.getD x3.toNat dd).Box).Y).B)==a2.Box.Y.B)&&true))&&(((((((a1.getD x3.toNat dd).Box).Z).A)==a2.Box.Z.A)&&((((((a1.getD x3.toNat dd).Box).Z).B)==a2.Box.Z.B)&&true))&&true)))&&true)))] [] [] (q_cq hm (λhm=>?_) (λhm=>?_))
   ·refine s_vn [] 1 ⟨[(4,vb true)],[]⟩ ?_;obtain rfl:=oi hm;refine q_rt (qW true ?_);exact q_rm
   ·refine q_sk (q_vv [] 1 [5,17] [(5,vi (w64 (x3+1)))] ?_);exact q_hl (GP a1 a2 (w64 (x3+1))) (ih (w64 (x3+1)) _ hm)
  ·refine q_ex 0 ?_;obtain rfl:=oi hm;exact q_l1 ()
theorem qGE (a1:List qA) (a2:qA) (r:Bool) (hm:BO a1 a2=some r):CtX Tryz.prog globs 70 0 0 [.one (tl qD dd a1),.agg (qD a2)] [] (AM r) (AQ r):=by
 unfold BO at hm;refine q_E f70 18 λE=>?_;refine s_vn [] 0 ⟨[(0,vc (tl qD dd a1)),(3,vp 0 0)],[(0,bx 68 (qD a2))]⟩ (q_sq ?_);refine s_va 1 [(5,vi 0)] ?_;obtain⟨u9,h8,hm⟩:=qG hm;refine zC (nd f70 52) 0 (by kernel_rfl) FUEL (λo=>IC) (λv st=>RetQ Tryz.prog f70 (AM v) (AQ v) .ret st) u9 (q_hl (GP a1 a2 0) (qDf E a1 a2 FUEL 0 u9 h8)) ?_ ?_
 ·rintro v10 rfl st hr;obtain rfl:=oi hm;exact hr
 ·rintro o7 rfl;replace hm:_=some r:=hm;refine s_vn [] 1 ⟨[(4,vb false)],[]⟩ ?_;obtain rfl:=oi hm;exact q_rt q_rm
open Go.Proofs Go.Proofs.Tryz
def qFo (r:Bool):V:=vb r
def qFY (r:Bool):List (Nat×(Nat×O)):=[]
def qCp (x4:Bool):St:=
 ⟨[(2,vb x4)],[]⟩
theorem qEr (a1:Box) (r:Bool) (hm:PH a1=some r):CtX Tryz.prog globs 87 0 0 [.agg (FO a1)] [] (qFo r) (qFY r):=by
 unfold PH at hm;refine q_E f87 28 λE=>?_;refine s_vn [] 0 ⟨[(1,vp 0 0)],[(0,bx 66 (FO a1))]⟩ (q_jn (qCp) (λp=>WR p=some r) ?_ ?_)
 ·rintro x4 hm;obtain rfl:=oi hm;exact q_rt q_rm
 ·rcases bif_c hm with⟨b2,hm⟩|⟨b2,hm⟩
  ·exact q_vn [qf 7 b2] 1 ⟨[(2,vb true)],[]⟩ (q_J (true) hm)
  ·rcases bif_c hm with⟨b3,hm⟩|⟨b3,hm⟩
   ·exact q_vn [qf 7 b2,qf 16 b3] 1 ⟨[(2,vb true)],[]⟩ (q_J (true) hm)
   ·exact q_vn [qf 7 b2,qf 16 b3] 1 ⟨[(2,vb (decide (a1.Z.A≥a1.Z.B)))],[]⟩ (q_J (decide (a1.Z.A≥a1.Z.B)) hm)
def qIS (r:Bool):V:=vb r
def qIF (r:Bool):List (Nat×(Nat×O)):=[]
def qFu (x5:Bool):St:=
 ⟨[(6,vb x5)],[]⟩
theorem YI (a1:Span) (a2:Int) (a3:Int) (r:Bool) (hm:RW a1 a2 a3=some r):CtX Tryz.prog globs 143 0 0 [.agg (qL a1),.one (ci a2),.one (ci a3)] [] (qIS r) (qIF r):=by
 unfold RW at hm;refine q_E f143 17 λE=>?_;refine s_vn [] 0 ⟨[(1,vi a2),(2,vi a3),(3,vp 0 0)],[(0,bx 64 (qL a1))]⟩ (q_jn (qFu) (λp=>DH p=some r) ?_ ?_)
 ·rintro x5 hm;obtain rfl:=oi hm;exact q_rt q_rm
 ·rcases bif_c hm with⟨b4,hm⟩|⟨b4,hm⟩
  ·exact q_vn [qf 4 b4] 1 ⟨[(6,vb (decide (a1.B<=a3)))],[]⟩ (q_J (decide (a1.B<=a3)) hm)
  ·exact q_vn [qf 4 b4] 1 ⟨[(6,vb false)],[]⟩ (q_J (false) hm)
def qEI (r:Bool):V:=vb r
def qEi (r:Bool):List (Nat×(Nat×O)):=[]
def qBF (x10:Bool):St:=
 ⟨[(2,vb x10)],[]⟩
theorem qDi (a1:Box) (r:Bool) (hm:XF a1=some r):CtX Tryz.prog globs 88 0 0 [.agg (FO a1)] [] (qEI r) (qEi r):=by
 unfold XF at hm;refine q_E f88 16 λE=>?_;refine s_vn [] 0 ⟨[(1,vp 0 0)],[(0,bx 66 (FO a1))]⟩ (q_jn (qBF) (λp=>ZL p=some r) ?_ ?_)
 ·rintro x10 hm;obtain rfl:=oi hm;exact q_rt q_rm
 ·obtain⟨v2,h3,hm⟩:=qG hm;rcases bif_c hm with⟨b4,hm⟩|⟨b4,hm⟩
  ·obtain⟨v5,h6,hm⟩:=qG hm;rcases bif_c hm with⟨b7,hm⟩|⟨b7,hm⟩
   ·obtain⟨v8,h9,hm⟩:=qG hm;exact q_vn [qk 2 [4] 1 ⟨[(4,va (qL a1.X))],[]⟩ (YI a1.X (-600) 600 v2 h3),qf 3 b4,qk 6 [6,8] 1 ⟨[(6,vb true),(8,va (qL a1.Y))],[]⟩ (YI a1.Y (-600) 600 v5 h6),qf 8 b7,qk 11 [11,13] 1 ⟨[(11,vb true),(13,va (qL a1.Z))],[]⟩ (YI a1.Z 0 20000 v8 h9)] 1 ⟨[(2,vb v8)],[]⟩ (q_J (v8) hm)
   ·exact q_vn [qk 2 [4] 1 ⟨[(4,va (qL a1.X))],[]⟩ (YI a1.X (-600) 600 v2 h3),qf 3 b4,qk 6 [6,8] 1 ⟨[(6,vb true),(8,va (qL a1.Y))],[]⟩ (YI a1.Y (-600) 600 v5 h6),qf 8 b7] 1 ⟨[(2,vb false)],[]⟩ (q_J (false) hm)
  ·exact q_vn [qk 2 [4] 1 ⟨[(4,va (qL a1.X))],[]⟩ (YI a1.X (-600) 600 v2 h3),qf 3 b4] 1 ⟨[(2,vb false)],[]⟩ (q_J (false) hm)
open Go.Proofs Go.Proofs.Tryz
def NK (r:Int):V:=vi r
def NP (r:Int):List (Nat×(Nat×O)):=[]
def qCs (a1:List qA) (x3:Int) (x7:Bool):St:=
 ⟨[(0,vc (tl qD dd a1)),(3,vi x3),(13,vb x7)],[]⟩
def TD (a1:List qA) (x3:Int):St:=
 ⟨[(0,vc (tl qD dd a1)),(3,vi x3)],[]⟩
def HF :St:=
 ⟨[],[]⟩
theorem qBu (E:Env 0) (a1:List qA):∀(n:Nat) (x3:Int) (res:Int⊕Unit),wH a1 n x3=some res->HL (kx E 43 0) (nd f41 116) (zR 0 (λo=>HF) (λv st=>RetQ Tryz.prog f41 (NK v) (NP v) .ret st) res) n (TD a1 x3):=by
 intro n
 induction n with
 |zero=>
  intro x3 res hm;cases hm
 |succ n ih=>
  intro x3 res hm;refine qQ (q_sq ?_);refine s_va 0 [(10,vb (decide (x3<(a1.length:Int))))] (q_cq hm (λhm=>?_) (λhm=>?_))
  ·refine q_sk (q_sq ?_);refine q_bk 1 (q_bk 2 ?_);refine q_jn (qCs a1 x3) (λp=>KL a1 x3 (wH a1 n) p=some res) ?_ ?_
   ·rintro x7 hm;refine q_cq hm (λhm=>?_) (λhm=>?_)
    ·refine s_vn [] 0 ⟨[(2,vi 10)],[]⟩ ?_;obtain rfl:=oi hm;refine q_rt (qW 10 ?_);exact q_rm
    ·obtain⟨g9,hm⟩:=qJ hm;obtain⟨v10,h11,hm⟩:=qG hm;refine s_vv [qi 2 g9,qc 5 [33] 0 (qEr ((a1.getD x3.toNat dd).Box) v10 h11)] 0 [13] [(28,vb v10)] (q_cq hm (λhm=>?_) (λhm=>?_))
     ·refine s_vn [] 0 ⟨[(2,vi 19)],[]⟩ ?_;obtain rfl:=oi hm;refine q_rt (qW 19 ?_);exact q_rm
     ·obtain⟨v13,h14,hm⟩:=qG hm;refine s_vv [qi 2 g9,qc 5 [40] 0 (qDi ((a1.getD x3.toNat dd).Box) v13 h14)] 0 [28] [(35,vb (!v13))] (q_cq hm (λhm=>?_) (λhm=>?_))
      ·refine s_vn [] 0 ⟨[(2,vi 9)],[]⟩ ?_;obtain rfl:=oi hm;refine q_rt (qW 9 ?_);exact q_rm
      ·refine q_sk (q_vv [] 0 [3,35] [(3,vi (w64 (x3+1)))] ?_);exact q_hl (TD a1 (w64 (x3+1))) (ih (w64 (x3+1)) _ hm)
   ·obtain⟨g5,hm⟩:=qJ hm;rcases bif_c hm with⟨b6,hm⟩|⟨b6,hm⟩
    ·exact q_vv [qi 2 g5,qf 6 b6] 0 [10] [(13,vb true)] (q_J (true) hm)
    ·exact q_vv [qi 2 g5,qf 6 b6,qi 9 g5] 0 [10] [(13,vb (decide (((a1.getD x3.toNat dd).Kind)>6)))] (q_J (decide (((a1.getD x3.toNat dd).Kind)>6)) hm)
  ·refine q_ex 0 ?_;obtain rfl:=oi hm;exact q_l1 ()
theorem qEe (a1:List qA) (r:Int) (hm:PI a1=some r):CtX Tryz.prog globs 41 0 0 [.one (tl qD dd a1)] [] (NK r) (NP r):=by
 unfold PI at hm;refine q_E f41 43 λE=>?_;refine s_vn [] 0 ⟨[(0,vc (tl qD dd a1))],[]⟩ (q_sq ?_);refine s_va 0 [(6,vb (decide ((a1.length:Int)>64)))] (q_cq hm (λhm=>?_) (λhm=>?_))
 ·refine s_vn [] 0 ⟨[(2,vi 4)],[]⟩ ?_;obtain rfl:=oi hm;exact q_rt q_rm
 ·refine q_sk (q_sq ?_);refine s_vv [] 0 [6] [(3,vi 0)] ?_;obtain⟨u18,h17,hm⟩:=qG hm;refine zC (nd f41 116) 0 (by kernel_rfl) FUEL (λo=>HF) (λv st=>RetQ Tryz.prog f41 (NK v) (NP v) .ret st) u18 (q_hl (TD a1 0) (qBu E a1 FUEL 0 u18 h17)) ?_ ?_
  ·rintro v19 rfl st hr;obtain rfl:=oi hm;exact hr
  ·rintro o16 rfl;replace hm:_=some r:=hm;refine s_vn [] 0 ⟨[(2,vi 0)],[]⟩ ?_;obtain rfl:=oi hm;exact q_rt q_rm
end Saw
end Go.SL

import Derived.Test.YthbamnkheinbgaaGreatDoorSBase
import Derived.Test.YthbamnkheinbgaaGreatDoorSFa6
import Derived.Test.YthbamnkheinbgaaGreatDoorSFa4
set_option linter.unusedVariables false
set_option linter.unusedSimpArgs false
namespace Go.SL
namespace Saw
open Go.Proofs Go.Proofs.Tryz
set_option maxHeartbeats 4000000
set_option maxRecDepth 100000
def WF (r:Int):V:=vi r
def WA (r:Int):List (Nat×(Nat×O)):=[]
def QB (a1:List qD) (a2:qD) (x3:Int):St:=
 ⟨[(0,vc (tl qG dd a1)),(3,vp 0 0),(7,vi (a1.length:Int)),(8,vi x3)],[(0,bx 68 (qG a2))]⟩
def XB :St:=
 ⟨[],[]⟩
theorem BM (E:Env 0) (a1:List qD) (a2:qD):∀(n:Nat) (x3:Int) (res:Int⊕Unit),zI a1 a2 n x3=some res->HL (kx E 19 0) (nd f133 52) (jP 0 (λo=>XB) (λv st=>RetQ Tryz.prog f133 (WF v) (WA v) .ret st) res) n (QB a1 a2 x3):=by
 intro n
 induction n with
 |zero=>
  intro x3 res hm;cases hm
 |succ n ih=>
  intro x3 res hm;refine qS (s_va 1 [(9,vb (decide (x3<(a1.length:Int))))] ?_);refine q_sq (q_cq hm (λhm=>?_) (λhm=>?_))
  ·refine q_sk (q_sq ?_);refine q_bk 1 (s_vv [] 1 [9] [(5,vi x3)] ?_);obtain⟨g5,hm⟩:=qJ hm;refine s_du [qi 3 g5] [0,0,0,6,14,31] 1 [] [(16,vb ((a2.Kind==((a1.getD x3.toNat dd).Kind))&&((((a2.Box.X.A==((((a1.getD x3.toNat dd).Box).X).A))&&((a2.Box.X.B==((((a1.getD x3.toNat dd).Box).X).B))&&true))&&(((a2.Box.Y.A==((((a1.getD x3.toNat dd).Box).Y).A))&&((a2.Box.Y.B==((((a1.getD x3.toNat dd).Box).Y).B))&&true))&&(((a2.Box.Z.A==((((a1.getD x3.toNat dd).Box).Z).A))&&((a2.Box.Z.B==((((a1.getD x3.toNat dd).Box).Z).B))&&true))&&true)))&&true)))] [] [] (q_cq hm (λhm=>?_) (λhm=>?_))
   ·refine s_vn [] 1 ⟨[(4,vi x3)],[]⟩ ?_;obtain rfl:=oi hm;refine q_rt (zN x3 ?_);exact q_rm
   ·refine q_sk (q_vv [] 1 [5,8,16] [(8,vi (w64 (x3+1)))] ?_);exact q_hl (QB a1 a2 (w64 (x3+1))) (ih (w64 (x3+1)) _ hm)
  ·refine q_ex 0 ?_;obtain rfl:=oi hm;exact q_l1 ()
theorem LW (a1:List qD) (a2:qD) (r:Int) (hm:yZ a1 a2=some r):CtX Tryz.prog globs 133 0 0 [.one (tl qG dd a1),.agg (qG a2)] [] (WF r) (WA r):=by
 unfold yZ at hm;refine q_E f133 19 λE=>?_;refine s_vn [] 0 ⟨[(0,vc (tl qG dd a1)),(3,vp 0 0)],[(0,bx 68 (qG a2))]⟩ (q_sq ?_);refine s_va 1 [(7,vi (a1.length:Int)),(8,vi 0)] ?_;obtain⟨u9,h8,hm⟩:=qE hm;refine zV (nd f133 52) 0 (by kernel_rfl) FUEL (λo=>XB) (λv st=>RetQ Tryz.prog f133 (WF v) (WA v) .ret st) u9 (q_hl (QB a1 a2 0) (BM E a1 a2 FUEL 0 u9 h8)) ?_ ?_
 ·rintro v10 rfl st hr;obtain rfl:=oi hm;exact hr
 ·rintro o7 rfl;replace hm:_=some r:=hm;refine s_vn [] 1 ⟨[(4,vi (-1))],[]⟩ ?_;obtain rfl:=oi hm;exact q_rt q_rm
def NS (r:Bool):V:=vb r
def NV (r:Bool):List (Nat×(Nat×O)):=[]
theorem BF (a1:List qD) (a2:qD) (r:Bool) (hm:wQ a1 a2=some r):CtX Tryz.prog globs 68 0 0 [.one (tl qG dd a1),.agg (qG a2)] [] (NS r) (NV r):=by
 unfold wQ at hm;refine q_E f68 9 λE=>?_;refine s_vn [] 0 ⟨[(0,vc (tl qG dd a1)),(3,vp 0 0)],[(0,bx 68 (qG a2))]⟩ ?_;obtain⟨v3,h4,hm⟩:=qE hm;refine s_vn [qc 2 [5,6] 1 (LW a1 a2 v3 h4)] 1 ⟨[(4,vb (decide (v3≥0)))],[]⟩ ?_;obtain rfl:=oi hm;exact q_rt q_rm
def SS (r:List qD):V:=vo 0 0 7 r.length
def SH (r:List qD):List (Nat×(Nat×O)):=[(0,ro 0 68 7 r.length (rf qG r))]
theorem LY (a1:List qD) (r:List qD) (hm:jQ a1=some r):CtX Tryz.prog globs 66 0 0 [.one (tl qG dd a1)] [] (SS r) (SH r):=by
 unfold jQ at hm;obtain⟨g1,hm⟩:=qJ hm;obtain rfl:=kB hm;refine AM (fn:=f66) (c:=nd f66 1) (nt:=8) (by kernel_rfl) (by kernel_rfl) (by kernel_rfl) (by kernel_rfl) λE=>?_;refine R_sq f66 2 3 (by kernel_rfl) (R_rn f66 2 0 [] [] 0 ⟨[(0,vc (tl qG dd a1))],[]⟩ o0 (by kernel_rfl) (by kernel_rfl) ?_);refine R_sq f66 6 7 (by kernel_rfl) (R_sq f66 12 13 (by kernel_rfl) ?_);refine R_nil f66 12 1 1 ⟨[(0,vc (tl qG dd a1)),(3,vc (tl qG dd a1))],[]⟩ 23 23 68 4 (.tmp 3) a1.length (rf qG a1) (by kernel_rfl) (by kernel_rfl) (by kernel_rfl) (λb hb=>?_)
 refine R_cn f66 (.tmp 4) 26 27 (by kernel_rfl) b (by kernel_rfl) (λb6=>?_) (λb6=>?_)
 ·obtain rfl:a1=[]:=uK (hb b6);refine R_sq f66 52 53 (by kernel_rfl) (R_rn f66 52 2 [] [.own 2 0 68 7 (rf qG [])] 0 ⟨[(2,vo 0 0 7 0)],[(0,ro 0 68 7 0 (rf qG []))]⟩ o0 (by kernel_rfl) (by kernel_rfl) ?_);exact AS (by kernel_rfl) (LO (by kernel_rfl) (by kernel_rfl))
 ·refine qB9 (by kernel_rfl) (R_sq f66 14 15 (by kernel_rfl) ?_);refine R_rn f66 14 3 [(0,drw 0 0 (rf qG [])),(2,drw 0 1 (rf qG ([]++a1)))] [.len 0 a1.length] 0 ⟨[(2,vo 0 1 7 a1.length)],[(0,ro 1 68 7 a1.length (rf qG ([]++a1)))]⟩ (o1 (And.intro (And.intro (litP qG dd 7 (λ_=>rfl) ([]:List qD) 0 rfl) (apP qG dd ([]:List qD) a1 0 a1.length 7 56 True trivial rfl rfl (λ_=>rfl) (by have:=zR g1;rw[kz];exact this))) (And.intro (And.intro (kz a1.length) (kz a1.length)) (kz a1.length)))) (by kernel_rfl) (by kernel_rfl) (AS (by kernel_rfl) ?_);exact LO (by kernel_rfl) (by kernel_rfl)
open Go.Proofs Go.Proofs.Tryz
def LC (r:Scan×Int):V:= .tup [.agg [.own 0 0 2 r.1.Rings.length,.own 1 0 7 r.1.Defects.length],.one (ci r.2)]
def LT (r:Scan×Int):List (Nat×(Nat×O)):=[(0,ro 0 45 2 r.1.Rings.length (rf qK r.1.Rings)),(1,ro 0 68 7 r.1.Defects.length (rf qG r.1.Defects))]
def WH (a1:Scan):St:=
 ⟨[(2,vp 0 0),(4,vp 2 0),(8,vp 5 0)],[(0,bx 25 (qU a1)),(2,bx 25 [.emp,.emp])]⟩
def UT (a1:Scan) (a2:Scan) (v11:List qD) (x13:Int) (l14:List Ring) (l14n:Nat):St:=
 (WH a1).up [] [(3,vp 1 0),(44,vi (a1.Rings.length:Int)),(45,vi x13)] [] [(1,bx 25 (qU a2)),(3,ro 0 45 2 l14n (rf qK l14)),(4,ro 0 68 7 v11.length (rf qG v11)),(5,bx 25 [.own 3 0 2 l14n,.own 4 0 7 v11.length])]
def HP (a1:Scan) (a2:Scan) (v11:List qD) (l22:List Ring):St:=
 (WH a1).up [] [(3,vp 1 0)] [] [(1,bx 25 (qU a2)),(3,ro 0 45 2 l22.length (rf qK l22)),(4,ro 0 68 7 v11.length (rf qG v11)),(5,bx 25 [.own 3 0 2 l22.length,.own 4 0 7 v11.length])]
def HX (a1:Scan) (a2:Scan) (o23:(List Ring)) (x27:Int) (l35:List qD) (l35n:Nat):St:=
 (WH a1).up [] [(73,vc (tl qG dd a2.Defects)),(74,vi (a2.Defects.length:Int)),(75,vi x27)] [] [(3,ro 0 45 2 o23.length (rf qK o23)),(4,ro 0 68 7 l35n (rf qG l35)),(5,bx 25 [.own 3 0 2 o23.length,.own 4 0 7 l35n])]
def UC (a1:Scan) (a2:Scan) (o23:(List Ring)) (x27:Int) (l28:List qD) (l28n:Nat):St:=
 (WH a1).up [] [(73,vc (tl qG dd a2.Defects)),(74,vi (a2.Defects.length:Int)),(75,vi x27)] [] [(3,ro 0 45 2 o23.length (rf qK o23)),(4,ro 0 68 7 l28n (rf qG l28)),(5,bx 25 [.own 3 0 2 o23.length,.own 4 0 7 l28n])]
def HH (o23:(List Ring)) (l36:List qD):St:=
 ⟨[(4,vp 2 0),(8,vp 5 0)],[(2,bx 25 [.emp,.emp]),(3,ro 0 45 2 o23.length (rf qK o23)),(4,ro 0 68 7 l36.length (rf qG l36)),(5,bx 25 [.own 3 0 2 o23.length,.own 4 0 7 l36.length])]⟩
theorem qBs (E:Env 0) (a1:Scan) (a2:Scan) (v11:List qD):∀(n:Nat) (x13:Int) (l14:List Ring) (l14n:Nat) (res:(Scan×Int)⊕(List Ring)),l14.length=l14n->jY a1 a2 n x13 l14=some res->HL (kx E 97 0) (nd f30 1012) (jP 0 (λo=>HP a1 a2 v11 o) (λv st=>RetQ Tryz.prog f30 (LC v) (LT v) .ret st) res) n (UT a1 a2 v11 x13 l14 l14n):=by
 intro n
 induction n with
 |zero=>
  intro x13 l14 l14n res hl0 hm;cases hm
 |succ n ih=>
  intro x13 l14 l14n res hl0 hm;subst hl0;refine qS (s_va 6 [(46,vb (decide (x13<(a1.Rings.length:Int))))] ?_);refine q_sq (q_cq hm (λhm=>?_) (λhm=>?_))
  ·refine q_sk (q_sq ?_);refine q_bk 1 (s_vv [] 6 [46] [(9,vi x13)] ?_);obtain⟨g16,hm⟩:=qJ hm;obtain⟨g17,hm⟩:=qJ hm;obtain⟨v18,h19,hm⟩:=qE hm;refine s_du [qi 3 g16,qi 8 g17,qc 10 [53,58] 6 (qEj (a1.Rings.getD x13.toNat dd) (a2.Rings.getD x13.toNat dd) v18 h19)] [0,1,0,7,15,0,32,0,224,480,1023,2047,4095,4095,0,24575,65535] 6 [] [(10,vp 7 0),(11,vi v18.2)] [] [(6,ro 0 73 3 v18.1.Read.length (rf qF v18.1.Read)),(7,bx 45 [ci v18.1.Z,.own 6 0 3 v18.1.Read.length])] (q_sq ?_);refine s_va 8 [(63,vb (v18.2 !=0))] (q_cq hm (λhm=>?_) (λhm=>?_))
   ·refine s_vn [] 8 ⟨[(4,vp 2 0),(5,vi v18.2)],[(2,bx 25 [.emp,.emp])]⟩ (q_fu [.ownB 2 0 8 45 2 (rf qK [])] [] [] [2] [(2,bx 25 [.own 8 0 2 0,.emp]),(8,ro 0 45 2 0 (rf qK []))] o0 ?_);refine q_fu [.ownB 2 1 9 68 7 (rf qG [])] [] [] [2] [(2,bx 25 [.own 8 0 2 0,.own 9 0 7 0]),(9,ro 0 68 7 0 (rf qG []))] o0 (q_fu [.len 8 (([]:List Ring).length)] [] [] [2,8] [(2,bx 25 [.own 8 0 2 (([]:List Ring).length),.own 9 0 7 0]),(8,ro 0 45 2 (([]:List Ring).length) (rf qK []))] (o1 (And.intro (show 0=([]:List Ring).length from rfl) (show 0=([]:List Ring).length from rfl))) ?_)
    refine q_fu [.len 9 (([]:List qD).length)] [] [] [2,9] [(2,bx 25 [.own 8 0 2 (([]:List Ring).length),.own 9 0 7 (([]:List qD).length)]),(9,ro 0 68 7 (([]:List qD).length) (rf qG []))] (o1 (And.intro (show 0=([]:List qD).length from rfl) (show 0=([]:List qD).length from rfl))) ?_;obtain rfl:=oi hm;refine q_sw 8 0 (q_sw 9 1 ?_);refine q_rt (zN ((Scan.mk ([]:List Ring) ([]:List qD)),v18.2) ?_);exact q_rm
   ·refine q_sk ?_;obtain⟨g21,hm⟩:=qJ hm;refine q_vu [qi 4 g21,qd 5 (dpr [.frz 6] (drw 0 0 (rf qK (l14.set x13.toNat v18.1)))) (And.intro (kg v18.1.Read.length) (kg v18.1.Read.length)),qd 5 dN (stP qK dd v18.1 l14 l14.length x13.toNat 0 (qK v18.1) rfl (qZ (zG g21)) rfl)] 8 [9,10,11,63] [] [3,6,7] [(3,ro 0 45 2 l14.length (rf qK (l14.set x13.toNat v18.1)))] (q_vv [] 8 [45] [(45,vi (w64 (x13+1)))] ?_);exact q_hl (UT a1 a2 v11 (w64 (x13+1)) (l14.set x13.toNat v18.1) l14.length) (ih (w64 (x13+1)) (l14.set x13.toNat v18.1) l14.length _ (JA rfl) hm)
  ·refine q_ex 0 ?_;obtain rfl:=oi hm;exact q_l1 l14
theorem qBw (E:Env 0) (a1:Scan) (a2:Scan) (o23:(List Ring)):∀(n:Nat) (x27:Int) (l28:List qD) (l28n:Nat) (res:(List qD)),l28.length=l28n->wJ a1 a2 n x27 l28=some res->HL (kx E 97 0) (nd f30 2036) (zQ 2 (λo=>HH o23 o) res) n (UC a1 a2 o23 x27 l28 l28n):=by
 intro n
 induction n with
 |zero=>
  intro x27 l28 l28n res hl0 hm;cases hm
 |succ n ih=>
  intro x27 l28 l28n res hl0 hm;subst hl0;refine qS (s_va 6 [(76,vb (decide (x27<(a2.Defects.length:Int))))] ?_);refine q_sq (q_cq hm (λhm=>?_) (λhm=>?_))
  ·refine q_sk (q_jn (ι:=(List qD)×Nat) (λp=>HX a1 a2 o23 x27 p.1 p.2) (λp=>p.1.length=p.2/\PX x27 (wJ a1 a2 n) p.1=some res) ?_ ?_)
   ·rintro⟨l35,l35n⟩ ⟨el35,hm⟩;replace el35:l35.length=l35n:=el35;subst el35;show H _ (HX a1 a2 o23 x27 l35 l35.length) _ _;exact q_vv [] 8 [75] [(75,vi (w64 (x27+1)))] (q_hl (UC a1 a2 o23 (w64 (x27+1)) l35 l35.length) (ih (w64 (x27+1)) l35 l35.length _ rfl hm))
   ·refine q_bk 3 ?_;obtain⟨g30,hm⟩:=qJ hm;refine s_vu [qi 0 g30] 6 [76] [(13,vp 6 0)] [] [(6,bx 68 (qG (a2.Defects.getD x27.toNat dd)))] ?_;obtain⟨v31,h32,hm⟩:=qE hm;refine s_vv [qc 3 [80,81] 7 (BF a1.Defects (a2.Defects.getD x27.toNat dd) v31 h32)] 7 [] [(83,vb (!v31))] (q_cq hm (λhm=>?_) (λhm=>?_))
    ·obtain⟨g34,hm⟩:=qJ hm;exact q_vu [qd 3 (drw 7 0 (rf qG [(a2.Defects.getD x27.toNat dd)])) (litP qG dd 7 (λ_=>rfl) ([(a2.Defects.getD x27.toNat dd)]:List qD) 1 rfl),qd 4 (drw 4 1 (rf qG (l28++[(a2.Defects.getD x27.toNat dd)]))) (apP qG dd l28 ([(a2.Defects.getD x27.toNat dd)]:List qD) l28.length 1 7 56 (1<=1) (kg _) rfl rfl (λ_=>rfl) (zR g34))] 7 [13,83] [] [4,5,6] [(4,ro 1 68 7 (l28.length+1) (rf qG (l28++[(a2.Defects.getD x27.toNat dd)]))),(5,bx 25 [.own 3 0 2 o23.length,.own 4 1 7 (l28.length+1)])] (q_J ((l28++[(a2.Defects.getD x27.toNat dd)]),(l28.length+1)) ⟨(wB rfl rfl),hm⟩)
    ·exact q_sk (q_J (l28,l28.length) ⟨rfl,hm⟩)
  ·refine q_ex 2 ?_;obtain rfl:=oi hm;exact q_l0
theorem OG (a1:Scan) (a2:Scan) (r:Scan×Int) (hm:KO a1 a2=some r):CtX Tryz.prog globs 30 0 0 [.agg (qU a1),.agg (qU a2)] [] (LC r) (LT r):=by
 unfold KO at hm;refine q_E f30 97 λE=>?_;refine s_vn [] 0 ⟨[(2,vp 0 0),(3,vp 1 0),(4,vp 2 0)],[(0,bx 25 (qU a1)),(1,bx 25 (qU a2)),(2,bx 25 [.emp,.emp])]⟩ (q_sq ?_);obtain⟨v3,h4,hm⟩:=qE hm;refine s_vv [qc 1 [14] 3 (wI a1 v3 h4)] 3 [] [(6,vi v3)] (s_va 3 [(17,vb (v3 !=0))] ?_);refine q_cq hm (λhm=>?_) (λhm=>?_)
 ·refine s_vu [] 3 [2,3,6,17] [(5,vi v3)] [0,1] [] (q_fu [.ownB 2 0 3 45 2 (rf qK [])] [] [] [2] [(2,bx 25 [.own 3 0 2 0,.emp]),(3,ro 0 45 2 0 (rf qK []))] o0 ?_);refine q_fu [.ownB 2 1 4 68 7 (rf qG [])] [] [] [2] [(2,bx 25 [.own 3 0 2 0,.own 4 0 7 0]),(4,ro 0 68 7 0 (rf qG []))] o0 (q_fu [.len 3 (([]:List Ring).length)] [] [] [2,3] [(2,bx 25 [.own 3 0 2 (([]:List Ring).length),.own 4 0 7 0]),(3,ro 0 45 2 (([]:List Ring).length) (rf qK []))] (o1 (And.intro (show 0=([]:List Ring).length from rfl) (show 0=([]:List Ring).length from rfl))) ?_)
  refine q_fu [.len 4 (([]:List qD).length)] [] [] [2,4] [(2,bx 25 [.own 3 0 2 (([]:List Ring).length),.own 4 0 7 (([]:List qD).length)]),(4,ro 0 68 7 (([]:List qD).length) (rf qG []))] (o1 (And.intro (show 0=([]:List qD).length from rfl) (show 0=([]:List qD).length from rfl))) ?_;obtain rfl:=oi hm;refine q_sw 3 0 (q_sw 4 1 ?_);exact q_rt q_rm
 ·refine q_sk (q_sq ?_);obtain⟨v6,h7,hm⟩:=qE hm;refine s_vv [qc 1 [20] 3 (wI a2 v6 h7)] 3 [6,17] [(7,vi v6)] (s_va 3 [(23,vb (v6 !=0))] ?_);refine q_cq hm (λhm=>?_) (λhm=>?_)
  ·refine s_vu [] 3 [2,3,7,23] [(5,vi v6)] [0,1] [] (q_fu [.ownB 2 0 3 45 2 (rf qK [])] [] [] [2] [(2,bx 25 [.own 3 0 2 0,.emp]),(3,ro 0 45 2 0 (rf qK []))] o0 ?_);refine q_fu [.ownB 2 1 4 68 7 (rf qG [])] [] [] [2] [(2,bx 25 [.own 3 0 2 0,.own 4 0 7 0]),(4,ro 0 68 7 0 (rf qG []))] o0 (q_fu [.len 3 (([]:List Ring).length)] [] [] [2,3] [(2,bx 25 [.own 3 0 2 (([]:List Ring).length),.own 4 0 7 0]),(3,ro 0 45 2 (([]:List Ring).length) (rf qK []))] (o1 (And.intro (show 0=([]:List Ring).length from rfl) (show 0=([]:List Ring).length from rfl))) ?_)
   refine q_fu [.len 4 (([]:List qD).length)] [] [] [2,4] [(2,bx 25 [.own 3 0 2 (([]:List Ring).length),.own 4 0 7 (([]:List qD).length)]),(4,ro 0 68 7 (([]:List qD).length) (rf qG []))] (o1 (And.intro (show 0=([]:List qD).length from rfl) (show 0=([]:List qD).length from rfl))) ?_;obtain rfl:=oi hm;refine q_sw 3 0 (q_sw 4 1 ?_);exact q_rt q_rm
  ·refine q_sk (q_sq ?_);refine s_vv [] 3 [7,23] [(32,vb ((a1.Rings.length:Int) !=(a2.Rings.length:Int)))] (q_cq hm (λhm=>?_) (λhm=>?_))
   ·refine s_vu [] 3 [2,3,32] [(5,vi 19)] [0,1] [] (q_fu [.ownB 2 0 3 45 2 (rf qK [])] [] [] [2] [(2,bx 25 [.own 3 0 2 0,.emp]),(3,ro 0 45 2 0 (rf qK []))] o0 ?_);refine q_fu [.ownB 2 1 4 68 7 (rf qG [])] [] [] [2] [(2,bx 25 [.own 3 0 2 0,.own 4 0 7 0]),(4,ro 0 68 7 0 (rf qG []))] o0 (q_fu [.len 3 (([]:List Ring).length)] [] [] [2,3] [(2,bx 25 [.own 3 0 2 (([]:List Ring).length),.own 4 0 7 0]),(3,ro 0 45 2 (([]:List Ring).length) (rf qK []))] (o1 (And.intro (show 0=([]:List Ring).length from rfl) (show 0=([]:List Ring).length from rfl))) ?_)
    refine q_fu [.len 4 (([]:List qD).length)] [] [] [2,4] [(2,bx 25 [.own 3 0 2 (([]:List Ring).length),.own 4 0 7 (([]:List qD).length)]),(4,ro 0 68 7 (([]:List qD).length) (rf qG []))] (o1 (And.intro (show 0=([]:List qD).length from rfl) (show 0=([]:List qD).length from rfl))) ?_;obtain rfl:=oi hm;refine q_sw 3 0 (q_sw 4 1 ?_);exact q_rt q_rm
   ·refine q_sk ?_;obtain⟨g10,hm⟩:=qJ hm;obtain⟨v11,h12,hm⟩:=qE hm
    refine s_du [qd 3 (drw 3 0 (rf qK (List.replicate ((a1.Rings.length:Int).toNat) (Ring.mk 0 ([]:List qB))))) (mkPe qK dd (Ring.mk 0 ([]:List qB)) (a1.Rings.length:Int) 32 [ci 0,.emp] (qAz g10) (.same _ (.emp _ .nil))),qc 6 [39] 4 (LY a1.Defects v11 h12)] [0,1,3,7,0,16,48,127,0,511] 3 [32] [(8,vp 5 0)] [] [(3,ro 0 45 2 ((a1.Rings.length:Int).toNat) (rf qK (List.replicate ((a1.Rings.length:Int).toNat) (Ring.mk 0 ([]:List qB))))),(4,ro 0 68 7 v11.length (rf qG v11)),(5,bx 25 [.own 3 0 2 ((a1.Rings.length:Int).toNat),.own 4 0 7 v11.length])] (q_sq ?_)
    refine s_va 6 [(44,vi (a1.Rings.length:Int)),(45,vi 0)] ?_;obtain⟨u25,h24,hm⟩:=qE hm;refine zV (nd f30 1012) 0 (by kernel_rfl) FUEL (λo=>HP a1 a2 v11 o) (λv st=>RetQ Tryz.prog f30 (LC v) (LT v) .ret st) u25 (q_hl (UT a1 a2 v11 0 (List.replicate ((a1.Rings.length:Int).toNat) (Ring.mk 0 ([]:List qB))) ((a1.Rings.length:Int).toNat)) (qBs E a1 a2 v11 FUEL 0 (List.replicate ((a1.Rings.length:Int).toNat) (Ring.mk 0 ([]:List qB))) ((a1.Rings.length:Int).toNat) u25 qAI h24)) ?_ ?_
    ·rintro v26 rfl st hr;obtain rfl:=oi hm;exact hr
    ·rintro o23 rfl;replace hm:_=some r:=hm;refine q_sq (s_vu [] 6 [3] [(73,vc (tl qG dd a2.Defects)),(74,vi (a2.Defects.length:Int)),(75,vi 0)] [1] [] ?_);obtain⟨o37,h38,hm⟩:=qE hm;refine zL (nd f30 2036) 2 (by kernel_rfl) FUEL (λo=>HH o23 o) o37 (q_hl (UC a1 a2 o23 0 v11 v11.length) (qBw E a1 a2 o23 FUEL 0 v11 v11.length o37 rfl h38)) (q_sq ?_);refine s_va 6 [(94,vb (decide ((o37.length:Int)>64)))] (q_cq hm (λhm=>?_) (λhm=>?_))
     ·refine s_vu [] 6 [8,94] [(5,vi 4)] [3,4,5] [] (q_fu [.ownB 2 0 6 45 2 (rf qK [])] [] [] [2] [(2,bx 25 [.own 6 0 2 0,.emp]),(6,ro 0 45 2 0 (rf qK []))] o0 ?_);refine q_fu [.ownB 2 1 7 68 7 (rf qG [])] [] [] [2] [(2,bx 25 [.own 6 0 2 0,.own 7 0 7 0]),(7,ro 0 68 7 0 (rf qG []))] o0 (q_fu [.len 6 (([]:List Ring).length)] [] [] [2,6] [(2,bx 25 [.own 6 0 2 (([]:List Ring).length),.own 7 0 7 0]),(6,ro 0 45 2 (([]:List Ring).length) (rf qK []))] (o1 (And.intro (show 0=([]:List Ring).length from rfl) (show 0=([]:List Ring).length from rfl))) ?_)
      refine q_fu [.len 7 (([]:List qD).length)] [] [] [2,7] [(2,bx 25 [.own 6 0 2 (([]:List Ring).length),.own 7 0 7 (([]:List qD).length)]),(7,ro 0 68 7 (([]:List qD).length) (rf qG []))] (o1 (And.intro (show 0=([]:List qD).length from rfl) (show 0=([]:List qD).length from rfl))) ?_;obtain rfl:=oi hm;refine q_sw 6 0 (q_sw 7 1 ?_);exact q_rt q_rm
     ·refine q_sk (s_vu [] 6 [8,94] [(5,vi 0)] [2,5] [(2,bx 25 [.own 3 0 2 o23.length,.own 4 0 7 o37.length])] ?_);obtain rfl:=oi hm;refine q_sw 3 0 (q_sw 4 1 ?_);exact q_rt q_rm
end Saw
end Go.SL

import Derived.Test.YthbamnkheinbgaaGreatDoorSBase
import Derived.Test.YthbamnkheinbgaaGreatDoorSFa4
import Derived.Test.YthbamnkheinbgaaGreatDoorSFa2
import Derived.Test.YthbamnkheinbgaaGreatDoorYa6
import Derived.Shelf.Strings.Builder1
import Derived.WalkKit
import Derived.Lib.Walk
import Derived.Lib.AppendStr
import Derived.Shelf.Lay
import Derived.Ground.NamesProg
set_option linter.unusedVariables false
set_option linter.unusedSimpArgs false
namespace Go.SL
namespace Saw
open Go.Proofs Go.Proofs.Tryz
set_option maxHeartbeats 4000000
set_option maxRecDepth 100000
def XS (r:(List qT)×Int):V:= .tup [.one (.own 0 0 3 r.1.length),.one (ci r.2)]
def KL (r:(List qT)×Int):List (Nat×(Nat×O)):=[(0,ro 0 50 3 r.1.length (rf zB r.1))]
def LS (a1:Scan) (a2:Int) (a3:Int) (l8:List qB) (l8n:Nat) (x9:Int):St:=
 ⟨[(1,vi a2),(2,vi a3),(3,vp 0 0),(9,vo 1 0 2 l8n),(27,vi (a1.Rings.length:Int)),(28,vi x9)],[(0,bx 25 (qX a1)),(1,ro 0 48 2 l8n (rf qL l8))]⟩
def qA2 (a1:Scan) (l16:List qB):St:=
 ⟨[(3,vp 0 0),(9,vo 1 0 2 l16.length)],[(0,bx 25 (qX a1)),(1,ro 0 48 2 l16.length (rf qL l16))]⟩
def FM (a1:Scan) (o17:(List qB)) (l22:List qT) (l22n:Nat) (x23:Int):St:=
 ⟨[(3,vp 0 0),(9,vo 1 0 2 o17.length),(13,vo 2 0 3 l22n),(55,vi (((w64 ((a1.Rings.length:Int)-1)).toNat:Nat):Int)),(56,vi x23)],[(0,bx 25 (qX a1)),(1,ro 0 48 2 o17.length (rf qL o17)),(2,ro 0 50 3 l22n (rf zB l22))]⟩
def qBd (l36:List qT):St:=
 ⟨[(13,vo 2 0 3 l36.length)],[(2,ro 0 50 3 l36.length (rf zB l36))]⟩
theorem qGH (E:Env 0) (a1:Scan) (a2:Int) (a3:Int):∀(n:Nat) (l8:List qB) (l8n:Nat) (x9:Int) (res:((List qT)×Int)⊕(List qB)),l8.length=l8n->JZ a1 a2 a3 n l8 x9=some res->HL (kx E 94 0) (nd f16 244) (jS 0 (λo=>qA2 a1 o) (λv st=>RetQ Tryz.prog f16 (XS v) (KL v) .ret st) res) n (LS a1 a2 a3 l8 l8n x9):=by
 intro n
 induction n with
 |zero=>
  intro l8 l8n x9 res hl0 hm;cases hm
 |succ n ih=>
  intro l8 l8n x9 res hl0 hm;subst hl0;refine qS (s_va 2 [(29,vb (decide (x9<(a1.Rings.length:Int))))] ?_);refine q_sq (q_cq hm (λhm=>?_) (λhm=>?_))
  ·refine q_sk (q_sq ?_);refine q_bk 1 (s_vv [] 2 [29] [(10,vi x9)] ?_);obtain⟨g11,hm⟩:=qK hm;obtain⟨v12,h13,hm⟩:=qE hm;refine s_vu [qi 3 g11,qc 7 [36,37,38] 2 (qFG (a1.Rings.getD x9.toNat dd) a2 a3 v12 h13)] 2 [] [(11,vp 3 0),(12,vi v12.2)] [] [(2,ro 0 64 2 v12.1.Rows.length (rf qG v12.1.Rows)),(3,bx 48 [ci v12.1.Low,.own 2 0 2 v12.1.Rows.length])] (q_sq ?_);refine s_vv [] 4 [12] [(43,vb (v12.2 !=0))] (q_cq hm (λhm=>?_) (λhm=>?_))
   ·refine s_vn [] 4 ⟨[(6,vc (.emp)),(7,vi 30)],[]⟩ (q_fo 6 4 50 3 zB ?_);refine q_fl 6 4 50 3 zB ?_;obtain rfl:=oi hm;refine q_sw 4 0 (q_rt ?_);exact zZ (([]:List qT),30) q_rm
   ·refine q_sk ?_;obtain⟨g15,hm⟩:=qK hm;refine q_vu [qi 3 g15,qd 4 (dpr [.frz 2] (drw 0 0 (rf qL (l8.set x9.toNat v12.1)))) (And.intro (kr v12.1.Rows.length) (kr v12.1.Rows.length)),qd 4 dN (stP qL dd v12.1 l8 l8.length x9.toNat 0 (qL v12.1) rfl (qW (zG g15)) rfl)] 4 [10,11,43] [] [1,2,3] [(1,ro 0 48 2 l8.length (rf qL (l8.set x9.toNat v12.1)))] (q_vv [] 4 [28] [(28,vi (w64 (x9+1)))] ?_);exact q_hl (LS a1 a2 a3 (l8.set x9.toNat v12.1) l8.length (w64 (x9+1))) (ih (l8.set x9.toNat v12.1) l8.length (w64 (x9+1)) _ (QT rfl) hm)
  ·refine q_ex 0 ?_;obtain rfl:=oi hm;exact q_l1 l8
theorem qHl (E:Env 0) (a1:Scan) (o17:(List qB)):∀(n:Nat) (l22:List qT) (l22n:Nat) (x23:Int) (res:((List qT)×Int)⊕(List qT)),l22.length=l22n->YG a1 o17 n l22 x23=some res->HL (kx E 94 0) (nd f16 1012) (jS 2 qBd (λv st=>RetQ Tryz.prog f16 (XS v) (KL v) .ret st) res) n (FM a1 o17 l22 l22n x23):=by
 intro n
 induction n with
 |zero=>
  intro l22 l22n x23 res hl0 hm;cases hm
 |succ n ih=>
  intro l22 l22n x23 res hl0 hm;subst hl0;refine qS (s_va 3 [(57,vb (decide (x23<(((w64 ((a1.Rings.length:Int)-1)).toNat:Nat):Int))))] ?_);refine q_sq (q_cq hm (λhm=>?_) (λhm=>?_))
  ·refine q_sk (q_sq ?_);refine q_bk 3 (s_vv [] 3 [57] [(14,vi x23)] ?_);obtain⟨g25,hm⟩:=qK hm;obtain⟨g26,hm⟩:=qK hm;obtain⟨v27,h28,hm⟩:=qE hm;refine s_du [qi 2 g25,qd 3 dN (qW (zG g25)),qi 7 g26,qd 8 dN (qW (zG g26)),qc 9 [62,67] 3 (qIE (o17.getD x23.toNat dd) (o17.getD ((w64 (x23+1)).toNat) dd) v27 h28)] [0,0,3,7,0,0,32,112,240,511,0,2047] 3 [] [(15,vp 4 0)] [] [(3,ro 0 64 2 v27.Rows.length (rf qG v27.Rows)),(4,bx 48 [ci v27.Low,.own 3 0 2 v27.Rows.length])] (q_sq ?_);refine s_va 5 [(72,vb ((v27.Rows.length:Int)==0))] (q_cq hm (λhm=>?_) (λhm=>?_))
   ·refine s_vn [] 5 ⟨[(6,vc (.emp)),(7,vi 30)],[]⟩ (q_fo 6 5 50 3 zB ?_);refine q_fl 6 5 50 3 zB ?_;obtain rfl:=oi hm;refine q_sw 5 0 (q_rt ?_);exact zZ (([]:List qT),30) q_rm
   ·refine q_sk ?_;obtain⟨g33,hm⟩:=qK hm;obtain⟨g34,hm⟩:=qK hm;obtain⟨g35,hm⟩:=qK hm
    refine q_xu [.frz 3] (o1 (kr v27.Rows.length)) [qi 6 g33,qi 12 g34,qi 18 g35,qd 19 (drw 0 0 (rf zB (l22.set x23.toNat (qT.mk (w64 (((a1.Rings.getD (w64 (x23+1)).toNat dd).Z)-((a1.Rings.getD x23.toNat dd).Z))) v27)))) (stP zB dd (qT.mk (w64 (((a1.Rings.getD (w64 (x23+1)).toNat dd).Z)-((a1.Rings.getD x23.toNat dd).Z))) v27) l22 l22.length x23.toNat 0 [ci (w64 (((a1.Rings.getD (w64 (x23+1)).toNat dd).Z)-((a1.Rings.getD x23.toNat dd).Z))),ci v27.Low,tl qG dd v27.Rows] rfl (qW (zG g35)) rfl)] [] o0 [0,0,0,4,0,16,60,124,252,0,512,0,3584,7680,15872,32764,0,131068,262143,524287] 5 [14,15,72] [] [2,3,4] [(2,ro 0 50 3 l22.length (rf zB (l22.set x23.toNat (qT.mk (w64 (((a1.Rings.getD (w64 (x23+1)).toNat dd).Z)-((a1.Rings.getD x23.toNat dd).Z))) v27))))] ?_
    exact q_vv [] 5 [56] [(56,vi (w64 (x23+1)))] (q_hl (FM a1 o17 (l22.set x23.toNat (qT.mk (w64 (((a1.Rings.getD (w64 (x23+1)).toNat dd).Z)-((a1.Rings.getD x23.toNat dd).Z))) v27)) l22.length (w64 (x23+1))) (ih (l22.set x23.toNat (qT.mk (w64 (((a1.Rings.getD (w64 (x23+1)).toNat dd).Z)-((a1.Rings.getD x23.toNat dd).Z))) v27)) l22.length (w64 (x23+1)) _ (QT rfl) hm))
  ·refine q_ex 2 ?_;obtain rfl:=oi hm;exact q_l1 l22
theorem IM (a1:Scan) (a2:Int) (a3:Int) (r:(List qT)×Int) (hm:yW a1 a2 a3=some r):CtX Tryz.prog globs 16 0 0 [.agg (qX a1),.one (ci a2),.one (ci a3)] [] (XS r) (KL r):=by
 unfold yW at hm;refine q_E f16 94 λE=>?_;refine s_vn [] 0 ⟨[(1,vi a2),(2,vi a3),(3,vp 0 0)],[(0,bx 25 (qX a1))]⟩ (q_sq ?_);obtain⟨v4,h5,hm⟩:=qE hm;refine s_vv [qc 1 [16] 1 (QE a1 v4 h5)] 1 [] [(8,vi v4)] (s_va 1 [(19,vb (v4 !=0))] ?_);refine q_cq hm (λhm=>?_) (λhm=>?_)
 ·refine s_vn [] 1 ⟨[(6,vc (.emp)),(7,vi v4)],[]⟩ (q_fo 6 1 50 3 zB ?_);refine q_fl 6 1 50 3 zB ?_;obtain rfl:=oi hm;exact q_sw 1 0 (q_rt q_rm)
 ·refine q_sk ?_;obtain⟨g7,hm⟩:=qK hm;refine s_vu [qd 3 (drw 1 0 (rf qL (List.replicate ((a1.Rings.length:Int).toNat) (qB.mk 0 ([]:List Span))))) (mkPe qL dd (qB.mk 0 ([]:List Span)) (a1.Rings.length:Int) 32 [ci 0,.emp] (HK g7) (.same _ (.emp _ .nil)))] 1 [8,19] [(9,vo 1 0 2 ((a1.Rings.length:Int).toNat))] [] [(1,ro 0 48 2 ((a1.Rings.length:Int).toNat) (rf qL (List.replicate ((a1.Rings.length:Int).toNat) (qB.mk 0 ([]:List Span)))))] (q_sq ?_);refine s_va 2 [(27,vi (a1.Rings.length:Int)),(28,vi 0)] ?_;obtain⟨u19,h18,hm⟩:=qE hm
  refine wJ (nd f16 244) 0 (by kernel_rfl) FUEL (λo=>qA2 a1 o) (λv st=>RetQ Tryz.prog f16 (XS v) (KL v) .ret st) u19 (q_hl (LS a1 a2 a3 (List.replicate ((a1.Rings.length:Int).toNat) (qB.mk 0 ([]:List Span))) ((a1.Rings.length:Int).toNat) 0) (qGH E a1 a2 a3 FUEL (List.replicate ((a1.Rings.length:Int).toNat) (qB.mk 0 ([]:List Span))) ((a1.Rings.length:Int).toNat) 0 u19 MU h18)) ?_ ?_
  ·rintro v20 rfl st hr;obtain rfl:=oi hm;exact hr
  ·rintro o17 rfl;replace hm:_=some r:=hm;obtain⟨g21,hm⟩:=qK hm;refine s_vu [qd 4 (drw 2 0 (rf zB (List.replicate ((w64 ((a1.Rings.length:Int)-1)).toNat) (qT.mk 0 (qB.mk 0 ([]:List Span)))))) (mkPe zB dd (qT.mk 0 (qB.mk 0 ([]:List Span))) (w64 ((a1.Rings.length:Int)-1)) 40 [ci 0,ci 0,.emp] (HK g21) (.same _ (.same _ (.emp _ .nil))))] 2 [] [(13,vo 2 0 3 ((w64 ((a1.Rings.length:Int)-1)).toNat))] [] [(2,ro 0 50 3 ((w64 ((a1.Rings.length:Int)-1)).toNat) (rf zB (List.replicate ((w64 ((a1.Rings.length:Int)-1)).toNat) (qT.mk 0 (qB.mk 0 ([]:List Span))))))] (q_sq ?_)
   refine s_va 3 [(55,vi (((w64 ((a1.Rings.length:Int)-1)).toNat:Nat):Int)),(56,vi 0)] ?_;obtain⟨u39,h38,hm⟩:=qE hm;refine wJ (nd f16 1012) 2 (by kernel_rfl) FUEL qBd (λv st=>RetQ Tryz.prog f16 (XS v) (KL v) .ret st) u39 (q_hl (FM a1 o17 (List.replicate ((w64 ((a1.Rings.length:Int)-1)).toNat) (qT.mk 0 (qB.mk 0 ([]:List Span)))) ((w64 ((a1.Rings.length:Int)-1)).toNat) 0) (qHl E a1 o17 FUEL (List.replicate ((w64 ((a1.Rings.length:Int)-1)).toNat) (qT.mk 0 (qB.mk 0 ([]:List Span)))) ((w64 ((a1.Rings.length:Int)-1)).toNat) 0 u39 MU h38)) ?_ ?_
   ·rintro v40 rfl st hr;obtain rfl:=oi hm;exact hr
   ·rintro o37 rfl;replace hm:_=some r:=hm;refine s_vv [] 3 [13] [(6,vo 2 0 3 o37.length),(7,vi 0)] ?_;obtain rfl:=oi hm;exact q_sw 2 0 (q_rt q_rm)
def qEg (r:(List Int)):V:=vo 0 0 1 r.length
def qEc (r:(List Int)):List (Nat×(Nat×O)):=[(0,ro 0 3 1 r.length (rf qO r))]
def DP (a1:List qD) (x3:Int) (l9:List Int) (l9n:Nat):St:=
 ⟨[(3,vo 0 0 1 l9n),(6,vc (tl qH dd a1)),(7,vi (a1.length:Int)),(8,vi x3)],[(0,ro 0 3 1 l9n (rf qO l9))]⟩
def XI (a1:List qD) (l2:List Int) (l2n:Nat) (x3:Int):St:=
 ⟨[(3,vo 0 0 1 l2n),(6,vc (tl qH dd a1)),(7,vi (a1.length:Int)),(8,vi x3)],[(0,ro 0 3 1 l2n (rf qO l2))]⟩
def DM (l10:List Int):St:=
 ⟨[(3,vo 0 0 1 l10.length)],[(0,ro 0 3 1 l10.length (rf qO l10))]⟩
theorem qAF (E:Env 0) (a1:List qD):∀(n:Nat) (l2:List Int) (l2n:Nat) (x3:Int) (res:(List Int)),l2.length=l2n->yP a1 n l2 x3=some res->HL (kx E 28 0) (nd f50 116) (zS 0 DM res) n (XI a1 l2 l2n x3):=by
 intro n
 induction n with
 |zero=>
  intro l2 l2n x3 res hl0 hm;cases hm
 |succ n ih=>
  intro l2 l2n x3 res hl0 hm;subst hl0;refine qS (s_va 1 [(9,vb (decide (x3<(a1.length:Int))))] ?_);refine q_sq (q_cq hm (λhm=>?_) (λhm=>?_))
  ·refine q_sk (q_jn (ι:=(List Int)×Nat) (λp=>DP a1 x3 p.1 p.2) (λp=>p.1.length=p.2/\PQ x3 (yP a1 n) p.1=some res) ?_ ?_)
   ·rintro⟨l9,l9n⟩ ⟨el9,hm⟩;replace el9:l9.length=l9n:=el9;subst el9;show H _ (DP a1 x3 l9 l9.length) _ _;exact q_vv [] 3 [8] [(8,vi (w64 (x3+1)))] (q_hl (XI a1 l9 l9.length (w64 (x3+1))) (ih l9 l9.length (w64 (x3+1)) _ rfl hm))
   ·refine q_bk 1 ?_;obtain⟨g5,hm⟩:=qK hm;refine s_vu [qi 0 g5] 1 [9] [(5,vp 1 0)] [] [(1,bx 73 (qH (a1.getD x3.toNat dd)))] (s_va 2 [(13,vb ((a1.getD x3.toNat dd).Ok))] ?_);refine q_cq hm (λhm=>?_) (λhm=>?_)
    ·obtain⟨g7,hm⟩:=qK hm
     exact q_vu [qd 7 (drw 2 0 (rf qO [1,((a1.getD x3.toNat dd).P).X,((a1.getD x3.toNat dd).P).Y])) (litP qO dd 1 (λ_=>rfl) ([1,((a1.getD x3.toNat dd).P).X,((a1.getD x3.toNat dd).P).Y]:List Int) 3 rfl),qd 8 (drw 0 1 (rf qO (l2++[1,((a1.getD x3.toNat dd).P).X,((a1.getD x3.toNat dd).P).Y]))) (apP qO dd l2 ([1,((a1.getD x3.toNat dd).P).X,((a1.getD x3.toNat dd).P).Y]:List Int) l2.length 3 1 8 (3<=3) (kr _) rfl rfl (λ_=>rfl) (zW g7))] 2 [3,5,13] [(3,vo 0 1 1 (l2.length+3))] [0,1] [(0,ro 1 3 1 (l2.length+3) (rf qO (l2++[1,((a1.getD x3.toNat dd).P).X,((a1.getD x3.toNat dd).P).Y])))] (q_J ((l2++[1,((a1.getD x3.toNat dd).P).X,((a1.getD x3.toNat dd).P).Y]),(l2.length+3)) ⟨(wN rfl rfl),hm⟩)
    ·obtain⟨g8,hm⟩:=qK hm;exact q_vu [qd 1 (drw 2 0 (rf qO [0])) (litP qO dd 1 (λ_=>rfl) ([0]:List Int) 1 rfl),qd 2 (drw 0 1 (rf qO (l2++[0]))) (apP qO dd l2 ([0]:List Int) l2.length 1 1 8 (1<=1) (kr _) rfl rfl (λ_=>rfl) (zW g8))] 2 [3,5,13] [(3,vo 0 1 1 (l2.length+1))] [0,1] [(0,ro 1 3 1 (l2.length+1) (rf qO (l2++[0])))] (q_J ((l2++[0]),(l2.length+1)) ⟨(wN rfl rfl),hm⟩)
  ·refine q_ex 0 ?_;obtain rfl:=oi hm;exact q_l0
theorem qDf (a1:List qD) (r:(List Int)) (hm:GU a1=some r):CtX Tryz.prog globs 50 0 0 [.one (tl qH dd a1)] [] (qEg r) (qEc r):=by
 unfold GU at hm;refine q_E f50 28 λE=>?_;refine s_vn [] 0 ⟨[(0,vc (tl qH dd a1))],[]⟩ (s_va 0 [(3,vc (.emp))] ?_);refine q_sq (s_vv [] 0 [0] [(6,vc (tl qH dd a1)),(7,vi (a1.length:Int)),(8,vi 0)] ?_);refine q_fo 3 0 3 1 qO ?_;obtain⟨o11,h12,hm⟩:=qE hm;refine zL (nd f50 116) 0 (by kernel_rfl) FUEL DM o11 (q_hl (XI a1 ([]:List Int) 0 0) (qAF E a1 FUEL ([]:List Int) 0 0 o11 rfl h12)) (s_vv [] 1 [3] [(2,vo 0 0 1 o11.length)] ?_);obtain rfl:=oi hm;exact q_rt q_rm
def qNM (r:ByteArray):V:=vc (cs r)
def qNG (r:ByteArray):List (Nat×(Nat×O)):=[]
def HE (x2:Int) (l3:List Int) (l3n:Nat):St:=
 ⟨[(0,vc (.val (.int .u64 x2))),(3,vo 0 0 1 l3n)],[(0,ro 0 5 1 l3n (rf e_u8 l3))]⟩
def qCc (x6:Int) (l7:List Int):St:=
 ⟨[(0,vc (.val (.int .u64 x6))),(3,vo 0 0 1 l7.length)],[(0,ro 0 5 1 l7.length (rf e_u8 l7))]⟩
theorem qIh (E:Env 0):∀(n:Nat) (x2:Int) (l3:List Int) (l3n:Nat) (res:Int×(List Int)),l3.length=l3n->OX n x2 l3=some res->HL (kx E 20 0) (nd f102 56) (zS 0 (λo=>qCc o.1 o.2) res) n (HE x2 l3 l3n):=by
 intro n
 induction n with
 |zero=>
  intro x2 l3 l3n res hl0 hm;cases hm
 |succ n ih=>
  intro x2 l3 l3n res hl0 hm;subst hl0;refine qS (q_sq ?_);refine s_va 1 [(5,vb (decide (x2≥128)))] (q_cq hm (λhm=>?_) (λhm=>?_))
  ·refine q_sk (q_bk 1 ?_);obtain⟨g5,hm⟩:=qK hm
   refine s_vu [qd 4 (drw 1 0 (rf e_u8 [orI .u8 (IntKind.u8.wrap (x2)) 128])) (litP e_u8 dd 1 (λ_=>rfl) ([orI .u8 (IntKind.u8.wrap (x2)) 128]:List Int) 1 rfl),qd 5 (drw 0 1 (rf e_u8 (l3++[orI .u8 (IntKind.u8.wrap (x2)) 128]))) (apP e_u8 dd l3 ([orI .u8 (IntKind.u8.wrap (x2)) 128]:List Int) l3.length 1 1 1 (1<=1) (kr _) rfl rfl (λ_=>rfl) (zW g5))] 1 [3,5] [(3,vo 0 1 1 (l3.length+1))] [0] [(0,ro 1 5 1 (l3.length+1) (rf e_u8 (l3++[orI .u8 (IntKind.u8.wrap (x2)) 128])))] (q_vv [qd 1 dN (show¬(7:Int)<0 by decide)] 2 [0] [(0,vc (.val (.int .u64 (shrI .u64 x2 7))))] ?_)
   exact q_hl (HE (shrI .u64 x2 7) (l3++[orI .u8 (IntKind.u8.wrap (x2)) 128]) (l3.length+1)) (ih (shrI .u64 x2 7) (l3++[orI .u8 (IntKind.u8.wrap (x2)) 128]) (l3.length+1) _ (wN rfl rfl) hm)
  ·refine q_ex 0 ?_;obtain rfl:=oi hm;exact q_l0
theorem CL (a1:Int) (r:ByteArray) (hm:FE a1=some r):CtX Tryz.prog globs 102 0 0 [.one (.val (.int .u64 a1))] [] (qNM r) (qNG r):=by
 unfold FE at hm;refine q_E f102 20 λE=>?_;refine s_vn [] 0 ⟨[(0,vc (.val (.int .u64 a1)))],[]⟩ (s_va 0 [(3,vc (.emp))] ?_);refine q_sq (q_fo 3 0 5 1 e_u8 ?_);obtain⟨o8,h9,hm⟩:=qE hm;refine zL (nd f102 56) 0 (by kernel_rfl) FUEL (λo=>qCc o.1 o.2) o8 (q_hl (HE a1 ([]:List Int) 0) (qIh E FUEL a1 ([]:List Int) 0 o8 rfl h9)) ?_;obtain⟨g10,hm⟩:=qK hm
 refine s_vn [qd 3 (drw 1 0 (rf e_u8 [IntKind.u8.wrap (o8.1)])) (litP e_u8 dd 1 (λ_=>rfl) ([IntKind.u8.wrap (o8.1)]:List Int) 1 rfl),qd 4 (drw 0 1 (rf e_u8 (o8.2++[IntKind.u8.wrap (o8.1)]))) (apP e_u8 dd o8.2 ([IntKind.u8.wrap (o8.1)]:List Int) o8.2.length 1 1 1 (1<=1) (kr _) rfl rfl (λ_=>rfl) (zW g10)),qd 5 dN (And.intro (kr (o8.2.length+1)) (u8all (o8.2++[IntKind.u8.wrap (o8.1)]) (o8.2.length+1)))] 1 ⟨[(2,vc (cs (strTk (o8.2.length+1) (o8.2++[IntKind.u8.wrap (o8.1)]))))],[]⟩ ?_;obtain rfl:=oi hm;exact q_rt q_rm
open Go.Proofs Go.Proofs.Tryz
def qO5 (r:ByteArray):V:=vc (cs r)
def qON (r:ByteArray):List (Nat×(Nat×O)):=[]
theorem qNk (a1:Int) (r:ByteArray) (hm:CV a1=some r):CtX Tryz.prog globs 103 0 0 [.one (ci a1)] [] (qO5 r) (qON r):=by
 unfold CV at hm;refine q_E f103 15 λE=>?_;refine s_vn [] 0 ⟨[(0,vi a1)],[]⟩ (q_sq ?_);refine s_va 0 [(4,vb (decide (a1<0)))] (q_cq hm (λhm=>?_) (λhm=>?_))
 ·obtain⟨v3,h4,hm⟩:=qE hm;refine s_vn [qd 3 dN (show¬(1:Int)<0 by decide),qc 5 [9] 0 (CL (orI .u64 (shlI .u64 (notI .u64 (IntKind.u64.wrap (a1))) 1) 1) v3 h4)] 0 ⟨[(2,vc (cs v3))],[]⟩ ?_;obtain rfl:=oi hm;exact q_rt q_rm
 ·refine q_sk ?_;obtain⟨v5,h6,hm⟩:=qE hm;refine s_vn [qd 2 dN (show¬(1:Int)<0 by decide),qc 3 [13] 0 (CL (shlI .u64 (IntKind.u64.wrap (a1)) 1) v5 h6)] 0 ⟨[(2,vc (cs v5))],[]⟩ ?_;obtain rfl:=oi hm;exact q_rt q_rm
open Go.Proofs
def EM (r:ByteArray):V:=vc (cs r)
def DF (r:ByteArray):List (Nat×(Nat×O)):=[]
theorem qB0 (r:ByteArray):QM (DF r):=by
 intro i k o h;cases h
open Go.RowKit
theorem wi_used (b:Nat) (w:World) (h0:w.cell? ⟨b,0,none⟩=some (.pointer (some ⟨b,0,none⟩))):
  Calls Tryz.prog 158 #[.pointer (some ⟨b,0,none⟩)] w λe w'=>e= .returned (.tuple #[])/\w'=w:=by
 obtain⟨j,hj,_⟩:=kB.1 (show(Tryz.prog.info? 120).map (·.size)=some 2 by kernel_rfl)
 go_enter Tryz.func158,Tryz.ntmps158
 go_wp2
 rw[Lib.run_neq_ptr_same w _ (show Tryz.prog.underlying 117=some (.pointer 120) by kernel_rfl) hj]
 go_wp2
 go_end0
 exact⟨rfl,rfl⟩
theorem qRc (b:Nat) (w:World) (h0:w.cell? ⟨b,0,none⟩=some (.pointer none)) (hsh:w.shape? b=some (120,2)) (hfz:w.frozen? ⟨b,0,none⟩=false):
  Calls Tryz.prog 158 #[.pointer (some ⟨b,0,none⟩)] w λe w'=>e= .returned (.tuple #[])/\w'=w.setCell ⟨b,0,none⟩ (.pointer (some ⟨b,0,none⟩)):=by
 obtain⟨j,hj,hjs⟩:=kB.1 (show(Tryz.prog.info? 120).map (·.size)=some 2 by kernel_rfl);have u1:Tryz.prog.underlying 117=some (.pointer 120):=by kernel_rfl
 have u2:Tryz.prog.underlying 194=some .unsafePointer:=by kernel_rfl
 have hlies:liesAt Tryz.prog Tryz.prog.depth 120 (2/Tryz.prog.cellsOf 120) 0 120 1=true:=by kernel_rfl
 go_enter Tryz.func158,Tryz.ntmps158
 go_wp2
 rw[Lib.run_to_unsafe w ⟨b,0,none⟩ u1 u2 hj (by rw[hjs];decide) hsh (Nat.zero_lt_succ 1)];simp only[Result.andThen];rw[Oper.upon_value]
 go_wp2
 rw[run_callFunc_extern Tryz.func184 (by kernel_rfl) (by kernel_rfl) (by kernel_rfl) (e:=Extern.AbiNoEscape.same) (by kernel_rfl)];rw[Lib.run_noEscape];simp only[Result.andThen];rw[Oper.upon_value]
 go_wp2
 rw[Lib.run_from_unsafe w ⟨b,0,none⟩ u2 u1 hj hsh hlies];simp only[Result.andThen];rw[Oper.upon_value]
 go_wp2
 go_end0
 exact⟨rfl,rfl⟩
theorem wi_cc (B b:Nat) (bs:List Value) (w:World) (h:Lib.IsBuilder 120 5 B b bs w):
  Calls Tryz.prog 158 #[.pointer (some ⟨b,0,none⟩)] w λe w'=>e= .returned (.tuple #[])/\Lib.BuilderAt 120 5 B b (.pointer (some ⟨b,0,none⟩)) bs w'/\Below B w w':=by
 rcases h with h|h
 ·exact(qRc b w h.cell0 h.shape h.frozen0).mono λe w' ⟨h1,h2⟩=>⟨h1,by rw[h2];exact h.used _,by rw[h2];exact(Below.refl B w).setCell (p:=⟨b,0,none⟩) h.1 _⟩
 ·exact(wi_used b w h.cell0).mono λe w' ⟨h1,h2⟩=>⟨h1,by rw[h2];exact h,by rw[h2];exact Below.refl B w⟩
theorem wi_u8 :∃i,Tryz.prog.info? 5=some i/\i.zero=some (.int .u8 0)/\i.size=1/\i.bytes=1:=by
 obtain⟨i,h1,h2⟩:=kB.1 (show(Tryz.prog.info? 5).map (λi=>(i.zero,i.size,i.bytes))=some (some (.int .u8 0),1,1) by kernel_rfl);exact⟨i,h1,by simpa using congrArg (·.1) h2,by simpa using congrArg (·.2.1) h2,by simpa using congrArg (·.2.2) h2⟩
theorem wi_ws (B b:Nat) (bs:List Value) (s:ByteArray) (w:World) (h:Lib.IsBuilder 120 5 B b bs w) (hlen:bs.length+s.size<=140737488355328) (hBw:B<=w.heap.size):
  Calls Tryz.prog 101 #[.pointer (some ⟨b,0,none⟩),.string s] w λe w'=>e= .returned (.tuple #[.int .i64 s.size,.nilIface])/\Lib.BuilderAt 120 5 B b (.pointer (some ⟨b,0,none⟩)) (bs++Lib.strCells s) w'/\Below B w w':=by
 obtain⟨i0,hi,hz0,hz1,hz2⟩:=wi_u8;have e_fc:∀args w,(callFunc 158 args).run Tryz.prog w= .ok (.enter 158 args) w:=enters_of Tryz.func158 (by kernel_rfl) rfl
 go_enter Tryz.func101,Tryz.ntmps101
 go_wp2_with (go_at_fn 158;refine(wi_cc B b bs _ h).mono ?_)
 rintro e w1 ⟨rfl,h1,hb1⟩;obtain⟨hB,v,hbk,hown,hne⟩:=h1;have c1:w1.cell? ⟨b,1,none⟩=some v:=by rw[Lib.cell_of_heap hbk];rfl
 go_wp2_with (at_builtin;refine Lib.wpList_append_own_string _ rfl _ _ 118 9 rfl B 5 i0 (by kernel_rfl) (by kernel_rfl) hi hz0 hz1 hz2 _ _ _ rfl hown s rfl ?c3 ?c4 ?c5 ?_)
 case c3=>unfold maxLen;omega
 case c4=>omega
 case c5=>have:=hb1.size;omega
 intro v' w2 hown' hgrow _;have hlt:b<w1.heap.size:=(kC.1 hbk).1;have hb2:w2.heap[b]? =some (.cells #[.pointer (some ⟨b,0,none⟩),v] 120 (0,0)):=by
  rw[hgrow.block b hlt (λe=>hne e.symm)];exact hbk
 have d1:w2.cell? ⟨b,1,none⟩=some v:=by rw[Lib.cell_of_heap hb2];rfl
 have f1:w2.frozen? ⟨b,1,none⟩=false:=Lib.frozen_of_heap hb2 1;obtain⟨ao,n',cap,rfl⟩:∃ao n' cap,v'= .slice ao n' cap:=by
  rcases hown'.2 with⟨hv,_⟩|⟨g,cap,cur,hv,_⟩
  ·exact⟨_,_,_,hv⟩
  ·exact⟨_,_,_,hv⟩
 go_wp2
 go_ret2
 refine⟨rfl,?_,?_⟩
 ·exact Lib.BuilderAt.put (T:=120) (e:=5) hB hb2 (bs':=bs++Lib.strCells s) (by simpa[Lib.strCells_length] using hown') (by decide)
 ·exact(hb1.grown hgrow (by have:=hb1.size;omega) (λk hk=>(hown.lt k hk).1)).setCell (p:=⟨b,1,none⟩) hB _
theorem lfC {α:Type} {o:Option α} {a b:α} (h:o=some a) (e:a=b:=by kernel_rfl):o=some b:=h.trans (congrArg some e)
def wi_l9_ren :Go.Shelf.Ren:=⟨fun |169=>104|n=>n,fun |70=>117|9=>9|0=>0|72=>120|37=>118|127=>169|3=>3|5=>5|n=>n,fun n=>n⟩
theorem wi_l9 : Go.Proofs.Lays.n169 Tryz.prog wi_l9_ren :={mixed:=by kernel_rfl,f169:=lfC Tryz.func104,t0:=Tryz.underlying0,a0:=Tryz.isAgg0,z0:=Tryz.sizeOf0,v0:=Tryz.zeroValue0,t3:=Tryz.underlying3,a3:=Tryz.isAgg3,z3:=Tryz.sizeOf3,v3:=Tryz.zeroValue3,t9:=Tryz.underlying9,a9:=Tryz.isAgg9,z9:=Tryz.sizeOf9,v9:=Tryz.zeroValue9,t37:=Tryz.underlying118,a37:=Tryz.isAgg118,z37:=Tryz.sizeOf118,v37:=Tryz.zeroValue118,t70:=Tryz.underlying117,a70:=Tryz.isAgg117,z70:=Tryz.sizeOf117,v70:=Tryz.zeroValue117,t72:=Tryz.underlying120,a72:=Tryz.isAgg120,z72:=Tryz.sizeOf120,v72:=Tryz.zeroValue120,t127:=Tryz.underlying169,a127:=Tryz.isAgg169,z127:=Tryz.sizeOf169,v127:=Tryz.zeroValue169}
theorem wi_x9 :Builder.Extra Tryz.prog wi_l9_ren where
 sizeBuilder:=by kernel_rfl
 liesBuilder:=by kernel_rfl
 t5:=Tryz.underlying5
 a5:=Tryz.isAgg5
 z5:=Tryz.sizeOf5
 v5:=Tryz.zeroValue5
 infoByte:=by kernel_rfl
 cellsByte:=by kernel_rfl
 sizeByte:=by kernel_rfl
 neB5:=by decide
theorem wi_st (B b:Nat) (l:List UInt8) (w:World) (h:Lib.IsBuilder 120 5 B b (Lib.byteCells l) w) (hBw:B<=w.heap.size):
  Calls Tryz.prog 104 #[.pointer (some ⟨b,0,none⟩)] w λe w'=>e= .returned (.string ⟨l.toArray⟩)/\Below B w w':=
 Any.Builder_String_any wi_l9 wi_x9 B b l w h hBw
theorem qPw (B b:Nat) (a s:ByteArray) (w:World) (h:Lib.IsBuilder 120 5 B b (Lib.strCells a) w) (hlen:a.size+s.size<=140737488355328) (hBw:B<=w.heap.size):
  Calls Tryz.prog 101 #[.pointer (some ⟨b,0,none⟩),.string s] w λe w'=>e= .returned (.tuple #[.int .i64 s.size,.nilIface])/\Lib.IsBuilder 120 5 B b (Lib.strCells (a++s)) w'/\Below B w w':=
 (wi_ws B b _ s w h (by rw[Lib.strCells_length];exact hlen) hBw).mono λe w' ⟨h1,h2,h3⟩=>⟨h1,.inr (by
  have:Lib.strCells (a++s)=Lib.strCells a++Lib.strCells s:=by
   unfold Lib.strCells;rw[<-List.map_append]
   congr 1
  rw[this];exact h2),h3⟩
theorem wi_st2 (B b:Nat) (a:ByteArray) (w:World) (h:Lib.IsBuilder 120 5 B b (Lib.strCells a) w) (hBw:B<=w.heap.size):
  Calls Tryz.prog 104 #[.pointer (some ⟨b,0,none⟩)] w λe w'=>e= .returned (.string a)/\Below B w w':=
 (wi_st B b a.data.toList w (by rw[<-Lib.strCells_eq];exact h) hBw).mono λe w' ⟨h1,h2⟩=>⟨by rw[h1],h2⟩
theorem YZ {p:Prop} (h:p):Hid p:=h
theorem qQt {f:Int->Option ByteArray} {n:Int} {l:List Int} {s r:ByteArray} (h:qFo f (n::l) s=some r):∃t,f n=some t/\s.size+t.size<=140737488355328/\qFo f l (s++t)=some r:=by
 unfold qFo at h;obtain⟨t,h1,h2⟩:=qE h;obtain⟨h3,h4⟩:=qK h2;exact⟨t,h1,kW h3,h4⟩
theorem qOr (a1:List Int) (r:ByteArray) (hm:intsM FE CV a1=some r) (w:World) (A:Nat->Prop) (hg:zR globs w A) (ao:Option Addr) (cap:Nat) (hl:a1.length<=9223372036854775807)
  (hc:∀i,i<a1.length->∃b o,ao=some ⟨b,o,none⟩/\b<w.heap.size/\w.cell? ⟨b,o+i,none⟩=some (.int .i64 (a1.getD i dd))):
  Calls Tryz.prog 49 #[.slice ao a1.length cap] w λe w'=>e= .returned (.string r)/\Below w.heap.size w w':=by
 obtain⟨h0,hu,hm⟩:=qE hm;obtain⟨hs,hm⟩:=qK hm;have hs:=kW hs;have e_fw:∀args w,(callFunc 101 args).run Tryz.prog w= .ok (.enter 101 args) w:=enters_of Tryz.func101 (by kernel_rfl) rfl;have e_fu:∀args w,(callFunc 102 args).run Tryz.prog w= .ok (.enter 102 args) w:=enters_of Tryz.func102 (by kernel_rfl) rfl;have e_fi:∀args w,(callFunc 103 args).run Tryz.prog w= .ok (.enter 103 args) w:=enters_of Tryz.func103 (by kernel_rfl) rfl;have e_fs:∀args w,(callFunc 104 args).run Tryz.prog w= .ok (.enter 104 args) w:=enters_of Tryz.func104 (by kernel_rfl) rfl;have HC:=YZ hc;have HM:=YZ hm;have HG:=YZ hg
 clear hc hm hg;have hu0:IntKind.u64.wrap (a1.length:Int)=(a1.length:Int):=by
  simp[IntKind.wrap,IntKind.bits,IntKind.signed];omega
 rw[hu0] at hu
 go_enter Tryz.func49,Tryz.ntmps49
 go_wp2_with fail
 have hb0:Below w.heap.size w (w.alloc (Obj.cells #[Value.pointer none,Value.slice none 0 0] 120)):=(Below.refl _ w).alloc (kr _) _;refine((CtX.call1 (CL _ _ hu) rfl _ A (HG.out.later hb0))).mono ?_;rintro e w1 ⟨rfl,hb1⟩;have hsz:(w.alloc (Obj.cells #[Value.pointer none,Value.slice none 0 0] 120)).heap.size=w.heap.size+1:=by simp
 have hib1:Lib.IsBuilder 120 5 w.heap.size w.heap.size (Lib.strCells ⟨#[]⟩) w1:= .inl ⟨kr _,.slice none 0 0,by rw[hb1.block _ (by rw[hsz];omega)];exact heap_alloc_new w _,World.ownsRow_nil _ _ _ _,by simp[Value.ownBlock]⟩;have hb1':Below w.heap.size w w1:=hb0.trans ⟨hb1.os,hb1.tape,hb1.output,hb1.size,λb hb=>hb1.block b (by rw[hsz];omega)⟩;have HI1:=YZ hib1;have HB1:=YZ hb1';clear hib1 hb1' hb1
 go_wp2_with fail
 refine(qPw w.heap.size w.heap.size ⟨#[]⟩ h0 w1 HI1.out (by show 0+h0.size<=_;omega) HB1.out.size).mono ?_;rintro e w2 ⟨rfl,hib2,hb2⟩;have he0:(⟨#[]⟩:ByteArray)++h0=h0:=by
  apply ByteArray.ext;simp
 rw[he0] at hib2;have HI2:=YZ hib2;have HB2:=YZ (HB1.out.trans hb2);clear hib2 hb2
 go_wp2_with fail
 go_loopw [13] (λi wr=>∃(k:Nat) (acc:ByteArray),k<=a1.length/\i= .int .i64 k/\Hid (qFo CV (a1.drop k) acc=some r)/\Hid (Lib.IsBuilder 120 5 w.heap.size w.heap.size (Lib.strCells acc) wr)/\Hid (Below w.heap.size w wr)) (λi _=>a1.length-(RowKit.intOf i).toNat)
 case atStart=>exact⟨0,h0,ub _,rfl,HM,HI2,HB2⟩
 case round=>
  obtain⟨k,acc,hk,rfl,HJ,HB,HW⟩:=hrel;by_cases hlt:k<a1.length
  ·obtain⟨b,o,rfl,hbw,hcell⟩:=HC.out k hlt;have hd:a1.drop k=a1.getD k dd::a1.drop (k+1):=by
    rw[gu hlt,ka,ki hlt];rfl
   have hj:=HJ.out;rw[hd] at hj;obtain⟨t,ht,hr1,hj'⟩:=qQt hj;have hcw:wr.cell? ⟨b,o+k,none⟩=some (.int .i64 (a1.getD k dd)):=by
    rw[<-hcell];exact World.cell?_of_block (HW.out.block b hbw)
   generalize a1.getD k dd=z at hd ht hcw hcell;have HJ':=YZ hj';have HT:=YZ ht;clear hj hj' hd hcell ht
   go_wp2_with fail
   refine((CtX.call1 (qNk _ _ HT.out) rfl _ A (HG.out.later HW.out))).mono ?_;rintro e w3 ⟨rfl,hb3⟩;have hib3:Lib.IsBuilder 120 5 w.heap.size w.heap.size (Lib.strCells acc) w3:=by
    refine HB.out.imp ?_ ?_
    ·rintro⟨q1,v,q2,q3,q4⟩;exact⟨q1,v,by rw[hb3.block _ (kC.1 q2).1];exact q2,q3.kept (row:=none) ⟨hb3.os,hb3.tape,hb3.output,hb3.size,λj hj _=>hb3.block j hj⟩ (by cases v.ownBlock<;>simp),q4⟩
    ·rintro⟨q1,v,q2,q3,q4⟩;exact⟨q1,v,by rw[hb3.block _ (kC.1 q2).1];exact q2,q3.kept (row:=none) ⟨hb3.os,hb3.tape,hb3.output,hb3.size,λj hj _=>hb3.block j hj⟩ (by cases v.ownBlock<;>simp),q4⟩
   have HI3:=YZ hib3;have HB3:=YZ (HW.out.trans ⟨hb3.os,hb3.tape,hb3.output,hb3.size,λj hj=>hb3.block j (kH hj HW.out.size)⟩);clear hib3 hb3
   go_wp2_with fail
   refine(qPw w.heap.size w.heap.size acc t w3 HI3.out hr1 HB3.out.size).mono ?_;rintro e w4 ⟨rfl,hib4,hb4⟩;have HI4:=YZ hib4;have HB4:=YZ (HB3.out.trans hb4);clear hib4 hb4
   go_wp2
   exact⟨⟨k+1,acc++t,by omega,by go_num,HJ',HI4,HB4⟩,by simp[RowKit.intOf];omega⟩
  ·have hke:k=a1.length:=by omega
   subst hke;have hj:=HJ.out;rw[List.drop_length] at hj;obtain rfl:=oi hj;clear hj
   go_wp2_with fail
   refine(wi_st2 w.heap.size w.heap.size acc wr HB.out HW.out.size).mono ?_;rintro e w5 ⟨rfl,hb5⟩;have HB5:=YZ (HW.out.trans hb5);clear hb5
   go_wp2
   go_ret
   exact⟨rfl,HB5.out⟩
theorem CF (a1:List Int) (r:ByteArray) (hm:qAP a1=some r):CtX Tryz.prog globs 49 0 0 [.one (tl qO dd a1)] [] (EM r) (DF r):=by
 refine qMr rfl rfl λw A v hg hv=>?_;have hv':IRep w A (.lst a1.length (rf qO a1)) v:=hv;clear hv;generalize hq:a1.length=q at hv';cases hv' with
 |lst0 a=>
  have:=qOr a1 r hm w A hg a 0 (by omega) (λi hi=>by omega);rw[hq] at this;exact this
 |lst b o n cap sz f g hn hmx hl hb hc hr=>
  have:=qOr a1 r hm w A hg (some ⟨b,o,none⟩) cap (by unfold maxLen at hmx;omega) (λi hi=>by
   have hi':i<q:=by omega
   have hs:1=sz:=hl i hi';subst hs;have h1:=hc i 0 hi' (by omega);have h2:=(hr i 0 hi' (by omega)).val_eq;rw[h2,Nat.mul_one,kX] at h1;exact⟨b,o,rfl,World.block_lt_of_cell? w _ h1,h1⟩)
  rw[hq] at this;exact this
def qER (r:(List Int)):V:=vo 0 0 1 r.length
def qE9 (r:(List Int)):List (Nat×(Nat×O)):=[(0,ro 0 3 1 r.length (rf qO r))]
def KC (a1:List qF) (l2:List Int) (l2n:Nat) (x3:Int):St:=
 ⟨[(3,vo 0 0 1 l2n),(7,vc (tl qJ dd a1)),(8,vi (a1.length:Int)),(9,vi x3)],[(0,ro 0 3 1 l2n (rf qO l2))]⟩
def NU (l7:List Int):St:=
 ⟨[(3,vo 0 0 1 l7.length)],[(0,ro 0 3 1 l7.length (rf qO l7))]⟩
theorem qBZ (E:Env 0) (a1:List qF):∀(n:Nat) (l2:List Int) (l2n:Nat) (x3:Int) (res:(List Int)),l2.length=l2n->TK a1 n l2 x3=some res->HL (kx E 40 0) (nd f51 116) (zS 0 NU res) n (KC a1 l2 l2n x3):=by
 intro n
 induction n with
 |zero=>
  intro l2 l2n x3 res hl0 hm;cases hm
 |succ n ih=>
  intro l2 l2n x3 res hl0 hm;subst hl0;refine qS (s_va 1 [(10,vb (decide (x3<(a1.length:Int))))] ?_);refine q_sq (q_cq hm (λhm=>?_) (λhm=>?_))
  ·refine q_sk (q_sq ?_);refine q_bk 1 ?_;obtain⟨g5,hm⟩:=qK hm;refine s_vu [qi 0 g5] 1 [10] [(5,vp 1 0)] [] [(1,bx 68 (qJ (a1.getD x3.toNat dd)))] (s_vu [] 2 [] [(6,vp 2 0)] [] [(2,bx 66 (qIj ((a1.getD x3.toNat dd).Box)))] ?_);obtain⟨g6,hm⟩:=qK hm
   refine q_vu [qd 21 (drw 3 0 (rf qO [(a1.getD x3.toNat dd).Kind,(((a1.getD x3.toNat dd).Box).X).A,(((a1.getD x3.toNat dd).Box).X).B,(((a1.getD x3.toNat dd).Box).Y).A,(((a1.getD x3.toNat dd).Box).Y).B,(((a1.getD x3.toNat dd).Box).Z).A,(((a1.getD x3.toNat dd).Box).Z).B])) (litP qO dd 1 (λ_=>rfl) ([(a1.getD x3.toNat dd).Kind,(((a1.getD x3.toNat dd).Box).X).A,(((a1.getD x3.toNat dd).Box).X).B,(((a1.getD x3.toNat dd).Box).Y).A,(((a1.getD x3.toNat dd).Box).Y).B,(((a1.getD x3.toNat dd).Box).Z).A,(((a1.getD x3.toNat dd).Box).Z).B]:List Int) 7 rfl),qd 22 (drw 0 1 (rf qO (l2++[(a1.getD x3.toNat dd).Kind,(((a1.getD x3.toNat dd).Box).X).A,(((a1.getD x3.toNat dd).Box).X).B,(((a1.getD x3.toNat dd).Box).Y).A,(((a1.getD x3.toNat dd).Box).Y).B,(((a1.getD x3.toNat dd).Box).Z).A,(((a1.getD x3.toNat dd).Box).Z).B]))) (apP qO dd l2 ([(a1.getD x3.toNat dd).Kind,(((a1.getD x3.toNat dd).Box).X).A,(((a1.getD x3.toNat dd).Box).X).B,(((a1.getD x3.toNat dd).Box).Y).A,(((a1.getD x3.toNat dd).Box).Y).B,(((a1.getD x3.toNat dd).Box).Z).A,(((a1.getD x3.toNat dd).Box).Z).B]:List Int) l2.length 7 1 8 (7<=7) (kr _) rfl rfl (λ_=>rfl) (zW g6))] 3 [3,5,6] [(3,vo 0 1 1 (l2.length+7))] [0,1,2] [(0,ro 1 3 1 (l2.length+7) (rf qO (l2++[(a1.getD x3.toNat dd).Kind,(((a1.getD x3.toNat dd).Box).X).A,(((a1.getD x3.toNat dd).Box).X).B,(((a1.getD x3.toNat dd).Box).Y).A,(((a1.getD x3.toNat dd).Box).Y).B,(((a1.getD x3.toNat dd).Box).Z).A,(((a1.getD x3.toNat dd).Box).Z).B])))] ?_
   exact q_vv [] 4 [9] [(9,vi (w64 (x3+1)))] (q_hl (KC a1 (l2++[(a1.getD x3.toNat dd).Kind,(((a1.getD x3.toNat dd).Box).X).A,(((a1.getD x3.toNat dd).Box).X).B,(((a1.getD x3.toNat dd).Box).Y).A,(((a1.getD x3.toNat dd).Box).Y).B,(((a1.getD x3.toNat dd).Box).Z).A,(((a1.getD x3.toNat dd).Box).Z).B]) (l2.length+7) (w64 (x3+1))) (ih (l2++[(a1.getD x3.toNat dd).Kind,(((a1.getD x3.toNat dd).Box).X).A,(((a1.getD x3.toNat dd).Box).X).B,(((a1.getD x3.toNat dd).Box).Y).A,(((a1.getD x3.toNat dd).Box).Y).B,(((a1.getD x3.toNat dd).Box).Z).A,(((a1.getD x3.toNat dd).Box).Z).B]) (l2.length+7) (w64 (x3+1)) _ (wN rfl rfl) hm))
  ·refine q_ex 0 ?_;obtain rfl:=oi hm;exact q_l0
theorem qD7 (a1:List qF) (r:(List Int)) (hm:BN a1=some r):CtX Tryz.prog globs 51 0 0 [.one (tl qJ dd a1)] [] (qER r) (qE9 r):=by
 unfold BN at hm;refine q_E f51 40 λE=>?_;refine s_vn [] 0 ⟨[(0,vc (tl qJ dd a1))],[]⟩ (s_va 0 [(3,vc (.emp))] ?_);refine q_sq (s_vv [] 0 [0] [(7,vc (tl qJ dd a1)),(8,vi (a1.length:Int)),(9,vi 0)] ?_);refine q_fo 3 0 3 1 qO ?_;obtain⟨o8,h9,hm⟩:=qE hm;refine zL (nd f51 116) 0 (by kernel_rfl) FUEL NU o8 (q_hl (KC a1 ([]:List Int) 0 0) (qBZ E a1 FUEL ([]:List Int) 0 0 o8 rfl h9)) (s_vv [] 1 [3] [(2,vo 0 0 1 o8.length)] ?_);obtain rfl:=oi hm;exact q_rt q_rm
def qKN (r:ByteArray×Int):V:= .tup [.one (cs r.1),.one (ci r.2)]
def qKs (r:ByteArray×Int):List (Nat×(Nat×O)):=[]
def NB (a1:Scan) (l5:List Int) (l5n:Nat) (x6:ByteArray) (x7:Int):St:=
 ⟨[(1,vp 0 0),(5,vo 1 0 1 l5n),(6,vc (cs x6)),(15,vi (a1.Rings.length:Int)),(16,vi x7)],[(0,bx 25 (qX a1)),(1,ro 0 3 1 l5n (rf qO l5))]⟩
def OW (a1:Scan) (l16:List Int) (x17:ByteArray):St:=
 ⟨[(1,vp 0 0),(5,vo 1 0 1 l16.length),(6,vc (cs x17))],[(0,bx 25 (qX a1)),(1,ro 0 3 1 l16.length (rf qO l16))]⟩
theorem qFI (E:Env 0) (a1:Scan):∀(n:Nat) (l5:List Int) (l5n:Nat) (x6:ByteArray) (x7:Int) (res:(List Int)×ByteArray),l5.length=l5n->HD a1 n l5 x6 x7=some res->HL (kx E 48 0) (nd f19 500) (zS 0 (λo=>OW a1 o.1 o.2) res) n (NB a1 l5 l5n x6 x7):=by
 intro n
 induction n with
 |zero=>
  intro l5 l5n x6 x7 res hl0 hm;cases hm
 |succ n ih=>
  intro l5 l5n x6 x7 res hl0 hm;subst hl0;refine qS (s_va 2 [(17,vb (decide (x7<(a1.Rings.length:Int))))] ?_);refine q_sq (q_cq hm (λhm=>?_) (λhm=>?_))
  ·refine q_sk (q_sq ?_);refine q_bk 1 (s_vv [] 2 [17] [(7,vi x7)] ?_);obtain⟨g9,hm⟩:=qK hm;obtain⟨g10,hm⟩:=qK hm;refine s_vu [qi 4 g9,qd 7 (drw 2 0 (rf qO [(a1.Rings.getD x7.toNat dd).Z])) (litP qO dd 1 (λ_=>rfl) ([(a1.Rings.getD x7.toNat dd).Z]:List Int) 1 rfl),qd 8 (drw 1 1 (rf qO (l5++[(a1.Rings.getD x7.toNat dd).Z]))) (apP qO dd l5 ([(a1.Rings.getD x7.toNat dd).Z]:List Int) l5.length 1 1 8 (1<=1) (kr _) rfl rfl (λ_=>rfl) (zW g10))] 2 [5] [(5,vo 1 1 1 (l5.length+1))] [1] [(1,ro 1 3 1 (l5.length+1) (rf qO (l5++[(a1.Rings.getD x7.toNat dd).Z])))] ?_;obtain⟨v11,h12,hm⟩:=qE hm
   obtain⟨v13,h14,hm⟩:=qE hm;obtain⟨g15,hm⟩:=qK hm;refine q_vv [qi 4 g9,qc 7 [34] 3 (qDf ((a1.Rings.getD x7.toNat dd).Read) v11 h12),qd 8 (dex (cen [] [] 4 0 (EM v13) (DF v13) [35] [3])) (zK (K:=(kx E 48 0)) (b:=false) ⟨[(35,vo 3 0 1 v11.length)],[(3,ro 0 3 1 v11.length (rf qO v11))]⟩ (opAt (rg f19 32051) 8) [] [] 4 (o1 (kr v11.length)) rfl (CF v11 v13 h14) (.inr ⟨(by kernel_rfl),qB0 v13⟩) (by kernel_rfl)),qd 9 dN (qDn g15)] 3 [6,7] [(6,vc (cs (x6++v13)))] (q_vv [] 4 [16] [(16,vi (w64 (x7+1)))] ?_)
   exact q_hl (NB a1 (l5++[(a1.Rings.getD x7.toNat dd).Z]) (l5.length+1) (x6++v13) (w64 (x7+1))) (ih (l5++[(a1.Rings.getD x7.toNat dd).Z]) (l5.length+1) (x6++v13) (w64 (x7+1)) _ (wN rfl rfl) hm)
  ·refine q_ex 0 ?_;obtain rfl:=oi hm;exact q_l0
theorem qI4 (a1:Scan) (r:ByteArray×Int) (hm:RW a1=some r):CtX Tryz.prog globs 19 0 0 [.agg (qX a1)] [] (qKN r) (qKs r):=by
 unfold RW at hm;refine q_E f19 48 λE=>?_;refine s_vn [] 0 ⟨[(1,vp 0 0)],[(0,bx 25 (qX a1))]⟩ (q_sq ?_);obtain⟨v2,h3,hm⟩:=qE hm;refine s_vv [qc 1 [8] 1 (QE a1 v2 h3)] 1 [] [(4,vi v2)] (s_va 1 [(11,vb (v2 !=0))] ?_);refine q_cq hm (λhm=>?_) (λhm=>?_)
 ·refine s_vn [] 1 ⟨[(2,vc (cs (ByteArray.mk #[]))),(3,vi v2)],[]⟩ ?_;obtain rfl:=oi hm;exact q_rt q_rm
 ·refine q_sk (s_vv [] 1 [4,11] [(5,vc (.emp))] ?_);refine s_va 1 [(6,vc (cs (ByteArray.mk #[])))] (q_sq ?_);refine s_va 1 [(15,vi (a1.Rings.length:Int)),(16,vi 0)] (q_fo 5 1 3 1 qO ?_);obtain⟨o18,h19,hm⟩:=qE hm;refine zL (nd f19 500) 0 (by kernel_rfl) FUEL (λo=>OW a1 o.1 o.2) o18 (q_hl (NB a1 ([]:List Int) 0 (ByteArray.mk #[]) 0) (qFI E a1 FUEL ([]:List Int) 0 (ByteArray.mk #[]) 0 o18 rfl h19)) ?_;obtain⟨v20,h21,hm⟩:=qE hm;obtain⟨g22,hm⟩:=qK hm;obtain⟨v23,h24,hm⟩:=qE hm;obtain⟨v25,h26,hm⟩:=qE hm;obtain⟨g27,hm⟩:=qK hm
  refine s_dn [qd 1 (dex (cen [] [] 2 0 (EM v20) (DF v20) [39] [1])) (zK (K:=(kx E 48 0)) (b:=false) ⟨[(39,vo 1 0 1 o18.1.length)],[(1,ro 0 3 1 o18.1.length (rf qO o18.1))]⟩ (opAt (rg f19 126) 1) [] [] 2 (o1 (kr o18.1.length)) rfl (CF o18.1 v20 h21) (.inr ⟨(by kernel_rfl),qB0 v20⟩) (by kernel_rfl)),qd 3 dN (qDn g22),qc 6 [44] 2 (qD7 a1.Defects v23 h24),qd 7 (dex (cen [] [] 3 0 (EM v25) (DF v25) [45] [2])) (zK (K:=(kx E 48 0)) (b:=false) ⟨[(45,vo 2 0 1 v23.length)],[(2,ro 0 3 1 v23.length (rf qO v23))]⟩ (opAt (rg f19 126) 7) [] [] 3 (o1 (kr v23.length)) rfl (CF v23 v25 h26) (.inr ⟨(by kernel_rfl),qB0 v25⟩) (by kernel_rfl)),qd 8 dN (qDn g27)] [0,1,0,7,0,16,51,115,255,511,1023] 2 ⟨[(2,vc (cs ((v20++o18.2)++v25))),(3,vi 0)],[]⟩ ?_
  obtain rfl:=oi hm;exact q_rt q_rm
open Go.Proofs Go.Proofs.Tryz
def yX (a1:Int) (a2:qI) (r:Int×Int×Int):V:= .tup [.one (.val (.int .u64 r.1)),.one (ci r.2.1),.one (ci r.2.2)]
def yR (a1:Int) (a2:qI) (r:Int×Int×Int):List (Nat×(Nat×O)):=[(0,bx 172 (qN a2))]
def qAL (a1:Int) (a2:qI) (x3:Int) (x4:Int) (x13:Bool):St:=
 ⟨[(1,vi a1),(7,vc (.val (.int .u64 (orI .u64 x3 (shlI .u64 (IntKind.u64.wrap (andI .u8 (JK a2.s ((w64 (a1+x4)).toNat)) 127)) (w64 (7*x4))))))),(8,vi x4),(50,vb x13)],[(0,bx 172 (qN a2))]⟩
def qAD (a1:Int) (a2:qI) (x3:Int) (x4:Int) (x8:Bool):St:=
 ⟨[(0,vp 0 0),(1,vi a1),(7,vc (.val (.int .u64 x3))),(8,vi x4),(9,vc (.val (.int .u8 (JK a2.s ((w64 (a1+x4)).toNat))))),(34,vb x8)],[(0,bx 172 (qN a2))]⟩
def JQ (a1:Int) (a2:qI) (x3:Int) (x4:Int):St:=
 ⟨[(0,vp 0 0),(1,vi a1),(7,vc (.val (.int .u64 x3))),(8,vi x4)],[(0,bx 172 (qN a2))]⟩
def GO :St:=
 ⟨[],[]⟩
theorem qAv (E:Env 1) (a1:Int) (a2:qI):∀(n:Nat) (x3:Int) (x4:Int) (res:(Int×Int×Int)⊕Unit),yA a1 a2 n x3 x4=some res->HL (kx E 56 1) (nd f185 60) (jS 0 (λo=>GO) (λv st=>RetQ Tryz.prog f185 (yX a1 a2 v) (yR a1 a2 v) .ret st) res) n (JQ a1 a2 x3 x4):=by
 intro n
 induction n with
 |zero=>
  intro x3 x4 res hm;cases hm
 |succ n ih=>
  intro x3 x4 res hm;refine qS (q_sq ?_);refine q_bk 1 (q_sq ?_);refine s_va 1 [(20,vb (decide ((w64 (a1+x4))≥(a2.s.size:Int))))] (q_cq hm (λhm=>?_) (λhm=>?_))
  ·refine s_vv [] 1 [0,1,7,8,20] [(4,vc (.val (.int .u64 0))),(5,vi 0),(6,vi 3)] ?_;obtain rfl:=oi hm;refine q_rt (zZ (0,0,3) ?_);exact q_rm
  ·refine q_sk ?_;obtain⟨g6,hm⟩:=qK hm;refine s_vv [qi 7 g6] 1 [20] [(9,vc (.val (.int .u8 (JK a2.s ((w64 (a1+x4)).toNat)))))] (q_sq ?_);refine q_jn (qAD a1 a2 x3 x4) (λp=>KD a1 a2 x3 x4 (yA a1 a2 n) p=some res) ?_ ?_
   ·rintro x8 hm;refine q_cq hm (λhm=>?_) (λhm=>?_)
    ·refine s_vv [] 1 [0,1,7,8,9,34] [(4,vc (.val (.int .u64 0))),(5,vi 0),(6,vi 5)] ?_;obtain rfl:=oi hm;refine q_rt (zZ (0,0,5) ?_);exact q_rm
    ·refine q_sk ?_;obtain⟨g10,hm⟩:=qK hm;refine s_vv [qd 6 dN (nneg_of g10)] 1 [7,34] [(7,vc (.val (.int .u64 (orI .u64 x3 (shlI .u64 (IntKind.u64.wrap (andI .u8 (JK a2.s ((w64 (a1+x4)).toNat)) 127)) (w64 (7*x4)))))))] (q_sq ?_);refine s_va 1 [(44,vb (decide ((JK a2.s ((w64 (a1+x4)).toNat))≥128)))] (q_cq hm (λhm=>?_) (λhm=>?_))
     ·refine q_ex 1 (q_vv [] 1 [8,9,44] [(8,vi (w64 (x4+1)))] ?_);exact q_hl (JQ a1 a2 (orI .u64 x3 (shlI .u64 (IntKind.u64.wrap (andI .u8 (JK a2.s ((w64 (a1+x4)).toNat)) 127)) (w64 (7*x4)))) (w64 (x4+1))) (ih (orI .u64 x3 (shlI .u64 (IntKind.u64.wrap (andI .u8 (JK a2.s ((w64 (a1+x4)).toNat)) 127)) (w64 (7*x4)))) (w64 (x4+1)) _ hm)
     ·refine q_sk (q_sq ?_);refine q_jn (qAL a1 a2 x3 x4) (λp=>KV a1 a2 x3 x4 p=some res) ?_ ?_
      ·rintro x13 hm;refine q_cq hm (λhm=>?_) (λhm=>?_)
       ·refine s_vv [] 1 [1,7,8,50] [(4,vc (.val (.int .u64 0))),(5,vi 0),(6,vi 5)] ?_;obtain rfl:=oi hm;refine q_rt (zZ (0,0,5) ?_);exact q_rm
       ·refine q_sk (s_vv [] 1 [1,7,8,50] [(4,vc (.val (.int .u64 (orI .u64 x3 (shlI .u64 (IntKind.u64.wrap (andI .u8 (JK a2.s ((w64 (a1+x4)).toNat)) 127)) (w64 (7*x4))))))),(5,vi (w64 ((w64 (a1+x4))+1))),(6,vi 0)] ?_);obtain rfl:=oi hm;refine q_rt (zZ (orI .u64 x3 (shlI .u64 (IntKind.u64.wrap (andI .u8 (JK a2.s ((w64 (a1+x4)).toNat)) 127)) (w64 (7*x4))),w64 ((w64 (a1+x4))+1),0) ?_);exact q_rm
      ·rcases bif_c hm with⟨b12,hm⟩|⟨b12,hm⟩
       ·exact q_vv [qf 2 b12] 1 [0,9,44] [(50,vb (decide (x4>0)))] (q_J (decide (x4>0)) hm)
       ·exact q_vv [qf 2 b12] 1 [0,9,44] [(50,vb false)] (q_J (false) hm)
   ·rcases bif_c hm with⟨b7,hm⟩|⟨b7,hm⟩
    ·exact q_vv [qf 2 b7] 1 [] [(34,vb (decide ((JK a2.s ((w64 (a1+x4)).toNat))>1)))] (q_J (decide ((JK a2.s ((w64 (a1+x4)).toNat))>1)) hm)
    ·exact q_vv [qf 2 b7] 1 [] [(34,vb false)] (q_J (false) hm)
theorem NS (a1:Int) (a2:qI) (r:Int×Int×Int) (hm:YU a1 a2=some r):CtX Tryz.prog globs 185 1 1 [.one (.bptr 0 0 0),.one (ci a1)] [(0,bx 172 (qN a2))] (yX a1 a2 r) (yR a1 a2 r):=by
 unfold YU at hm;refine q_E f185 56 λE=>?_;refine s_vn [] 1 ⟨[(0,vp 0 0),(1,vi a1)],[(0,bx 172 (qN a2))]⟩ (s_va 1 [(7,vc (.val (.int .u64 0)))] ?_);refine s_va 1 [(8,vi 0)] ?_;obtain⟨u17,h16,hm⟩:=qE hm;refine wJ (nd f185 60) 0 (by kernel_rfl) FUEL (λo=>GO) (λv st=>RetQ Tryz.prog f185 (yX a1 a2 v) (yR a1 a2 v) .ret st) u17 (q_hl (JQ a1 a2 0 0) (qAv E a1 a2 FUEL 0 0 u17 h16)) ?_ ?_
 ·rintro v18 rfl st hr;obtain rfl:=oi hm;exact hr
 ·rintro o15 rfl;replace hm:_=some r:=hm;cases hm
def LJ (a1:Int) (a2:Int) (a3:Int) (a4:qI) (r:Int×Int×Int):V:= .tup [.one (ci r.1),.one (ci r.2.1),.one (ci r.2.2)]
def FR (a1:Int) (a2:Int) (a3:Int) (a4:qI) (r:Int×Int×Int):List (Nat×(Nat×O)):=[(0,bx 172 (qN a4))]
def qAK (a4:qI) (v5:Int×Int×Int) (x9:Int) (x11:Bool):St:=
 ⟨[(12,vi v5.2.1),(14,vi x9),(40,vb x11)],[(0,bx 172 (qN a4))]⟩
def qAE (a2:Int) (a3:Int) (a4:qI) (v5:Int×Int×Int) (x9:Int):St:=
 ⟨[(2,vi a2),(3,vi a3),(12,vi v5.2.1),(14,vi x9)],[(0,bx 172 (qN a4))]⟩
theorem qCE (a1:Int) (a2:Int) (a3:Int) (a4:qI) (r:Int×Int×Int) (hm:UU a1 a2 a3 a4=some r):CtX Tryz.prog globs 162 1 1 [.one (.bptr 0 0 0),.one (ci a1),.one (ci a2),.one (ci a3)] [(0,bx 172 (qN a4))] (LJ a1 a2 a3 a4 r) (FR a1 a2 a3 a4 r):=by
 unfold UU at hm;refine q_E f162 43 λE=>?_;refine s_vn [] 1 ⟨[(0,vp 0 0),(1,vi a1),(2,vi a2),(3,vi a3)],[(0,bx 172 (qN a4))]⟩ ?_;obtain⟨v5,h6,hm⟩:=qE hm;refine s_vv [qd 2 (dex (cen [(0,0)] [0] 0 1 (yX a1 a4 v5) (yR a1 a4 v5) [16,17] [0])) (zK (K:=(kx E 43 1)) ⟨[(16,vp 0 0),(17,vi a1)],[(0,bx 172 (qN a4))]⟩ (opAt (rg f162 6) 2) [(0,0)] [0] 0 o0 rfl (NS a1 a4 v5 h6) (.inl rfl) (by kernel_rfl))] 1 [0,1] [(11,vc (.val (.int .u64 v5.1))),(12,vi v5.2.1),(13,vi v5.2.2)] (q_sq ?_);refine s_va 1 [(23,vb (v5.2.2 !=0))] (q_cq hm (λhm=>?_) (λhm=>?_))
 ·refine s_vv [] 1 [2,3,11,12,13,23] [(8,vi 0),(9,vi 0),(10,vi v5.2.2)] ?_;obtain rfl:=oi hm;exact q_rt q_rm
 ·refine q_sk (s_vv [qd 1 dN (show¬(1:Int)<0 by decide)] 1 [13,23] [(14,vi (w64 (shrI .u64 v5.1 1)))] ?_);refine q_jn (qAE a2 a3 a4 v5) (λp=>KK a2 a3 v5 p=some r) ?_ ?_
  ·rintro x9 hm;refine q_sq (q_jn (qAK a4 v5 x9) (λp=>KQ v5 x9 p=some r) ?_ ?_)
   ·rintro x11 hm;refine q_cq hm (λhm=>?_) (λhm=>?_)
    ·refine s_vv [] 1 [12,14,40] [(8,vi 0),(9,vi 0),(10,vi 9)] ?_;obtain rfl:=oi hm;exact q_rt q_rm
    ·refine q_sk (s_vv [] 1 [12,14,40] [(8,vi x9),(9,vi v5.2.1),(10,vi 0)] ?_);obtain rfl:=oi hm;exact q_rt q_rm
   ·rcases bif_c hm with⟨b10,hm⟩|⟨b10,hm⟩
    ·exact q_vv [qf 3 b10] 1 [2,3] [(40,vb true)] (q_J (true) hm)
    ·exact q_vv [qf 3 b10] 1 [2,3] [(40,vb (decide (x9>a3)))] (q_J (decide (x9>a3)) hm)
  ·refine s_vv [] 1 [11] [(30,vb ((andI .u64 v5.1 1)==1))] (q_cq hm (λhm=>?_) (λhm=>?_))
   ·exact q_vv [] 1 [14,30] [(14,vi (notI .i64 (w64 (shrI .u64 v5.1 1))))] (q_J (notI .i64 (w64 (shrI .u64 v5.1 1))) hm)
   ·exact q_sk (q_J (w64 (shrI .u64 v5.1 1)) hm)
end Saw
end Go.SL

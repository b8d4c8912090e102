import Derived.Test.YtigmogcdifllhaaGreatDoorEBase
import Derived.Test.YtigmogcdifllhaaGreatDoorEFa4
import Derived.Test.YtigmogcdifllhaaGreatDoorEFa1
set_option linter.unusedVariables false
set_option linter.unusedSimpArgs false
namespace Go.SL
namespace Saw
open Go.Proofs Go.Proofs.Tryz
set_option maxHeartbeats 4000000
set_option maxRecDepth 100000
def qC3 (a1:qG) (a2:qG) (r:qG):V:=va [ci r.Low,.own 2 0 2 r.Rows.length]
def qDg (a1:qG) (a2:qG) (r:qG):List (Nat×(Nat×O)):=[(0,bx 78 (qV a1)),(1,bx 78 (qV a2)),(2,ro 0 53 2 r.Rows.length (rf qE r.Rows))]
def KZ (a1:qG) (a2:qG) (x4:Int):St:=
 ⟨[(0,vc (.fn 93 [.bptr 0 0 0,.bptr 1 0 0])),(2,vp 2 0),(3,vp 3 0),(5,vi x4)],[(0,bx 78 (qV a1)),(1,bx 78 (qV a2)),(2,bx 78 [ci 0,.emp])]⟩
def CA (a1:qG) (a2:qG) (x4:Int) (x18:Int) (x19:Int) (l20:List Span) (l20n:Nat):St:=
 (KZ a1 a2 x4).up [] [(4,vi x18)] [] [(3,bx 78 [ci x19,.own 4 0 2 l20n]),(4,ro 0 53 2 l20n (rf qE l20))]
def qIK (a1:qG) (a2:qG) (x4:Int) (l6:List Span) (v8:Span) (x14:Int):St:=
 (KZ a1 a2 x4).up [] [(6,vp 5 0)] [] [(3,bx 78 [ci x14,.own 4 0 2 l6.length]),(4,ro 0 53 2 l6.length (rf qE l6)),(5,bx 53 (qE v8))]
def UG (a1:qG) (a2:qG) (x3:Int) (x4:Int) (x5:Int) (l6:List Span) (l6n:Nat):St:=
 (KZ a1 a2 x4).up [] [(4,vi x3)] [] [(3,bx 78 [ci x5,.own 4 0 2 l6n]),(4,ro 0 53 2 l6n (rf qE l6))]
def CD (a1:qG) (a2:qG) (x21:Int) (x22:Int) (l23:List Span):St:=
 ⟨[(2,vp 2 0),(3,vp 3 0),(4,vi x21)],[(0,bx 78 (qV a1)),(1,bx 78 (qV a2)),(2,bx 78 [ci 0,.emp]),(3,bx 78 [ci x22,.own 4 0 2 l23.length]),(4,ro 0 53 2 l23.length (rf qE l23))]⟩
theorem qHS (E:Env 2) (a1:qG) (a2:qG):∀(n:Nat) (x3:Int) (x4:Int) (x5:Int) (l6:List Span) (l6n:Nat) (res:Int×Int×(List Span)),l6.length=l6n->wF a1 a2 n x3 x4 x5 l6=some res->HL (kx E 46 2) (nd f92 244) (zF 0 (λo=>CD a1 a2 o.1 o.2.1 o.2.2) res) n (UG a1 a2 x3 x4 x5 l6 l6n):=by
 intro n
 induction n with
 |zero=>
  intro x3 x4 x5 l6 l6n res hl0 hm;cases hm
 |succ n ih=>
  intro x3 x4 x5 l6 l6n res hl0 hm;subst hl0;refine qR (q_sq ?_);refine s_va 5 [(8,vb (decide (x4<60)))] (q_cq hm (λhm=>?_) (λhm=>?_))
  ·refine q_sk (q_jn (ι:=Int×Int×(List Span)×Nat) (λp=>CA a1 a2 x4 p.1 p.2.1 p.2.2.1 p.2.2.2) (λp=>p.2.2.1.length=p.2.2.2/\WT x4 (wF a1 a2 n) p.1 p.2.1 p.2.2.1=some res) ?_ ?_)
   ·rintro⟨x18,x19,l20,l20n⟩ ⟨el20,hm⟩;replace el20:l20.length=l20n:=el20;subst el20;show H _ (CA a1 a2 x4 x18 x19 l20 l20.length) _ _;exact q_vv [] 7 [5] [(5,vi (w64 (x4+1)))] (q_hl (UG a1 a2 x18 (w64 (x4+1)) x19 l20 l20.length) (ih x18 (w64 (x4+1)) x19 l20 l20.length _ rfl hm))
   ·refine q_bk 1 ?_;obtain⟨v8,h9,hm⟩:=qC hm;refine s_vu [qd 2 (dex (cen [(0,0),(1,0)] [0,0] 3 2 (qFT x4 a1 a2 v8) (qFL x4 a1 a2 v8) [11,12] [0,1])) (zW (K:=(kx E 46 2)) ⟨[(11,vc (.fn 93 [.bptr 0 0 0,.bptr 1 0 0])),(12,vi x4)],[(0,bx 78 (qV a1)),(1,bx 78 (qV a2))]⟩ (opAt (rg f92 3912) 2) [(0,0),(1,0)] [0,0] 3 o0 rfl (qNG x4 a1 a2 v8 h9) (.inl rfl) (by kernel_rfl))] 5 [8] [(6,vp 5 0)] [] [(5,bx 53 (qE v8))] (q_bk 2 ?_);obtain⟨v10,h11,hm⟩:=qC hm;refine s_vv [qc 1 [15] 6 (jG v8 v10 h11)] 6 [] [(14,vb (!v10))] (q_cq hm (λhm=>?_) (λhm=>?_))
    ·refine q_jn (qIK a1 a2 x4 l6 v8) (λp=>KV x4 l6 (wF a1 a2 n) v8 p=some res) ?_ ?_
     ·rintro x14 hm;obtain⟨g15,hm⟩:=qI hm;refine s_vu [qd 3 (drw 6 0 (rf qE [v8])) (litP qE dd 2 (λ_=>rfl) ([v8]:List Span) 1 rfl),qd 4 (drw 4 1 (rf qE (l6++[v8]))) (apP qE dd l6 ([v8]:List Span) l6.length 1 2 16 (1<=1) (kd _) rfl rfl (λ_=>rfl) (zN g15))] 6 [6] [] [3,4,5] [(3,bx 78 [ci x14,.own 4 1 2 (l6.length+1)]),(4,ro 1 53 2 (l6.length+1) (rf qE (l6++[v8])))] (q_va 7 [(4,vi (((l6.length+1):Nat):Int))] ?_);exact q_J ((((l6.length+1):Nat):Int),x14,(l6++[v8]),(l6.length+1)) ⟨(zH rfl rfl),hm⟩
     ·refine s_vv [] 6 [4,14] [(19,vb (x3==0))] (q_cq hm (λhm=>?_) (λhm=>?_))
      ·exact q_vu [] 6 [19] [] [3] [(3,bx 78 [ci x4,.own 4 0 2 l6.length])] (q_J (x4) hm)
      ·exact q_sk (q_J (x5) hm)
    ·refine s_vu [] 6 [6,14] [(31,vb (decide (x3>0)))] [5] [] (q_cq hm (λhm=>?_) (λhm=>?_))
     ·obtain⟨g17,hm⟩:=qI hm;exact q_vu [qd 3 (drw 6 0 (rf qE [(Span.mk 0 0)])) (litP qE dd 2 (λ_=>rfl) ([(Span.mk 0 0)]:List Span) 1 rfl),qd 4 (drw 4 1 (rf qE (l6++[(Span.mk 0 0)]))) (apP qE dd l6 ([(Span.mk 0 0)]:List Span) l6.length 1 2 16 (1<=1) (kd _) rfl rfl (λ_=>rfl) (zN g17))] 6 [31] [] [3,4] [(3,bx 78 [ci x5,.own 4 1 2 (l6.length+1)]),(4,ro 1 53 2 (l6.length+1) (rf qE (l6++[(Span.mk 0 0)])))] (q_J (x3,x5,(l6++[(Span.mk 0 0)]),(l6.length+1)) ⟨(zH rfl rfl),hm⟩)
     ·exact q_sk (q_J (x3,x5,l6,l6.length) ⟨rfl,hm⟩)
  ·refine q_ex 0 ?_;obtain rfl:=oi hm;exact q_l0
theorem qKC (a1:qG) (a2:qG) (r:qG) (hm:KN a1 a2=some r):CtX Tryz.prog globs 92 2 2 [.one (.fn 93 [.bptr 0 0 0,.bptr 1 0 0])] [(0,bx 78 (qV a1)),(1,bx 78 (qV a2))] (qC3 a1 a2 r) (qDg a1 a2 r):=by
 unfold KN at hm;refine q_E f92 46 λE=>?_;refine s_vn [] 2 ⟨[(0,vc (.fn 93 [.bptr 0 0 0,.bptr 1 0 0])),(2,vp 2 0)],[(0,bx 78 (qV a1)),(1,bx 78 (qV a2)),(2,bx 78 [ci 0,.emp])]⟩ (s_vu [] 3 [] [(3,vp 3 0)] [] [(3,bx 78 [ci 0,.emp])] ?_);refine s_va 4 [(4,vi 0)] (q_sq ?_);refine s_va 4 [(5,vi (-60))] (q_fu [.ownB 3 1 4 53 2 (rf qE [])] [] [] [3] [(3,bx 78 [ci 0,.own 4 0 2 0]),(4,ro 0 53 2 0 (rf qE []))] o0 ?_);obtain⟨o24,h25,hm⟩:=qC hm
 refine zB (nd f92 244) 0 (by kernel_rfl) FUEL (λo=>CD a1 a2 o.1 o.2.1 o.2.2) o24 (q_hl (UG a1 a2 0 (-60) 0 ([]:List Span) 0) (qHS E a1 a2 FUEL 0 (-60) 0 ([]:List Span) 0 o24 rfl h25)) ?_;obtain⟨g26,hm⟩:=qI hm
 refine s_wu [qd 3 dN (And.intro (zG g26).2.1 (zG g26).2.2)] [.row 4 o24.1.toNat (rf qE (o24.2.2.take o24.1.toNat))] (o1 (tkP qE dd o24.2.2 o24.2.2.length o24.1.toNat (show o24.1.toNat<=o24.2.2.length by have:=(zG g26);omega))) 5 [4] [] [3,4] [(3,bx 78 [ci o24.2.1,.own 4 0 2 o24.1.toNat]),(4,ro 0 53 2 o24.1.toNat (rf qE (o24.2.2.take o24.1.toNat)))] (s_vu [] 5 [3] [] [2,3] [(2,bx 78 [ci o24.2.1,.own 4 0 2 o24.1.toNat])] ?_)
 refine q_fu [.len 4 ((o24.2.2.take o24.1.toNat).length)] [] [] [2,4] [(2,bx 78 [ci o24.2.1,.own 4 0 2 ((o24.2.2.take o24.1.toNat).length)]),(4,ro 0 53 2 ((o24.2.2.take o24.1.toNat).length) (rf qE (o24.2.2.take o24.1.toNat)))] (o1 (And.intro (Eq.symm (show(o24.2.2.take o24.1.toNat).length=o24.1.toNat from(jE rfl (show o24.1.toNat<=o24.2.2.length by have:=(zG g26);omega)))) (Eq.symm (show(o24.2.2.take o24.1.toNat).length=o24.1.toNat from(jE rfl (show o24.1.toNat<=o24.2.2.length by have:=(zG g26);omega)))))) ?_;obtain rfl:=oi hm;exact q_sw 4 2 (q_rt q_rm)
def qTK (r:qG):V:=va [ci r.Low,.own 0 0 2 r.Rows.length]
def qTf (r:qG):List (Nat×(Nat×O)):=[(0,ro 0 53 2 r.Rows.length (rf qE r.Rows))]
theorem qRT (a1:qG) (a2:qG) (r:qG) (hm:UB a1 a2=some r):CtX Tryz.prog globs 46 0 0 [.agg (qV a1),.agg (qV a2)] [] (qTK r) (qTf r):=by
 unfold UB at hm;refine q_E f46 11 λE=>?_;refine s_vn [] 0 ⟨[(2,vp 0 0),(3,vp 1 0),(4,vp 2 0)],[(0,bx 78 (qV a1)),(1,bx 78 (qV a2)),(2,bx 78 [ci 0,.emp])]⟩ ?_;obtain⟨v3,h4,hm⟩:=qC hm;obtain⟨v5,h6,hm⟩:=qC hm;refine s_du [qc 1 [5] 3 (KP a1 v3 h4),qc 3 [7] 3 (KP a2 v5 h6)] [0,1,0,7,15,31] 3 [] [] [0,1] [(0,bx 78 (qV v3)),(1,bx 78 (qV v5))] ?_;obtain⟨v7,h8,hm⟩:=qC hm
 refine s_vn [qd 1 (dex (cen [(0,0),(1,0)] [0,0] 1 2 (qC3 v3 v5 v7) (qDg v3 v5 v7) [9] [0,1])) (zW (K:=(kx E 11 0)) ⟨[(9,vc (.fn 93 [.bptr 0 0 0,.bptr 1 0 0]))],[(0,bx 78 (qV v3)),(1,bx 78 (qV v5))]⟩ (opAt (rg f46 14) 1) [(0,0),(1,0)] [0,0] 1 o0 rfl (qKC v3 v5 v7 h8) (.inl rfl) (by kernel_rfl))] 3 ⟨[(4,vp 2 0)],[(2,bx 78 [ci v7.Low,.own 3 0 2 v7.Rows.length]),(3,ro 0 53 2 v7.Rows.length (rf qE v7.Rows))]⟩ ?_;obtain rfl:=oi hm;exact q_sw 3 0 (q_rt q_rm)
def TR (r:(List qM)×Int):V:= .tup [.one (.own 0 0 3 r.1.length),.one (ci r.2)]
def TO (r:(List qM)×Int):List (Nat×(Nat×O)):=[(0,ro 0 80 3 r.1.length (rf qO r.1))]
def qAm (a1:Scan) (a2:Int) (a3:Int) (l8:List qG) (l8n:Nat) (x9:Int):St:=
 ⟨[(1,vi a2),(2,vi a3),(3,vp 0 0),(9,vo 1 0 2 l8n),(27,vi (a1.Rings.length:Int)),(28,vi x9)],[(0,bx 25 (zS a1)),(1,ro 0 78 2 l8n (rf qV l8))]⟩
def qHk (a1:Scan) (l16:List qG):St:=
 ⟨[(3,vp 0 0),(9,vo 1 0 2 l16.length)],[(0,bx 25 (zS a1)),(1,ro 0 78 2 l16.length (rf qV l16))]⟩
def qAK (a1:Scan) (o17:(List qG)) (l22:List qM) (l22n:Nat) (x23:Int):St:=
 ⟨[(3,vp 0 0),(9,vo 1 0 2 o17.length),(13,vo 2 0 3 l22n),(55,vi (((w64 ((a1.Rings.length:Int)-1)).toNat:Nat):Int)),(56,vi x23)],[(0,bx 25 (zS a1)),(1,ro 0 78 2 o17.length (rf qV o17)),(2,ro 0 80 3 l22n (rf qO l22))]⟩
def qGS (l36:List qM):St:=
 ⟨[(13,vo 2 0 3 l36.length)],[(2,ro 0 80 3 l36.length (rf qO l36))]⟩
theorem qPu (E:Env 0) (a1:Scan) (a2:Int) (a3:Int):∀(n:Nat) (l8:List qG) (l8n:Nat) (x9:Int) (res:((List qM)×Int)⊕(List qG)),l8.length=l8n->PK a1 a2 a3 n l8 x9=some res->HL (kx E 94 0) (nd f23 244) (wC 0 (λo=>qHk a1 o) (λv st=>RetQ Tryz.prog f23 (TR v) (TO v) .ret st) res) n (qAm a1 a2 a3 l8 l8n x9):=by
 intro n
 induction n with
 |zero=>
  intro l8 l8n x9 res hl0 hm;cases hm
 |succ n ih=>
  intro l8 l8n x9 res hl0 hm;subst hl0;refine qR (s_va 2 [(29,vb (decide (x9<(a1.Rings.length:Int))))] ?_);refine q_sq (q_cq hm (λhm=>?_) (λhm=>?_))
  ·refine q_sk (q_sq ?_);refine q_bk 1 (s_vv [] 2 [29] [(10,vi x9)] ?_);obtain⟨g11,hm⟩:=qI hm;obtain⟨v12,h13,hm⟩:=qC hm;refine s_vu [qi 3 g11,qc 7 [36,37,38] 2 (qMT (a1.Rings.getD x9.toNat dd) a2 a3 v12 h13)] 2 [] [(11,vp 3 0),(12,vi v12.2)] [] [(2,ro 0 53 2 v12.1.Rows.length (rf qE v12.1.Rows)),(3,bx 78 [ci v12.1.Low,.own 2 0 2 v12.1.Rows.length])] (q_sq ?_);refine s_vv [] 4 [12] [(43,vb (v12.2 !=0))] (q_cq hm (λhm=>?_) (λhm=>?_))
   ·refine s_vn [] 4 ⟨[(6,vc (.emp)),(7,vi 30)],[]⟩ (q_fo 6 4 80 3 qO ?_);refine q_fl 6 4 80 3 qO ?_;obtain rfl:=oi hm;refine q_sw 4 0 (q_rt ?_);exact zJ (([]:List qM),30) q_rm
   ·refine q_sk ?_;obtain⟨g15,hm⟩:=qI hm;refine q_vu [qi 3 g15,qd 4 (dpr [.frz 2] (drw 0 0 (rf qV (l8.set x9.toNat v12.1)))) (And.intro (kd v12.1.Rows.length) (kd v12.1.Rows.length)),qd 4 dN (stP qV dd v12.1 l8 l8.length x9.toNat 0 (qV v12.1) rfl (qW (zD g15)) rfl)] 4 [10,11,43] [] [1,2,3] [(1,ro 0 78 2 l8.length (rf qV (l8.set x9.toNat v12.1)))] (q_vv [] 4 [28] [(28,vi (w64 (x9+1)))] ?_);exact q_hl (qAm a1 a2 a3 (l8.set x9.toNat v12.1) l8.length (w64 (x9+1))) (ih (l8.set x9.toNat v12.1) l8.length (w64 (x9+1)) _ (jI rfl) hm)
  ·refine q_ex 0 ?_;obtain rfl:=oi hm;exact q_l1 l8
theorem qOR (E:Env 0) (a1:Scan) (o17:(List qG)):∀(n:Nat) (l22:List qM) (l22n:Nat) (x23:Int) (res:((List qM)×Int)⊕(List qM)),l22.length=l22n->PG a1 o17 n l22 x23=some res->HL (kx E 94 0) (nd f23 1012) (wC 2 qGS (λv st=>RetQ Tryz.prog f23 (TR v) (TO v) .ret st) res) n (qAK a1 o17 l22 l22n x23):=by
 intro n
 induction n with
 |zero=>
  intro l22 l22n x23 res hl0 hm;cases hm
 |succ n ih=>
  intro l22 l22n x23 res hl0 hm;subst hl0;refine qR (s_va 3 [(57,vb (decide (x23<(((w64 ((a1.Rings.length:Int)-1)).toNat:Nat):Int))))] ?_);refine q_sq (q_cq hm (λhm=>?_) (λhm=>?_))
  ·refine q_sk (q_sq ?_);refine q_bk 3 (s_vv [] 3 [57] [(14,vi x23)] ?_);obtain⟨g25,hm⟩:=qI hm;obtain⟨g26,hm⟩:=qI hm;obtain⟨v27,h28,hm⟩:=qC hm;refine s_du [qi 2 g25,qd 3 dN (qW (zD g25)),qi 7 g26,qd 8 dN (qW (zD g26)),qc 9 [62,67] 3 (qRT (o17.getD x23.toNat dd) (o17.getD ((w64 (x23+1)).toNat) dd) v27 h28)] [0,0,3,7,0,0,32,112,240,511,0,2047] 3 [] [(15,vp 4 0)] [] [(3,ro 0 53 2 v27.Rows.length (rf qE v27.Rows)),(4,bx 78 [ci v27.Low,.own 3 0 2 v27.Rows.length])] (q_sq ?_);refine s_va 5 [(72,vb ((v27.Rows.length:Int)==0))] (q_cq hm (λhm=>?_) (λhm=>?_))
   ·refine s_vn [] 5 ⟨[(6,vc (.emp)),(7,vi 30)],[]⟩ (q_fo 6 5 80 3 qO ?_);refine q_fl 6 5 80 3 qO ?_;obtain rfl:=oi hm;refine q_sw 5 0 (q_rt ?_);exact zJ (([]:List qM),30) q_rm
   ·refine q_sk ?_;obtain⟨g33,hm⟩:=qI hm;obtain⟨g34,hm⟩:=qI hm;obtain⟨g35,hm⟩:=qI hm
    refine q_xu [.frz 3] (o1 (kd v27.Rows.length)) [qi 6 g33,qi 12 g34,qi 18 g35,qd 19 (drw 0 0 (rf qO (l22.set x23.toNat (qM.mk (w64 (((a1.Rings.getD (w64 (x23+1)).toNat dd).Z)-((a1.Rings.getD x23.toNat dd).Z))) v27)))) (stP qO dd (qM.mk (w64 (((a1.Rings.getD (w64 (x23+1)).toNat dd).Z)-((a1.Rings.getD x23.toNat dd).Z))) v27) l22 l22.length x23.toNat 0 [ci (w64 (((a1.Rings.getD (w64 (x23+1)).toNat dd).Z)-((a1.Rings.getD x23.toNat dd).Z))),ci v27.Low,tl qE dd v27.Rows] rfl (qW (zD g35)) rfl)] [] o0 [0,0,0,4,0,16,60,124,252,0,512,0,3584,7680,15872,32764,0,131068,262143,524287] 5 [14,15,72] [] [2,3,4] [(2,ro 0 80 3 l22.length (rf qO (l22.set x23.toNat (qM.mk (w64 (((a1.Rings.getD (w64 (x23+1)).toNat dd).Z)-((a1.Rings.getD x23.toNat dd).Z))) v27))))] ?_
    exact q_vv [] 5 [56] [(56,vi (w64 (x23+1)))] (q_hl (qAK a1 o17 (l22.set x23.toNat (qM.mk (w64 (((a1.Rings.getD (w64 (x23+1)).toNat dd).Z)-((a1.Rings.getD x23.toNat dd).Z))) v27)) l22.length (w64 (x23+1))) (ih (l22.set x23.toNat (qM.mk (w64 (((a1.Rings.getD (w64 (x23+1)).toNat dd).Z)-((a1.Rings.getD x23.toNat dd).Z))) v27)) l22.length (w64 (x23+1)) _ (jI rfl) hm))
  ·refine q_ex 2 ?_;obtain rfl:=oi hm;exact q_l1 l22
theorem qUF (a1:Scan) (a2:Int) (a3:Int) (r:(List qM)×Int) (hm:MN a1 a2 a3=some r):CtX Tryz.prog globs 23 0 0 [.agg (zS a1),.one (ci a2),.one (ci a3)] [] (TR r) (TO r):=by
 unfold MN at hm;refine q_E f23 94 λE=>?_;refine s_vn [] 0 ⟨[(1,vi a2),(2,vi a3),(3,vp 0 0)],[(0,bx 25 (zS a1))]⟩ (q_sq ?_);obtain⟨v4,h5,hm⟩:=qC hm;refine s_vv [qc 1 [16] 1 (qKy a1 v4 h5)] 1 [] [(8,vi v4)] (s_va 1 [(19,vb (v4 !=0))] ?_);refine q_cq hm (λhm=>?_) (λhm=>?_)
 ·refine s_vn [] 1 ⟨[(6,vc (.emp)),(7,vi v4)],[]⟩ (q_fo 6 1 80 3 qO ?_);refine q_fl 6 1 80 3 qO ?_;obtain rfl:=oi hm;exact q_sw 1 0 (q_rt q_rm)
 ·refine q_sk ?_;obtain⟨g7,hm⟩:=qI hm;refine s_vu [qd 3 (drw 1 0 (rf qV (List.replicate ((a1.Rings.length:Int).toNat) (qG.mk 0 ([]:List Span))))) (mkPe qV dd (qG.mk 0 ([]:List Span)) (a1.Rings.length:Int) 32 [ci 0,.emp] (UQ g7) (.same _ (.emp _ .nil)))] 1 [8,19] [(9,vo 1 0 2 ((a1.Rings.length:Int).toNat))] [] [(1,ro 0 78 2 ((a1.Rings.length:Int).toNat) (rf qV (List.replicate ((a1.Rings.length:Int).toNat) (qG.mk 0 ([]:List Span)))))] (q_sq ?_);refine s_va 2 [(27,vi (a1.Rings.length:Int)),(28,vi 0)] ?_;obtain⟨u19,h18,hm⟩:=qC hm
  refine zQ (nd f23 244) 0 (by kernel_rfl) FUEL (λo=>qHk a1 o) (λv st=>RetQ Tryz.prog f23 (TR v) (TO v) .ret st) u19 (q_hl (qAm a1 a2 a3 (List.replicate ((a1.Rings.length:Int).toNat) (qG.mk 0 ([]:List Span))) ((a1.Rings.length:Int).toNat) 0) (qPu E a1 a2 a3 FUEL (List.replicate ((a1.Rings.length:Int).toNat) (qG.mk 0 ([]:List Span))) ((a1.Rings.length:Int).toNat) 0 u19 TV h18)) ?_ ?_
  ·rintro v20 rfl st hr;obtain rfl:=oi hm;exact hr
  ·rintro o17 rfl;replace hm:_=some r:=hm;obtain⟨g21,hm⟩:=qI hm;refine s_vu [qd 4 (drw 2 0 (rf qO (List.replicate ((w64 ((a1.Rings.length:Int)-1)).toNat) (qM.mk 0 (qG.mk 0 ([]:List Span)))))) (mkPe qO dd (qM.mk 0 (qG.mk 0 ([]:List Span))) (w64 ((a1.Rings.length:Int)-1)) 40 [ci 0,ci 0,.emp] (UQ g21) (.same _ (.same _ (.emp _ .nil))))] 2 [] [(13,vo 2 0 3 ((w64 ((a1.Rings.length:Int)-1)).toNat))] [] [(2,ro 0 80 3 ((w64 ((a1.Rings.length:Int)-1)).toNat) (rf qO (List.replicate ((w64 ((a1.Rings.length:Int)-1)).toNat) (qM.mk 0 (qG.mk 0 ([]:List Span))))))] (q_sq ?_)
   refine s_va 3 [(55,vi (((w64 ((a1.Rings.length:Int)-1)).toNat:Nat):Int)),(56,vi 0)] ?_;obtain⟨u39,h38,hm⟩:=qC hm;refine zQ (nd f23 1012) 2 (by kernel_rfl) FUEL qGS (λv st=>RetQ Tryz.prog f23 (TR v) (TO v) .ret st) u39 (q_hl (qAK a1 o17 (List.replicate ((w64 ((a1.Rings.length:Int)-1)).toNat) (qM.mk 0 (qG.mk 0 ([]:List Span)))) ((w64 ((a1.Rings.length:Int)-1)).toNat) 0) (qOR E a1 o17 FUEL (List.replicate ((w64 ((a1.Rings.length:Int)-1)).toNat) (qM.mk 0 (qG.mk 0 ([]:List Span)))) ((w64 ((a1.Rings.length:Int)-1)).toNat) 0 u39 TV h38)) ?_ ?_
   ·rintro v40 rfl st hr;obtain rfl:=oi hm;exact hr
   ·rintro o37 rfl;replace hm:_=some r:=hm;refine s_vv [] 3 [13] [(6,vo 2 0 3 o37.length),(7,vi 0)] ?_;obtain rfl:=oi hm;exact q_sw 2 0 (q_rt q_rm)
end Saw
end Go.SL

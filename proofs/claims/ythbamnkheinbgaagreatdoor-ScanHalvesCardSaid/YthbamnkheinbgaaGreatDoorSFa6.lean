import Derived.Test.YthbamnkheinbgaaGreatDoorSBase
import Derived.Test.YthbamnkheinbgaaGreatDoorSFa5
import Derived.Test.YthbamnkheinbgaaGreatDoorSFa2
set_option linter.unusedVariables false
set_option linter.unusedSimpArgs false
namespace Go.SL
namespace Saw
open Go.Proofs Go.Proofs.Tryz
set_option maxHeartbeats 4000000
set_option maxRecDepth 100000
def NJ (a1:qI) (r:Bool):V:=vb r
def FG (a1:qI) (r:Bool):List (Nat×(Nat×O)):=[(0,bx 172 (qN a1))]
theorem qB4 (a1:qI) (r:Bool) (hm:TJ a1=some r):CtX Tryz.prog globs 160 1 1 [.one (.bptr 0 0 0)] [(0,bx 172 (qN a1))] (NJ a1 r) (FG a1 r):=by
 unfold TJ at hm;refine q_E f160 12 λE=>?_;refine s_vn [] 1 ⟨[(0,vp 0 0)],[(0,bx 172 (qN a1))]⟩ (s_vv [] 1 [0] [(2,vb (a1.e !=0))] ?_);obtain rfl:=oi hm;exact q_rt q_rm
def NX (a1:Int) (a2:Int) (a3:qI) (r:Int×Int×Int):V:= .tup [.one (.val (.int .u64 r.1)),.one (ci r.2.1),.one (ci r.2.2)]
def NR (a1:Int) (a2:Int) (a3:qI) (r:Int×Int×Int):List (Nat×(Nat×O)):=[(0,bx 172 (qN a3))]
def qAz (a3:qI) (v4:Int×Int×Int) (x8:Bool):St:=
 ⟨[(9,vc (.val (.int .u64 v4.1))),(10,vi v4.2.1),(29,vb x8)],[(0,bx 172 (qN a3))]⟩
theorem qBX (a1:Int) (a2:Int) (a3:qI) (r:Int×Int×Int) (hm:TH a1 a2 a3=some r):CtX Tryz.prog globs 161 1 1 [.one (.bptr 0 0 0),.one (ci a1),.one (ci a2)] [(0,bx 172 (qN a3))] (NX a1 a2 a3 r) (NR a1 a2 a3 r):=by
 unfold TH at hm;refine q_E f161 32 λE=>?_;refine s_vn [] 1 ⟨[(0,vp 0 0),(1,vi a1),(2,vi a2)],[(0,bx 172 (qN a3))]⟩ ?_;obtain⟨v4,h5,hm⟩:=qE hm;refine s_vv [qd 2 (dex (cen [(0,0)] [0] 0 1 (yX a1 a3 v4) (yR a1 a3 v4) [13,14] [0])) (zK (K:=(kx E 32 1)) ⟨[(13,vp 0 0),(14,vi a1)],[(0,bx 172 (qN a3))]⟩ (opAt (rg f161 6) 2) [(0,0)] [0] 0 o0 rfl (NS a1 a3 v4 h5) (.inl rfl) (by kernel_rfl))] 1 [0,1] [(9,vc (.val (.int .u64 v4.1))),(10,vi v4.2.1),(11,vi v4.2.2)] (q_sq ?_);refine s_va 1 [(20,vb (v4.2.2 !=0))] (q_cq hm (λhm=>?_) (λhm=>?_))
 ·refine s_vv [] 1 [2,9,10,11,20] [(6,vc (.val (.int .u64 0))),(7,vi 0),(8,vi v4.2.2)] ?_;obtain rfl:=oi hm;exact q_rt q_rm
 ·refine q_sk (q_sq ?_);refine q_jn (qAz a3 v4) (λp=>XJ v4 p=some r) ?_ ?_
  ·rintro x8 hm;refine q_cq hm (λhm=>?_) (λhm=>?_)
   ·refine s_vv [] 1 [9,10,29] [(6,vc (.val (.int .u64 0))),(7,vi 0),(8,vi 4)] ?_;obtain rfl:=oi hm;exact q_rt q_rm
   ·refine q_sk (s_vv [] 1 [9,10,29] [(6,vc (.val (.int .u64 v4.1))),(7,vi v4.2.1),(8,vi 0)] ?_);obtain rfl:=oi hm;exact q_rt q_rm
  ·rcases bif_c hm with⟨b7,hm⟩|⟨b7,hm⟩
   ·exact q_vv [qf 2 b7] 1 [2,11,20] [(29,vb true)] (q_J (true) hm)
   ·exact q_vv [qf 2 b7] 1 [2,11,20] [(29,vb (decide (v4.1>(IntKind.u64.wrap (a2)))))] (q_J (decide (v4.1>(IntKind.u64.wrap (a2)))) hm)
def AU (a1:Int) (a2:Int) (a3:qI) (r:Int×Int):V:= .undef
def AR (a1:Int) (a2:Int) (a3:qI) (r:Int×Int):List (Nat×(Nat×O)):=[(0,bx 172 [cs a3.s,ci r.1,ci r.2])]
theorem qEf (a1:Int) (a2:Int) (a3:qI) (r:Int×Int) (hm:BV a1 a2 a3=some r):CtX Tryz.prog globs 163 1 1 [.one (.bptr 0 0 0),.one (ci a1),.one (ci a2)] [(0,bx 172 (qN a3))] (AU a1 a2 a3 r) (AR a1 a2 a3 r):=by
 unfold BV at hm;refine q_E f163 16 λE=>?_;refine q_sq (s_va 1 [(7,vb (a2 !=0))] ?_);refine q_cq hm (λhm=>?_) (λhm=>?_)
 ·refine s_vn [] 1 ⟨[],[(0,bx 172 [cs a3.s,ci a3.at_,ci a2])]⟩ ?_;obtain rfl:=oi hm;exact q_rt q_rm
 ·refine q_sk (q_vn [] 1 ⟨[],[(0,bx 172 [cs a3.s,ci a1,ci a3.e])]⟩ ?_);obtain rfl:=oi hm;exact q_rm
open Go.Proofs Go.Proofs.Tryz
def EW (a1:Int) (a2:Int) (a3:Int) (a4:qI) (r:(List Int)×Int×Int):V:=vo 1 0 1 r.1.length
def AT (a1:Int) (a2:Int) (a3:Int) (a4:qI) (r:(List Int)×Int×Int):List (Nat×(Nat×O)):=[(0,bx 172 [cs a4.s,ci r.2.1,ci r.2.2]),(1,ro 0 3 1 r.1.length (rf qO r.1))]
def qCd (a2:Int) (a3:Int) (a4:qI) (v8:Int×Int×Int) (x10:Int) (x11:Int) (l12:List Int) (x13:Int) (x15:Bool):St:=
 ⟨[(0,vp 0 0),(2,vi a2),(3,vi a3),(9,vc (.val (.int .u64 v8.1))),(10,vi x10),(11,vi x11),(12,vo 1 0 1 l12.length),(13,vc (.val (.int .u64 x13))),(34,vb x15)],[(0,bx 172 (qN a4)),(1,ro 0 3 1 l12.length (rf qO l12))]⟩
def XW (a2:Int) (a3:Int) (a4:qI) (v8:Int×Int×Int) (x10:Int) (x11:Int) (l12:List Int) (l12n:Nat) (x13:Int):St:=
 ⟨[(0,vp 0 0),(2,vi a2),(3,vi a3),(9,vc (.val (.int .u64 v8.1))),(10,vi x10),(11,vi x11),(12,vo 1 0 1 l12n),(13,vc (.val (.int .u64 x13)))],[(0,bx 172 (qN a4)),(1,ro 0 3 1 l12n (rf qO l12))]⟩
def NN (a4:qI) (x20:Int) (x21:Int) (l22:List Int):St:=
 ⟨[(0,vp 0 0),(10,vi x20),(11,vi x21),(12,vo 1 0 1 l22.length)],[(0,bx 172 (qN a4)),(1,ro 0 3 1 l22.length (rf qO l22))]⟩
theorem qBW (E:Env 1) (a2:Int) (a3:Int) (a4:qI) (v8:Int×Int×Int):∀(n:Nat) (x10:Int) (x11:Int) (l12:List Int) (l12n:Nat) (x13:Int) (res:Int×Int×(List Int)),l12.length=l12n->QJ a2 a3 a4 v8 n x10 x11 l12 x13=some res->HL (kx E 57 1) (nd f109 500) (zS 0 (λo=>NN a4 o.1 o.2.1 o.2.2) res) n (XW a2 a3 a4 v8 x10 x11 l12 l12n x13):=by
 intro n
 induction n with
 |zero=>
  intro x10 x11 l12 l12n x13 res hl0 hm;cases hm
 |succ n ih=>
  intro x10 x11 l12 l12n x13 res hl0 hm;subst hl0;refine qS (q_sq ?_);refine q_jn (qCd a2 a3 a4 v8 x10 x11 l12 x13) (λp=>TL a2 a3 a4 x10 x11 l12 x13 (QJ a2 a3 a4 v8 n) p=some res) ?_ ?_
  ·rintro x15 hm;refine q_cq hm (λhm=>?_) (λhm=>?_)
   ·refine q_sk (q_sq ?_);refine q_bk 1 (s_vv [] 2 [11,34] [] ?_);obtain⟨v17,h18,hm⟩:=qE hm;refine s_vv [qd 4 (dex (cen [(0,0)] [0] 1 1 (LJ x10 a2 a3 a4 v17) (FR x10 a2 a3 a4 v17) [38,39,40,41] [0])) (zK (K:=(kx E 57 1)) ⟨[(38,vp 0 0),(39,vi x10),(40,vi a2),(41,vi a3)],[(0,bx 172 (qN a4))]⟩ (opAt (rg f109 16018) 4) [(0,0)] [0] 1 o0 rfl (qCE x10 a2 a3 a4 v17 h18) (.inl rfl) (by kernel_rfl))] 2 [10] [(10,vi v17.2.1),(11,vi v17.2.2),(14,vi v17.1)] ?_;obtain⟨g19,hm⟩:=qK hm
    refine q_vu [qd 2 (drw 2 0 (rf qO [v17.1])) (litP qO dd 1 (λ_=>rfl) ([v17.1]:List Int) 1 rfl),qd 3 (drw 1 1 (rf qO (l12++[v17.1]))) (apP qO dd l12 ([v17.1]:List Int) l12.length 1 1 8 (1<=1) (kr _) rfl rfl (λ_=>rfl) (zW g19))] 2 [12,14] [(12,vo 1 1 1 (l12.length+1))] [1] [(1,ro 1 3 1 (l12.length+1) (rf qO (l12++[v17.1])))] (q_vv [] 3 [13] [(13,vc (.val (.int .u64 (IntKind.u64.wrap (x13+1)))))] ?_)
    exact q_hl (XW a2 a3 a4 v8 v17.2.1 v17.2.2 (l12++[v17.1]) (l12.length+1) (IntKind.u64.wrap (x13+1))) (ih v17.2.1 v17.2.2 (l12++[v17.1]) (l12.length+1) (IntKind.u64.wrap (x13+1)) _ (wN rfl rfl) hm)
   ·refine q_ex 0 ?_;obtain rfl:=oi hm;exact q_l0
  ·rcases bif_c hm with⟨b14,hm⟩|⟨b14,hm⟩
   ·exact q_vv [qf 3 b14] 2 [] [(34,vb (x11==0))] (q_J (x11==0) hm)
   ·exact q_vv [qf 3 b14] 2 [] [(34,vb false)] (q_J (false) hm)
theorem qD4 (a1:Int) (a2:Int) (a3:Int) (a4:qI) (r:(List Int)×Int×Int) (hm:BP a1 a2 a3 a4=some r):CtX Tryz.prog globs 109 1 1 [.one (.bptr 0 0 0),.one (ci a1),.one (ci a2),.one (ci a3)] [(0,bx 172 (qN a4))] (EW a1 a2 a3 a4 r) (AT a1 a2 a3 a4 r):=by
 unfold BP at hm;refine q_E f109 57 λE=>?_;refine s_vn [] 1 ⟨[(0,vp 0 0),(1,vi a1),(2,vi a2),(3,vi a3)],[(0,bx 172 (qN a4))]⟩ (q_sq ?_);obtain⟨v5,h6,hm⟩:=qE hm;refine s_vv [qd 1 (dex (cen [(0,0)] [0] 0 1 (NJ a4 v5) (FG a4 v5) [15] [0])) (zK (K:=(kx E 57 1)) ⟨[(15,vp 0 0)],[(0,bx 172 (qN a4))]⟩ (opAt (rg f109 12) 1) [(0,0)] [0] 0 o0 rfl (qB4 a4 v5 h6) (.inl rfl) (by kernel_rfl))] 1 [] [(16,vb v5)] (q_cq hm (λhm=>?_) (λhm=>?_))
 ·refine s_vv [] 1 [0,1,2,3,16] [(8,vc (.emp))] (q_fo 8 1 3 1 qO ?_);refine q_fl 8 1 3 1 qO ?_;obtain rfl:=oi hm;exact q_rt q_rm
 ·refine q_sk ?_;obtain⟨v8,h9,hm⟩:=qE hm;refine s_vv [qd 6 (dex (cen [(0,0)] [0] 0 1 (NX a4.at_ a1 a4 v8) (NR a4.at_ a1 a4 v8) [18,22,23] [0])) (zK (K:=(kx E 57 1)) ⟨[(18,vp 0 0),(22,vi a4.at_),(23,vi a1)],[(0,bx 172 (qN a4))]⟩ (opAt (rg f109 14) 6) [(0,0)] [0] 0 o0 rfl (qBX a4.at_ a1 a4 v8 h9) (.inl rfl) (by kernel_rfl))] 1 [1,16] [(9,vc (.val (.int .u64 v8.1))),(10,vi v8.2.1),(11,vi v8.2.2)] (s_va 1 [(12,vc (.emp))] ?_);refine q_sq (s_va 1 [(13,vc (.val (.int .u64 0)))] ?_);refine q_fo 12 1 3 1 qO ?_;obtain⟨o23,h24,hm⟩:=qE hm
  refine zL (nd f109 500) 0 (by kernel_rfl) FUEL (λo=>NN a4 o.1 o.2.1 o.2.2) o23 (q_hl (XW a2 a3 a4 v8 v8.2.1 v8.2.2 ([]:List Int) 0 0) (qBW E a2 a3 a4 v8 FUEL v8.2.1 v8.2.2 ([]:List Int) 0 0 o23 rfl h24)) ?_;obtain⟨v25,h26,hm⟩:=qE hm
  refine s_vu [qd 3 (dex (cen [(0,0)] [0] 1 1 (AU o23.1 o23.2.1 a4 v25) (AR o23.1 o23.2.1 a4 v25) [50,51,52] [0])) (zK (K:=(kx E 57 1)) ⟨[(50,vp 0 0),(51,vi o23.1),(52,vi o23.2.1)],[(0,bx 172 (qN a4))]⟩ (opAt (rg f109 126) 3) [(0,0)] [0] 1 o0 rfl (qEf o23.1 o23.2.1 a4 v25 h26) (.inl rfl) (by kernel_rfl))] 2 [0,10] [] [0] [(0,bx 172 [cs a4.s,ci v25.1,ci v25.2])] (q_sq ?_);refine s_vv [] 2 [11] [(55,vb (o23.2.1 !=0))] (q_cq hm (λhm=>?_) (λhm=>?_))
  ·refine s_vu [] 2 [12,55] [(8,vc (.emp))] [1] [] (q_fo 8 2 3 1 qO ?_);refine q_fl 8 2 3 1 qO ?_;obtain rfl:=oi hm;exact q_sw 2 1 (q_rt q_rm)
  ·refine q_sk (s_vv [] 2 [12,55] [(8,vo 1 0 1 o23.2.2.length)] ?_);obtain rfl:=oi hm;exact q_rt q_rm
def GK (a1:Int) (a2:qI) (r:(List Int)×Int×Int):V:=vo 2 0 1 r.1.length
def VR (a1:Int) (a2:qI) (r:(List Int)×Int×Int):List (Nat×(Nat×O)):=[(0,bx 129 [.bptr 1 0 0]),(1,bx 172 [cs a2.s,ci r.2.1,ci r.2.2]),(2,ro 0 3 1 r.1.length (rf qO r.1))]
theorem LU (a1:Int) (a2:qI) (r:(List Int)×Int×Int) (hm:UH a1 a2=some r):CtX Tryz.prog globs 108 2 2 [.one (ci a1),.one (.bptr 0 0 0)] [(0,bx 129 [.bptr 1 0 0]),(1,bx 172 (qN a2))] (GK a1 a2 r) (VR a1 a2 r):=by
 unfold UH at hm;refine q_E f108 7 λE=>?_;refine s_vn [] 2 ⟨[(0,vi a1),(1,vp 0 0)],[(0,bx 129 [.bptr 1 0 0]),(1,bx 172 (qN a2))]⟩ ?_;obtain⟨v3,h4,hm⟩:=qE hm
 refine s_vu [qd 2 (dex (cen [(1,0)] [0] 1 1 (EW a1 (-1099511627776) 1099511627776 a2 v3) (AT a1 (-1099511627776) 1099511627776 a2 v3) [4,5] [1])) (zK (K:=(kx E 7 2)) ⟨[(4,vp 1 0),(5,vi a1)],[(1,bx 172 (qN a2))]⟩ (opAt (rg f108 6) 2) [(1,0)] [0] 1 o0 rfl (qD4 a1 (-1099511627776) 1099511627776 a2 v3 h4) (.inl rfl) (by kernel_rfl))] 2 [0,1] [(3,vo 2 0 1 v3.1.length)] [1] [(1,bx 172 [cs a2.s,ci v3.2.1,ci v3.2.2]),(2,ro 0 3 1 v3.1.length (rf qO v3.1))] ?_;obtain rfl:=oi hm;exact q_rt q_rm
def XN (r:(List qD)×Bool):V:= .tup [.one (.own 0 0 3 r.1.length),.one (cb r.2)]
def yZ (r:(List qD)×Bool):List (Nat×(Nat×O)):=[(0,ro 0 73 3 r.1.length (rf qH r.1))]
theorem qF8 (r:(List qD)×Bool):QM (yZ r):=by
 intro i k o h;unfold yZ at h;rw[look_cons] at h;split at h
 ·cases h;exact λ_ _=>rfl
 ·cases h
def qDa (l2:List Int) (l3:List qD) (x10:Bool):St:=
 ⟨[(0,vc (tl qO dd l2)),(4,vo 0 0 3 l3.length),(19,vb x10)],[(0,ro 0 73 3 l3.length (rf qH l3))]⟩
def WE (l2:List Int) (l3:List qD) (l3n:Nat):St:=
 ⟨[(0,vc (tl qO dd l2)),(4,vo 0 0 3 l3n)],[(0,ro 0 73 3 l3n (rf qH l3))]⟩
def MB (l16:List qD):St:=
 ⟨[(4,vo 0 0 3 l16.length)],[(0,ro 0 73 3 l16.length (rf qH l16))]⟩
theorem qCk (E:Env 0):∀(n:Nat) (l2:List Int) (l3:List qD) (l3n:Nat) (res:((List qD)×Bool)⊕(List qD)),l3.length=l3n->yC n l2 l3=some res->HL (kx E 43 0) (nd f110 56) (jS 0 MB (λv st=>RetQ Tryz.prog f110 (XN v) (yZ v) .ret st) res) n (WE l2 l3 l3n):=by
 intro n
 induction n with
 |zero=>
  intro l2 l3 l3n res hl0 hm;cases hm
 |succ n ih=>
  intro l2 l3 l3n res hl0 hm;subst hl0;refine qS (q_sq ?_);refine s_va 1 [(7,vb (decide ((l2.length:Int)>0)))] (q_cq hm (λhm=>?_) (λhm=>?_))
  ·refine q_sk (q_bk 1 ?_);refine q_bk 2 ?_;obtain⟨g5,hm⟩:=qK hm;refine s_vv [qi 1 g5] 1 [7] [(8,vb ((l2.getD (0:Int).toNat dd)==0))] (q_cq hm (λhm=>?_) (λhm=>?_))
   ·obtain⟨g7,hm⟩:=qK hm;refine s_vu [qd 2 (drw 1 0 (rf qH [(qD.mk (qA.mk 0 0) false)])) (litP qH dd 3 (λ_=>rfl) ([(qD.mk (qA.mk 0 0) false)]:List qD) 1 rfl),qd 3 (drw 0 1 (rf qH (l3++[(qD.mk (qA.mk 0 0) false)]))) (apP qH dd l3 ([(qD.mk (qA.mk 0 0) false)]:List qD) l3.length 1 3 24 (1<=1) (kr _) rfl rfl (λ_=>rfl) (zW g7))] 1 [4,8] [(4,vo 0 1 3 (l3.length+1))] [0] [(0,ro 1 73 3 (l3.length+1) (rf qH (l3++[(qD.mk (qA.mk 0 0) false)])))] ?_;obtain⟨g8,hm⟩:=qK hm
    exact q_vv [qd 1 (drw ((l2.drop ((1:Int).toNat)).length) 0 (rf qO (l2.drop ((1:Int).toNat)))) (slPlo qO dd l2 1 (And.intro (qZ g8).1 (qZ g8).2.1))] 2 [0] [(0,vc (tl qO dd (l2.drop ((1:Int).toNat))))] (q_hl (WE (l2.drop ((1:Int).toNat)) (l3++[(qD.mk (qA.mk 0 0) false)]) (l3.length+1)) (ih (l2.drop ((1:Int).toNat)) (l3++[(qD.mk (qA.mk 0 0) false)]) (l3.length+1) _ (wN rfl rfl) hm))
   ·refine q_jn (qDa l2 l3) (λp=>UN l2 l3 (yC n) p=some res) ?_ ?_
    ·rintro x10 hm;refine q_cq hm (λhm=>?_) (λhm=>?_)
     ·obtain⟨g12,hm⟩:=qK hm;obtain⟨g13,hm⟩:=qK hm;obtain⟨g14,hm⟩:=qK hm
      refine s_du [qi 2 g12,qi 5 g13,qd 9 (drw 1 0 (rf qH [(qD.mk (qA.mk (l2.getD (1:Int).toNat dd) (l2.getD (2:Int).toNat dd)) true)])) (litP qH dd 3 (λ_=>rfl) ([(qD.mk (qA.mk (l2.getD (1:Int).toNat dd) (l2.getD (2:Int).toNat dd)) true)]:List qD) 1 rfl),qd 10 (drw 0 1 (rf qH (l3++[(qD.mk (qA.mk (l2.getD (1:Int).toNat dd) (l2.getD (2:Int).toNat dd)) true)]))) (apP qH dd l3 ([(qD.mk (qA.mk (l2.getD (1:Int).toNat dd) (l2.getD (2:Int).toNat dd)) true)]:List qD) l3.length 1 3 24 (1<=1) (kr _) rfl rfl (λ_=>rfl) (zW g14))] [0,0,2,6,0,16,48,126,254,510,1023,2047] 1 [4,19] [(4,vo 0 1 3 (l3.length+1))] [0] [(0,ro 1 73 3 (l3.length+1) (rf qH (l3++[(qD.mk (qA.mk (l2.getD (1:Int).toNat dd) (l2.getD (2:Int).toNat dd)) true)])))] ?_
      obtain⟨g15,hm⟩:=qK hm;exact q_vv [qd 1 (drw ((l2.drop ((3:Int).toNat)).length) 0 (rf qO (l2.drop ((3:Int).toNat)))) (slPlo qO dd l2 3 (And.intro (qZ g15).1 (qZ g15).2.1))] 2 [0] [(0,vc (tl qO dd (l2.drop ((3:Int).toNat))))] (q_hl (WE (l2.drop ((3:Int).toNat)) (l3++[(qD.mk (qA.mk (l2.getD (1:Int).toNat dd) (l2.getD (2:Int).toNat dd)) true)]) (l3.length+1)) (ih (l2.drop ((3:Int).toNat)) (l3++[(qD.mk (qA.mk (l2.getD (1:Int).toNat dd) (l2.getD (2:Int).toNat dd)) true)]) (l3.length+1) _ (wN rfl rfl) hm))
     ·refine s_vn [] 1 ⟨[(2,vc (.emp)),(3,vb false)],[]⟩ (q_fo 2 1 73 3 qH ?_);refine q_fl 2 1 73 3 qH ?_;obtain rfl:=oi hm;refine q_sw 1 0 (q_rt ?_);exact zZ (([]:List qD),false) q_rm
    ·rcases bif_c hm with⟨b9,hm⟩|⟨b9,hm⟩
     ·exact q_vv [qi 1 g5,qf 4 b9] 1 [8] [(19,vb (decide ((l2.length:Int)≥3)))] (q_J (decide ((l2.length:Int)≥3)) hm)
     ·exact q_vv [qi 1 g5,qf 4 b9] 1 [8] [(19,vb false)] (q_J (false) hm)
  ·refine q_ex 0 ?_;obtain rfl:=oi hm;exact q_l1 l3
theorem qFe (a1:List Int) (r:(List qD)×Bool) (hm:LI a1=some r):CtX Tryz.prog globs 110 0 0 [.one (tl qO dd a1)] [] (XN r) (yZ r):=by
 unfold LI at hm;refine q_E f110 43 λE=>?_;refine s_vn [] 0 ⟨[(0,vc (tl qO dd a1))],[]⟩ (s_va 0 [(4,vc (.emp))] ?_);refine q_sq (q_fo 4 0 73 3 qH ?_);obtain⟨u19,h18,hm⟩:=qE hm;refine wJ (nd f110 56) 0 (by kernel_rfl) FUEL MB (λv st=>RetQ Tryz.prog f110 (XN v) (yZ v) .ret st) u19 (q_hl (WE a1 ([]:List qD) 0) (qCk E FUEL a1 ([]:List qD) 0 u19 rfl h18)) ?_ ?_
 ·rintro v20 rfl st hr;obtain rfl:=oi hm;exact hr
 ·rintro o17 rfl;replace hm:_=some r:=hm;refine s_vv [] 1 [4] [(2,vo 0 0 3 o17.length),(3,vb true)] ?_;obtain rfl:=oi hm;exact q_rt q_rm
open Go.Proofs Go.Proofs.Tryz
def qGR (r:qI):V:=vp 0 0
def qGO (r:qI):List (Nat×(Nat×O)):=[(0,bx 172 (qN r))]
theorem qFJ (a1:ByteArray) (r:qI) (hm:SF a1=some r):CtX Tryz.prog globs 107 0 0 [.one (cs a1)] [] (qGR r) (qGO r):=by
 unfold SF at hm;refine q_E f107 6 λE=>?_;refine s_vn [] 0 ⟨[(0,vc (cs a1))],[]⟩ (s_vn [] 0 ⟨[(2,vp 0 0)],[(0,bx 172 [cs a1,ci 0,ci 0])]⟩ ?_);obtain rfl:=oi hm;exact q_rt q_rm
def qAn (r:(List qF)×Bool):V:= .tup [.one (.own 0 0 7 r.1.length),.one (cb r.2)]
def PL (r:(List qF)×Bool):List (Nat×(Nat×O)):=[(0,ro 0 68 7 r.1.length (rf qJ r.1))]
theorem qGQ (r:(List qF)×Bool):QM (PL r):=by
 intro i k o h;unfold PL at h;rw[look_cons] at h;split at h
 ·cases h;exact λ_ _=>rfl
 ·cases h
def TI (l3:List Int) (l4:List qF) (l4n:Nat):St:=
 ⟨[(0,vc (tl qO dd l3)),(4,vo 0 0 7 l4n)],[(0,ro 0 68 7 l4n (rf qJ l4))]⟩
def MG (l15:List qF):St:=
 ⟨[(4,vo 0 0 7 l15.length)],[(0,ro 0 68 7 l15.length (rf qJ l15))]⟩
theorem qDK (E:Env 0):∀(n:Nat) (l3:List Int) (l4:List qF) (l4n:Nat) (res:(List qF)),l4.length=l4n->DA n l3 l4=some res->HL (kx E 46 0) (nd f111 120) (zS 0 MG res) n (TI l3 l4 l4n):=by
 intro n
 induction n with
 |zero=>
  intro l3 l4 l4n res hl0 hm;cases hm
 |succ n ih=>
  intro l3 l4 l4n res hl0 hm;subst hl0;refine qS (q_sq ?_);refine s_va 1 [(12,vb (decide ((l3.length:Int)>0)))] (q_cq hm (λhm=>?_) (λhm=>?_))
  ·refine q_sk (q_sq ?_);refine q_bk 1 ?_;obtain⟨g6,hm⟩:=qK hm;obtain⟨g7,hm⟩:=qK hm;obtain⟨g8,hm⟩:=qK hm;obtain⟨g9,hm⟩:=qK hm;obtain⟨g10,hm⟩:=qK hm;obtain⟨g11,hm⟩:=qK hm;refine s_du [qi 1 g6,qi 4 g7,qi 8 g8,qi 11 g9,qi 15 g10,qi 18 g11] [0,1,3,0,8,24,63,0,128,384,0,1024,3072,8064,0,16384,49152,0,131072,393216,1032192,2097151,0,8388607] 1 [12] [(5,vp 1 0)] [] [(1,bx 66 [ci (l3.getD (1:Int).toNat dd),ci (l3.getD (2:Int).toNat dd),ci (l3.getD (3:Int).toNat dd),ci (l3.getD (4:Int).toNat dd),ci (l3.getD (5:Int).toNat dd),ci (l3.getD (6:Int).toNat dd)])] ?_;obtain⟨g12,hm⟩:=qK hm
   obtain⟨g13,hm⟩:=qK hm
   refine q_du [qi 2 g12,qd 6 (drw 2 0 (rf qJ [(qF.mk (l3.getD (0:Int).toNat dd) (Box.mk (Span.mk (l3.getD (1:Int).toNat dd) (l3.getD (2:Int).toNat dd)) (Span.mk (l3.getD (3:Int).toNat dd) (l3.getD (4:Int).toNat dd)) (Span.mk (l3.getD (5:Int).toNat dd) (l3.getD (6:Int).toNat dd))))])) (litP qJ dd 7 (λ_=>rfl) ([(qF.mk (l3.getD (0:Int).toNat dd) (Box.mk (Span.mk (l3.getD (1:Int).toNat dd) (l3.getD (2:Int).toNat dd)) (Span.mk (l3.getD (3:Int).toNat dd) (l3.getD (4:Int).toNat dd)) (Span.mk (l3.getD (5:Int).toNat dd) (l3.getD (6:Int).toNat dd))))]:List qF) 1 rfl),qd 7 (drw 0 1 (rf qJ (l4++[(qF.mk (l3.getD (0:Int).toNat dd) (Box.mk (Span.mk (l3.getD (1:Int).toNat dd) (l3.getD (2:Int).toNat dd)) (Span.mk (l3.getD (3:Int).toNat dd) (l3.getD (4:Int).toNat dd)) (Span.mk (l3.getD (5:Int).toNat dd) (l3.getD (6:Int).toNat dd))))]))) (apP qJ dd l4 ([(qF.mk (l3.getD (0:Int).toNat dd) (Box.mk (Span.mk (l3.getD (1:Int).toNat dd) (l3.getD (2:Int).toNat dd)) (Span.mk (l3.getD (3:Int).toNat dd) (l3.getD (4:Int).toNat dd)) (Span.mk (l3.getD (5:Int).toNat dd) (l3.getD (6:Int).toNat dd))))]:List qF) l4.length 1 7 56 (1<=1) (kr _) rfl rfl (λ_=>rfl) (zW g13))] [0,0,2,6,0,30,62,127,255] 2 [4,5] [(4,vo 0 1 7 (l4.length+1))] [0,1] [(0,ro 1 68 7 (l4.length+1) (rf qJ (l4++[(qF.mk (l3.getD (0:Int).toNat dd) (Box.mk (Span.mk (l3.getD (1:Int).toNat dd) (l3.getD (2:Int).toNat dd)) (Span.mk (l3.getD (3:Int).toNat dd) (l3.getD (4:Int).toNat dd)) (Span.mk (l3.getD (5:Int).toNat dd) (l3.getD (6:Int).toNat dd))))])))] ?_
   obtain⟨g14,hm⟩:=qK hm;refine q_vv [qd 1 (drw ((l3.drop ((7:Int).toNat)).length) 0 (rf qO (l3.drop ((7:Int).toNat)))) (slPlo qO dd l3 7 (And.intro (qZ g14).1 (qZ g14).2.1))] 3 [0] [(0,vc (tl qO dd (l3.drop ((7:Int).toNat))))] ?_
   exact q_hl (TI (l3.drop ((7:Int).toNat)) (l4++[(qF.mk (l3.getD (0:Int).toNat dd) (Box.mk (Span.mk (l3.getD (1:Int).toNat dd) (l3.getD (2:Int).toNat dd)) (Span.mk (l3.getD (3:Int).toNat dd) (l3.getD (4:Int).toNat dd)) (Span.mk (l3.getD (5:Int).toNat dd) (l3.getD (6:Int).toNat dd))))]) (l4.length+1)) (ih (l3.drop ((7:Int).toNat)) (l4++[(qF.mk (l3.getD (0:Int).toNat dd) (Box.mk (Span.mk (l3.getD (1:Int).toNat dd) (l3.getD (2:Int).toNat dd)) (Span.mk (l3.getD (3:Int).toNat dd) (l3.getD (4:Int).toNat dd)) (Span.mk (l3.getD (5:Int).toNat dd) (l3.getD (6:Int).toNat dd))))]) (l4.length+1) _ (wN rfl rfl) hm)
  ·refine q_ex 0 ?_;obtain rfl:=oi hm;exact q_l0
theorem qF9 (a1:List Int) (r:(List qF)×Bool) (hm:MJ a1=some r):CtX Tryz.prog globs 111 0 0 [.one (tl qO dd a1)] [] (qAn r) (PL r):=by
 unfold MJ at hm;refine q_E f111 46 λE=>?_;refine s_vn [] 0 ⟨[(0,vc (tl qO dd a1))],[]⟩ (q_sq ?_);refine s_vv [qd 2 dN (show(7:Int)≠0 by decide)] 0 [] [(9,vb ((Int.tmod (a1.length:Int) 7) !=0))] (q_cq hm (λhm=>?_) (λhm=>?_))
 ·refine s_vn [] 0 ⟨[(2,vc (.emp)),(3,vb false)],[]⟩ (q_fo 2 0 68 7 qJ ?_);refine q_fl 2 0 68 7 qJ ?_;obtain rfl:=oi hm;exact q_rt q_rm
 ·refine q_sk (s_vv [] 0 [9] [(4,vc (.emp))] ?_);refine q_sq (q_fo 4 0 68 7 qJ ?_);obtain⟨o16,h17,hm⟩:=qE hm;refine zL (nd f111 120) 0 (by kernel_rfl) FUEL MG o16 (q_hl (TI a1 ([]:List qF) 0) (qDK E FUEL a1 ([]:List qF) 0 o16 rfl h17)) (s_vv [] 1 [4] [(2,vo 0 0 7 o16.length),(3,vb true)] ?_);obtain rfl:=oi hm;exact q_rt q_rm
def IZ (a1:qI) (r:Int):V:=vi r
def OB (a1:qI) (r:Int):List (Nat×(Nat×O)):=[(0,bx 172 (qN a1))]
theorem qEN (a1:qI) (r:Int) (hm:LN a1=some r):CtX Tryz.prog globs 164 1 1 [.one (.bptr 0 0 0)] [(0,bx 172 (qN a1))] (IZ a1 r) (OB a1 r):=by
 unfold LN at hm;refine q_E f164 9 λE=>?_;refine s_vn [] 1 ⟨[(0,vp 0 0)],[(0,bx 172 (qN a1))]⟩ (q_sq ?_);refine s_va 1 [(4,vb false)] (R_cnF f164 (.tmp 4) 26 27 (by kernel_rfl) (by kernel_rfl) ?_);refine q_sk (s_vv [] 1 [0,4] [(2,vi a1.e)] ?_);obtain rfl:=oi hm;exact q_rt q_rm
open Go.Proofs Go.Proofs.Tryz
def AE (a1:qI) (r:Int):V:=vi r
def AB (a1:qI) (r:Int):List (Nat×(Nat×O)):=[(0,bx 172 (qN a1))]
theorem qD9 (a1:qI) (r:Int) (hm:BO a1=some r):CtX Tryz.prog globs 165 1 1 [.one (.bptr 0 0 0)] [(0,bx 172 (qN a1))] (AE a1 r) (AB a1 r):=by
 unfold BO at hm;refine q_E f165 15 λE=>?_;refine s_vn [] 1 ⟨[(0,vp 0 0)],[(0,bx 172 (qN a1))]⟩ (q_sq ?_);refine s_va 1 [(4,vb false)] (R_cnF f165 (.tmp 4) 26 27 (by kernel_rfl) (by kernel_rfl) ?_);refine q_sk (s_du [] [0,1,3,7,15,0,32,96,224,511,1023] 1 [0,4] [(2,vi (w64 ((a1.s.size:Int)-a1.at_)))] [] [] ?_);obtain rfl:=oi hm;exact q_rt q_rm
def OA (a1:qI) (r:Int):V:=vi r
def IV (a1:qI) (r:Int):List (Nat×(Nat×O)):=[(0,bx 172 (qN a1))]
theorem qEK (a1:qI) (r:Int) (hm:MC a1=some r):CtX Tryz.prog globs 112 1 1 [.one (.bptr 0 0 0)] [(0,bx 172 (qN a1))] (OA a1 r) (IV a1 r):=by
 unfold MC at hm;refine q_E f112 12 λE=>?_;refine s_vn [] 1 ⟨[(0,vp 0 0)],[(0,bx 172 (qN a1))]⟩ (q_sq ?_);obtain⟨v2,h3,hm⟩:=qE hm;refine s_vv [qd 1 (dex (cen [(0,0)] [0] 0 1 (IZ a1 v2) (OB a1 v2) [4] [0])) (zK (K:=(kx E 12 1)) ⟨[(4,vp 0 0)],[(0,bx 172 (qN a1))]⟩ (opAt (rg f112 12) 1) [(0,0)] [0] 0 o0 rfl (qEN a1 v2 h3) (.inl rfl) (by kernel_rfl))] 1 [] [(3,vi v2)] (s_va 1 [(7,vb (v2 !=0))] ?_);refine q_cq hm (λhm=>?_) (λhm=>?_)
 ·refine s_vv [] 1 [0,3,7] [(2,vi v2)] ?_;obtain rfl:=oi hm;exact q_rt q_rm
 ·refine q_sk (q_sq ?_);obtain⟨v5,h6,hm⟩:=qE hm;refine s_vv [qd 1 (dex (cen [(0,0)] [0] 0 1 (AE a1 v5) (AB a1 v5) [9] [0])) (zK (K:=(kx E 12 1)) ⟨[(9,vp 0 0)],[(0,bx 172 (qN a1))]⟩ (opAt (rg f112 28) 1) [(0,0)] [0] 0 o0 rfl (qD9 a1 v5 h6) (.inl rfl) (by kernel_rfl))] 1 [0,3,7] [(11,vb (decide (v5>0)))] (q_cq hm (λhm=>?_) (λhm=>?_))
  ·refine s_vv [] 1 [11] [(2,vi 4)] ?_;obtain rfl:=oi hm;exact q_rt q_rm
  ·refine q_sk (s_vv [] 1 [11] [(2,vi 0)] ?_);obtain rfl:=oi hm;exact q_rt q_rm
def CR (r:Scan×Bool):V:= .tup [.agg [.own 0 0 2 r.1.Rings.length,.own 1 0 7 r.1.Defects.length],.one (cb r.2)]
def CI (r:Scan×Bool):List (Nat×(Nat×O)):=[(0,ro 0 45 2 r.1.Rings.length (rf qM r.1.Rings)),(1,ro 0 68 7 r.1.Defects.length (rf qJ r.1.Defects))]
def DB :St:=
 ⟨[(2,vp 0 0),(4,vp 2 0),(5,vc (.fn 108 [.bptr 2 0 0])),(6,vp 3 0)],[(0,bx 25 [.emp,.emp]),(2,bx 129 [.bptr 1 0 0])]⟩
def zaQ (v2:qI) (v4:(List Int)×Int×Int) (x6:Int) (l7:List Ring) (l7n:Nat) (x8:Int) (x9:Int):St:=
 (DB).up [] [(17,vo 4 0 1 v4.1.length),(18,vi (v4.1.length:Int)),(19,vi x6)] [] [(1,bx 172 [cs v2.s,ci x8,ci x9]),(3,bx 25 [.own 5 0 2 l7n,.emp]),(4,ro 0 3 1 v4.1.length (rf qO v4.1)),(5,ro 0 45 2 l7n (rf qM l7))]
def qBC (l18:List Ring) (x19:qI):St:=
 (DB).up [] [] [] [(1,bx 172 (qN x19)),(3,bx 25 [.own 5 0 2 l18.length,.emp]),(5,ro 0 45 2 l18.length (rf qM l18))]
def qHG (o20:(List Ring)×qI) (v26:(List qF)×Bool) (x31:Bool):St:=
 (DB).up [4,5] [(11,vo 7 0 7 v26.1.length),(53,vb x31)] [2] [(3,bx 25 [.own 5 0 2 o20.1.length,.emp]),(5,ro 0 45 2 o20.1.length (rf qM o20.1)),(7,ro 0 68 7 v26.1.length (rf qJ v26.1))]
theorem qGM (E:Env 0) (v2:qI) (v4:(List Int)×Int×Int):∀(n:Nat) (x6:Int) (l7:List Ring) (l7n:Nat) (x8:Int) (x9:Int) (res:(Scan×Bool)⊕((List Ring)×qI)),l7.length=l7n->zbQ v2 v4 n x6 l7 x8 x9=some res->HL (kx E 58 0) (nd f54 500) (jS 0 (λo=>qBC o.1 o.2) (λv st=>RetQ Tryz.prog f54 (CR v) (CI v) .ret st) res) n (zaQ v2 v4 x6 l7 l7n x8 x9):=by
 intro n
 induction n with
 |zero=>
  intro x6 l7 l7n x8 x9 res hl0 hm;cases hm
 |succ n ih=>
  intro x6 l7 l7n x8 x9 res hl0 hm;subst hl0;refine qS (s_va 6 [(20,vb (decide (x6<(v4.1.length:Int))))] ?_);refine q_sq (q_cq hm (λhm=>?_) (λhm=>?_))
  ·refine q_sk (q_sq ?_);refine q_bk 1 ?_;obtain⟨g11,hm⟩:=qK hm;refine s_vv [qi 0 g11,qd 1 dN (qW (zG g11))] 6 [20] [(8,vi (v4.1.getD x6.toNat dd))] ?_;obtain⟨v12,h13,hm⟩:=qE hm;obtain⟨v14,h15,hm⟩:=qE hm
   refine s_vu [qd 1 (dex (cen [(2,0),(1,0)] [0,0] 4 2 (GK 96 (qI.mk v2.s x8 x9) v12) (VR 96 (qI.mk v2.s x8 x9) v12) [24] [2,1])) (zK (K:=(kx E 58 0)) ⟨[(24,vc (.fn 108 [.bptr 2 0 0]))],[(2,bx 129 [.bptr 1 0 0]),(1,bx 172 [cs v2.s,ci x8,ci x9])]⟩ (opAt (rg f54 32050) 1) [(2,0),(1,0)] [0,0] 4 o0 rfl (LU 96 (qI.mk v2.s x8 x9) v12 h13) (.inl rfl) (by kernel_rfl)),qd 2 (dex (cen [] [] 7 0 (XN v14) (yZ v14) [25] [6])) (zK (K:=(kx E 58 0)) (b:=false) ⟨[(25,vo 6 0 1 v12.1.length)],[(6,ro 0 3 1 v12.1.length (rf qO v12.1))]⟩ (opAt (rg f54 32050) 2) [] [] 7 (o1 (kr v12.1.length)) rfl (qFe v12.1 v14 h15) (.inr ⟨(by kernel_rfl),qF8 v14⟩) (by kernel_rfl))] 6 [] [(9,vo 7 0 3 v14.1.length),(10,vb v14.2)] [1] [(1,bx 172 [cs ((qI.mk v2.s x8 x9).s),ci v12.2.1,ci v12.2.2]),(7,ro 0 73 3 v14.1.length (rf qH v14.1))] ?_
   refine q_sq (s_vv [] 8 [10] [(30,vb (!v14.2))] ?_);refine q_cq hm (λhm=>?_) (λhm=>?_)
   ·refine s_vn [] 8 ⟨[(2,vp 0 0),(3,vb false)],[(0,bx 25 [.emp,.emp])]⟩ (q_fu [.ownB 0 0 8 45 2 (rf qM [])] [] [] [0] [(0,bx 25 [.own 8 0 2 0,.emp]),(8,ro 0 45 2 0 (rf qM []))] o0 ?_);refine q_fu [.ownB 0 1 9 68 7 (rf qJ [])] [] [] [0] [(0,bx 25 [.own 8 0 2 0,.own 9 0 7 0]),(9,ro 0 68 7 0 (rf qJ []))] o0 (q_fu [.len 8 (([]:List Ring).length)] [] [] [0,8] [(0,bx 25 [.own 8 0 2 (([]:List Ring).length),.own 9 0 7 0]),(8,ro 0 45 2 (([]:List Ring).length) (rf qM []))] (o1 (And.intro (show 0=([]:List Ring).length from rfl) (show 0=([]:List Ring).length from rfl))) ?_)
    refine q_fu [.len 9 (([]:List qF).length)] [] [] [0,9] [(0,bx 25 [.own 8 0 2 (([]:List Ring).length),.own 9 0 7 (([]:List qF).length)]),(9,ro 0 68 7 (([]:List qF).length) (rf qJ []))] (o1 (And.intro (show 0=([]:List qF).length from rfl) (show 0=([]:List qF).length from rfl))) ?_;obtain rfl:=oi hm;refine q_sw 8 0 (q_sw 9 1 ?_);refine q_rt (zZ ((Scan.mk ([]:List Ring) ([]:List qF)),false) ?_);exact q_rm
   ·refine q_sk ?_;obtain⟨g17,hm⟩:=qK hm
    refine q_vu [qd 5 (dpr [.frz 7] (drw 8 0 (rf qM [(Ring.mk (v4.1.getD x6.toNat dd) v14.1)]))) (And.intro (kr v14.1.length) (And.intro (kr v14.1.length) (kr v14.1.length))),qd 5 dN (litP qM dd 2 (λ_=>rfl) ([(Ring.mk (v4.1.getD x6.toNat dd) v14.1)]:List Ring) 1 rfl),qd 6 (drw 5 1 (rf qM (l7++[(Ring.mk (v4.1.getD x6.toNat dd) v14.1)]))) (apP qM dd l7 ([(Ring.mk (v4.1.getD x6.toNat dd) v14.1)]:List Ring) l7.length 1 2 32 (1<=1) (kr _) rfl rfl (λ_=>rfl) (zW g17))] 8 [8,9,30] [] [3,5,7] [(3,bx 25 [.own 5 1 2 (l7.length+1),.emp]),(5,ro 1 45 2 (l7.length+1) (rf qM (l7++[(Ring.mk (v4.1.getD x6.toNat dd) v14.1)])))] (q_vv [] 9 [19] [(19,vi (w64 (x6+1)))] ?_)
    exact q_hl (zaQ v2 v4 (w64 (x6+1)) (l7++[(Ring.mk (v4.1.getD x6.toNat dd) v14.1)]) (l7.length+1) v12.2.1 v12.2.2) (ih (w64 (x6+1)) (l7++[(Ring.mk (v4.1.getD x6.toNat dd) v14.1)]) (l7.length+1) v12.2.1 v12.2.2 _ (wN rfl rfl) hm)
  ·refine q_ex 0 ?_;obtain rfl:=oi hm;exact L1_mk (l7,(qI.mk v2.s x8 x9)) (by kernel_rfl) (by kernel_rfl)
theorem qKU (a1:ByteArray) (r:Scan×Bool) (hm:qDy a1=some r):CtX Tryz.prog globs 54 0 0 [.one (cs a1)] [] (CR r) (CI r):=by
 unfold qDy at hm;refine q_E f54 58 λE=>?_;refine s_vn [] 0 ⟨[(0,vc (cs a1)),(2,vp 0 0)],[(0,bx 25 [.emp,.emp])]⟩ ?_;obtain⟨v2,h3,hm⟩:=qE hm;refine s_vu [qc 1 [13] 1 (qFJ a1 v2 h3)] 1 [0] [(4,vp 2 0)] [] [(1,bx 172 (qN v2)),(2,bx 129 [.bptr 1 0 0])] (s_va 3 [(5,vc (.fn 108 [.bptr 2 0 0]))] ?_);refine s_vu [] 3 [] [(6,vp 3 0)] [] [(3,bx 25 [.emp,.emp])] (q_sq ?_);obtain⟨v4,h5,hm⟩:=qE hm
 refine s_vu [qd 1 (dex (cen [(2,0),(1,0)] [0,0] 2 2 (GK 24 v2 v4) (VR 24 v2 v4) [16] [2,1])) (zK (K:=(kx E 58 0)) ⟨[(16,vc (.fn 108 [.bptr 2 0 0]))],[(2,bx 129 [.bptr 1 0 0]),(1,bx 172 (qN v2))]⟩ (opAt (rg f54 124) 1) [(2,0),(1,0)] [0,0] 2 o0 rfl (LU 24 v2 v4 h5) (.inl rfl) (by kernel_rfl))] 4 [] [(17,vo 4 0 1 v4.1.length),(18,vi (v4.1.length:Int)),(19,vi 0)] [1] [(1,bx 172 [cs v2.s,ci v4.2.1,ci v4.2.2]),(4,ro 0 3 1 v4.1.length (rf qO v4.1))] (q_fu [.ownB 3 0 5 45 2 (rf qM [])] [] [] [3] [(3,bx 25 [.own 5 0 2 0,.emp]),(5,ro 0 45 2 0 (rf qM []))] o0 ?_);obtain⟨u22,h21,hm⟩:=qE hm
 refine wJ (nd f54 500) 0 (by kernel_rfl) FUEL (λo=>qBC o.1 o.2) (λv st=>RetQ Tryz.prog f54 (CR v) (CI v) .ret st) u22 (q_hl (zaQ v2 v4 0 ([]:List Ring) 0 v4.2.1 v4.2.2) (qGM E v2 v4 FUEL 0 ([]:List Ring) 0 v4.2.1 v4.2.2 u22 rfl h21)) ?_ ?_
 ·rintro v23 rfl st hr;obtain rfl:=oi hm;exact hr
 ·rintro o20 rfl;replace hm:_=some r:=hm;obtain⟨v24,h25,hm⟩:=qE hm;obtain⟨v26,h27,hm⟩:=qE hm
  refine s_vu [qd 1 (dex (cen [(2,0),(1,0)] [0,0] 4 2 (GK 448 o20.2 v24) (VR 448 o20.2 v24) [42] [2,1])) (zK (K:=(kx E 58 0)) ⟨[(42,vc (.fn 108 [.bptr 2 0 0]))],[(2,bx 129 [.bptr 1 0 0]),(1,bx 172 (qN o20.2))]⟩ (opAt (rg f54 126) 1) [(2,0),(1,0)] [0,0] 4 o0 rfl (LU 448 o20.2 v24 h25) (.inl rfl) (by kernel_rfl)),qd 2 (dex (cen [] [] 7 0 (qAn v26) (PL v26) [43] [6])) (zK (K:=(kx E 58 0)) (b:=false) ⟨[(43,vo 6 0 1 v24.1.length)],[(6,ro 0 3 1 v24.1.length (rf qO v24.1))]⟩ (opAt (rg f54 126) 2) [] [] 7 (o1 (kr v24.1.length)) rfl (qF9 v24.1 v26 h27) (.inr ⟨(by kernel_rfl),qGQ v26⟩) (by kernel_rfl))] 6 [5] [(11,vo 7 0 7 v26.1.length),(12,vb v26.2)] [1] [(1,bx 172 [cs o20.2.s,ci v24.2.1,ci v24.2.2]),(7,ro 0 68 7 v26.1.length (rf qJ v26.1))] ?_
  refine q_sq (q_jn (qHG o20 v26) (λp=>IJ o20 v26 p=some r) ?_ ?_)
  ·rintro x31 hm;refine q_cq hm (λhm=>?_) (λhm=>?_)
   ·refine s_vu [] 8 [6,11,53] [(3,vb false)] [3,5,7] [] (q_fu [.ownB 0 0 8 45 2 (rf qM [])] [] [] [0] [(0,bx 25 [.own 8 0 2 0,.emp]),(8,ro 0 45 2 0 (rf qM []))] o0 ?_);refine q_fu [.ownB 0 1 9 68 7 (rf qJ [])] [] [] [0] [(0,bx 25 [.own 8 0 2 0,.own 9 0 7 0]),(9,ro 0 68 7 0 (rf qJ []))] o0 (q_fu [.len 8 (([]:List Ring).length)] [] [] [0,8] [(0,bx 25 [.own 8 0 2 (([]:List Ring).length),.own 9 0 7 0]),(8,ro 0 45 2 (([]:List Ring).length) (rf qM []))] (o1 (And.intro (show 0=([]:List Ring).length from rfl) (show 0=([]:List Ring).length from rfl))) ?_)
    refine q_fu [.len 9 (([]:List qF).length)] [] [] [0,9] [(0,bx 25 [.own 8 0 2 (([]:List Ring).length),.own 9 0 7 (([]:List qF).length)]),(9,ro 0 68 7 (([]:List qF).length) (rf qJ []))] (o1 (And.intro (show 0=([]:List qF).length from rfl) (show 0=([]:List qF).length from rfl))) ?_;obtain rfl:=oi hm;refine q_sw 8 0 (q_sw 9 1 ?_);exact q_rt q_rm
   ·refine q_sk (s_vu [] 8 [11,53] [] [3] [(3,bx 25 [.own 5 0 2 o20.1.length,.own 7 0 7 v26.1.length])] ?_);refine s_vu [] 8 [6] [(3,vb true)] [0,3] [(0,bx 25 [.own 5 0 2 o20.1.length,.own 7 0 7 v26.1.length])] ?_;obtain rfl:=oi hm;refine q_sw 5 0 (q_sw 7 1 ?_);exact q_rt q_rm
  ·rcases bif_c hm with⟨b28,hm⟩|⟨b28,hm⟩
   ·exact q_vu [qf 2 b28] 8 [4,12] [(53,vb true)] [1,2] [] (q_J (true) hm)
   ·obtain⟨v29,h30,hm⟩:=qE hm;exact q_vu [qf 2 b28,qd 4 (dex (cen [(1,0)] [0] 7 1 (OA (qI.mk o20.2.s v24.2.1 v24.2.2) v29) (IV (qI.mk o20.2.s v24.2.1 v24.2.2) v29) [49,50] [1])) (zK (K:=(kx E 58 0)) ⟨[(49,vb false),(50,vp 1 0)],[(1,bx 172 [cs o20.2.s,ci v24.2.1,ci v24.2.2])]⟩ (opAt (rg f54 508) 4) [(1,0)] [0] 7 o0 rfl (qEK (qI.mk o20.2.s v24.2.1 v24.2.2) v29 h30) (.inl rfl) (by kernel_rfl))] 8 [4,12] [(53,vb (v29 !=0))] [1,2] [] (q_J (v29 !=0) hm)
open Go.Proofs Go.Proofs.Tryz
def qK0 (r:Scan×Int):V:= .tup [.agg [.own 0 0 2 r.1.Rings.length,.own 1 0 7 r.1.Defects.length],.one (ci r.2)]
def qKW (r:Scan×Int):List (Nat×(Nat×O)):=[(0,ro 0 45 2 r.1.Rings.length (rf qM r.1.Rings)),(1,ro 0 68 7 r.1.Defects.length (rf qJ r.1.Defects))]
theorem qJj (a1:ByteArray) (r:Scan×Int) (hm:TB a1=some r):CtX Tryz.prog globs 21 0 0 [.one (cs a1)] [] (qK0 r) (qKW r):=by
 unfold TB at hm;refine q_E f21 22 λE=>?_;refine s_vn [] 0 ⟨[(0,vc (cs a1)),(2,vp 0 0)],[(0,bx 25 [.emp,.emp])]⟩ ?_;obtain⟨v2,h3,hm⟩:=qE hm;refine s_vu [qc 1 [8] 1 (qKU a1 v2 h3)] 1 [0] [(4,vp 3 0),(5,vb v2.2)] [] [(1,ro 0 45 2 v2.1.Rings.length (rf qM v2.1.Rings)),(2,ro 0 68 7 v2.1.Defects.length (rf qJ v2.1.Defects)),(3,bx 25 [.own 1 0 2 v2.1.Rings.length,.own 2 0 7 v2.1.Defects.length])] (q_sq ?_);refine s_vv [] 4 [5] [(13,vb (!v2.2))] (q_cq hm (λhm=>?_) (λhm=>?_))
 ·refine s_vu [] 4 [4,13] [(3,vi 5)] [1,2,3] [] (q_fu [.ownB 0 0 4 45 2 (rf qM [])] [] [] [0] [(0,bx 25 [.own 4 0 2 0,.emp]),(4,ro 0 45 2 0 (rf qM []))] o0 ?_);refine q_fu [.ownB 0 1 5 68 7 (rf qJ [])] [] [] [0] [(0,bx 25 [.own 4 0 2 0,.own 5 0 7 0]),(5,ro 0 68 7 0 (rf qJ []))] o0 (q_fu [.len 4 (([]:List Ring).length)] [] [] [0,4] [(0,bx 25 [.own 4 0 2 (([]:List Ring).length),.own 5 0 7 0]),(4,ro 0 45 2 (([]:List Ring).length) (rf qM []))] (o1 (And.intro (show 0=([]:List Ring).length from rfl) (show 0=([]:List Ring).length from rfl))) ?_)
  refine q_fu [.len 5 (([]:List qF).length)] [] [] [0,5] [(0,bx 25 [.own 4 0 2 (([]:List Ring).length),.own 5 0 7 (([]:List qF).length)]),(5,ro 0 68 7 (([]:List qF).length) (rf qJ []))] (o1 (And.intro (show 0=([]:List qF).length from rfl) (show 0=([]:List qF).length from rfl))) ?_;obtain rfl:=oi hm;refine q_sw 4 0 (q_sw 5 1 ?_);exact q_rt q_rm
 ·refine q_sk (q_sq ?_);obtain⟨v5,h6,hm⟩:=qE hm;refine s_vv [qd 1 (dex (cen [] [] 4 0 (KX v5) (ZJ v5) [15] [1,2])) (zK (K:=(kx E 22 0)) (b:=false) ⟨[(15,va [.own 1 0 2 v2.1.Rings.length,.own 2 0 7 v2.1.Defects.length])],[(1,ro 0 45 2 v2.1.Rings.length (rf qM v2.1.Rings)),(2,ro 0 68 7 v2.1.Defects.length (rf qJ v2.1.Defects))]⟩ (opAt (rg f21 60) 1) [] [] 4 (o1 (And.intro (kr v2.1.Rings.length) (kr v2.1.Defects.length))) rfl (QE (Scan.mk v2.1.Rings v2.1.Defects) v5 h6) (.inr ⟨(by kernel_rfl),qL3 v5⟩) (by kernel_rfl))] 4 [13] [(6,vi v5)] (s_va 4 [(18,vb (v5 !=0))] ?_)
  refine q_cq hm (λhm=>?_) (λhm=>?_)
  ·refine s_vu [] 4 [4,6,18] [(3,vi v5)] [1,2,3] [] (q_fu [.ownB 0 0 4 45 2 (rf qM [])] [] [] [0] [(0,bx 25 [.own 4 0 2 0,.emp]),(4,ro 0 45 2 0 (rf qM []))] o0 ?_);refine q_fu [.ownB 0 1 5 68 7 (rf qJ [])] [] [] [0] [(0,bx 25 [.own 4 0 2 0,.own 5 0 7 0]),(5,ro 0 68 7 0 (rf qJ []))] o0 (q_fu [.len 4 (([]:List Ring).length)] [] [] [0,4] [(0,bx 25 [.own 4 0 2 (([]:List Ring).length),.own 5 0 7 0]),(4,ro 0 45 2 (([]:List Ring).length) (rf qM []))] (o1 (And.intro (show 0=([]:List Ring).length from rfl) (show 0=([]:List Ring).length from rfl))) ?_)
   refine q_fu [.len 5 (([]:List qF).length)] [] [] [0,5] [(0,bx 25 [.own 4 0 2 (([]:List Ring).length),.own 5 0 7 (([]:List qF).length)]),(5,ro 0 68 7 (([]:List qF).length) (rf qJ []))] (o1 (And.intro (show 0=([]:List qF).length from rfl) (show 0=([]:List qF).length from rfl))) ?_;obtain rfl:=oi hm;refine q_sw 4 0 (q_sw 5 1 ?_);exact q_rt q_rm
  ·refine q_sk (s_vu [] 4 [4,6,18] [(3,vi 0)] [0,3] [(0,bx 25 [.own 1 0 2 v2.1.Rings.length,.own 2 0 7 v2.1.Defects.length])] ?_);obtain rfl:=oi hm;refine q_sw 1 0 (q_sw 2 1 ?_);exact q_rt q_rm
def JU (r:Bool):V:=vb r
def JT (r:Bool):List (Nat×(Nat×O)):=[]
def ZT (a1:List qD) (a2:List qD) (x4:Int):St:=
 ⟨[(0,vc (tl qH dd a1)),(1,vc (tl qH dd a2)),(12,vi (a1.length:Int)),(13,vi x4)],[]⟩
def RB :St:=
 ⟨[],[]⟩
theorem IE (E:Env 0) (a1:List qD) (a2:List qD):∀(n:Nat) (x4:Int) (res:Bool⊕Unit),wC a1 a2 n x4=some res->HL (kx E 26 0) (nd f59 116) (jS 0 (λo=>RB) (λv st=>RetQ Tryz.prog f59 (JU v) (JT v) .ret st) res) n (ZT a1 a2 x4):=by
 intro n
 induction n with
 |zero=>
  intro x4 res hm;cases hm
 |succ n ih=>
  intro x4 res hm;refine qS (s_va 0 [(14,vb (decide (x4<(a1.length:Int))))] ?_);refine q_sq (q_cq hm (λhm=>?_) (λhm=>?_))
  ·refine q_sk (q_sq ?_);refine q_bk 1 (s_vv [] 0 [14] [(5,vi x4)] ?_);obtain⟨g6,hm⟩:=qK hm;obtain⟨g7,hm⟩:=qK hm;refine s_du [qi 2 g6,qi 6 g7] [0,0,3,7,0,0,48,112,255] 0 [5] [(24,vb (!((((((a1.getD x4.toNat dd).P).X)==(((a2.getD x4.toNat dd).P).X))&&(((((a1.getD x4.toNat dd).P).Y)==(((a2.getD x4.toNat dd).P).Y))&&true))&&((((a1.getD x4.toNat dd).Ok)==((a2.getD x4.toNat dd).Ok))&&true))))] [] [] (q_cq hm (λhm=>?_) (λhm=>?_))
   ·refine s_vn [] 0 ⟨[(4,vb false)],[]⟩ ?_;obtain rfl:=oi hm;refine q_rt (zZ false ?_);exact q_rm
   ·refine q_sk (q_vv [] 0 [13,24] [(13,vi (w64 (x4+1)))] ?_);exact q_hl (ZT a1 a2 (w64 (x4+1))) (ih (w64 (x4+1)) _ hm)
  ·refine q_ex 0 ?_;obtain rfl:=oi hm;exact q_l1 ()
theorem qAs (a1:List qD) (a2:List qD) (r:Bool) (hm:yD a1 a2=some r):CtX Tryz.prog globs 59 0 0 [.one (tl qH dd a1),.one (tl qH dd a2)] [] (JU r) (JT r):=by
 unfold yD at hm;refine q_E f59 26 λE=>?_;refine s_vn [] 0 ⟨[(0,vc (tl qH dd a1)),(1,vc (tl qH dd a2))],[]⟩ (q_sq ?_);refine s_va 0 [(10,vb ((a1.length:Int) !=(a2.length:Int)))] (q_cq hm (λhm=>?_) (λhm=>?_))
 ·refine s_vn [] 0 ⟨[(4,vb false)],[]⟩ ?_;obtain rfl:=oi hm;exact q_rt q_rm
 ·refine q_sk (q_sq ?_);refine s_vv [] 0 [10] [(12,vi (a1.length:Int)),(13,vi 0)] ?_;obtain⟨u11,h10,hm⟩:=qE hm;refine wJ (nd f59 116) 0 (by kernel_rfl) FUEL (λo=>RB) (λv st=>RetQ Tryz.prog f59 (JU v) (JT v) .ret st) u11 (q_hl (ZT a1 a2 0) (IE E a1 a2 FUEL 0 u11 h10)) ?_ ?_
  ·rintro v12 rfl st hr;obtain rfl:=oi hm;exact hr
  ·rintro o9 rfl;replace hm:_=some r:=hm;refine s_vn [] 0 ⟨[(4,vb true)],[]⟩ ?_;obtain rfl:=oi hm;exact q_rt q_rm
def qKr (r:Bool):V:=vb r
def qKK (r:Bool):List (Nat×(Nat×O)):=[]
def qG0 (x6:Bool):St:=
 ⟨[(4,vb x6)],[]⟩
theorem qI2 (a1:Ring) (a2:Ring) (r:Bool) (hm:ED a1 a2=some r):CtX Tryz.prog globs 58 0 0 [.agg (qM a1),.agg (qM a2)] [] (qKr r) (qKK r):=by
 unfold ED at hm;refine q_E f58 17 λE=>?_;refine s_vn [] 0 ⟨[(2,vp 0 0),(3,vp 1 0)],[(0,bx 45 (qM a1)),(1,bx 45 (qM a2))]⟩ (q_jn (qG0) (λp=>VT p=some r) ?_ ?_)
 ·rintro x6 hm;obtain rfl:=oi hm;exact q_rt q_rm
 ·rcases bif_c hm with⟨b3,hm⟩|⟨b3,hm⟩
  ·obtain⟨v4,h5,hm⟩:=qE hm;exact q_vn [qf 5 b3,qk 10 [10,12,14] 2 ⟨[(10,vb true),(12,vc (tl qH dd a1.Read)),(14,vc (tl qH dd a2.Read))],[]⟩ (qAs a1.Read a2.Read v4 h5)] 2 ⟨[(4,vb v4)],[]⟩ (q_J (v4) hm)
  ·exact q_vn [qf 5 b3] 2 ⟨[(4,vb false)],[]⟩ (q_J (false) hm)
end Saw
end Go.SL

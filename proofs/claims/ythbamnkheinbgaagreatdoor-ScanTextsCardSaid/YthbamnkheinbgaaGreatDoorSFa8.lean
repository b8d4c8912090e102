import Derived.Test.YthbamnkheinbgaaGreatDoorSBase
import Derived.Test.YthbamnkheinbgaaGreatDoorSFa7
set_option linter.unusedVariables false
set_option linter.unusedSimpArgs false
namespace Go.SL
namespace Saw
open Go.Proofs Go.Proofs.Tryz
set_option maxHeartbeats 4000000
set_option maxRecDepth 100000
def TZ (r:qI×(List Int)):V:= .tup [.agg (qR r.1),.one (.own 0 0 1 r.2.length)]
def UE (r:qI×(List Int)):List (Nat×(Nat×O)):=[(0,ro 0 3 1 r.2.length (rf qH r.2))]
def XM (a1:qI) (a3:Int) (a4:Int) (v6:Int×Int×Int) (x16:Int) (l17:List Int) (l17n:Nat) (x18:qI):St:=
 ⟨[(2,vi a3),(3,vi a4),(4,vp 0 0),(8,vp 1 0),(10,vc (.val (.int .u64 v6.1))),(11,vi x16),(13,vo 2 0 1 l17n)],[(0,bx 139 (qR a1)),(1,bx 139 (qR x18)),(2,ro 0 3 1 l17n (rf qH l17))]⟩
def GT (a1:qI) (x26:Int) (l27:List Int) (x28:qI):St:=
 ⟨[(4,vp 0 0),(8,vp 1 0),(11,vi x26),(13,vo 2 0 1 l27.length)],[(0,bx 139 (qR a1)),(1,bx 139 (qR x28)),(2,ro 0 3 1 l27.length (rf qH l27))]⟩
def qAp (a1:qI) (a3:Int) (a4:Int) (v6:Int×Int×Int) (x12:Bool):St:=
 ⟨[(2,vi a3),(3,vi a4),(4,vp 0 0),(8,vp 1 0),(10,vc (.val (.int .u64 v6.1))),(11,vi v6.2.1),(42,vb x12)],[(0,bx 139 (qR a1)),(1,bx 139 [cs (ByteArray.mk #[]),ci 0,ci 0])]⟩
theorem OH (E:Env 0) (a1:qI) (a3:Int) (a4:Int) (v6:Int×Int×Int):∀(n:Nat) (x16:Int) (l17:List Int) (l17n:Nat) (x18:qI) (res:(qI×(List Int))⊕(Int×(List Int)×qI)),l17.length=l17n->jY a1 a3 a4 v6 n x16 l17 x18=some res->HL (kx E 75 0) (nd f113 1016) (zY 0 (λo=>GT a1 o.1 o.2.1 o.2.2) (λv st=>RetQ Tryz.prog f113 (TZ v) (UE v) .ret st) res) n (XM a1 a3 a4 v6 x16 l17 l17n x18):=by
 intro n
 induction n with
 |zero=>
  intro x16 l17 l17n x18 res hl0 hm;cases hm
 |succ n ih=>
  intro x16 l17 l17n x18 res hl0 hm;subst hl0;refine qS (q_sq ?_);refine s_va 3 [(50,vb (decide ((IntKind.u64.wrap ((l17.length:Int)))<v6.1)))] (q_cq hm (λhm=>?_) (λhm=>?_))
  ·refine q_sk (q_bk 1 ?_);obtain⟨v20,h21,hm⟩:=qD hm;refine s_vv [qc 5 [53,54,55,56] 3 (qEb a1.S x16 a3 a4 v20 h21)] 3 [11,50] [(14,vi v20.1),(15,vi v20.2.1),(16,vi v20.2.2)] (q_sq ?_);refine s_va 3 [(62,vb (v20.2.2 !=0))] (q_cq hm (λhm=>?_) (λhm=>?_))
   ·obtain⟨v23,h24,hm⟩:=qD hm;refine s_vn [qc 2 [63,64] 3 (FI a1 v20.2.2 v23 h24)] 3 ⟨[(8,vp 1 0),(9,vc (.emp))],[(1,bx 139 (qR v23))]⟩ (q_fo 9 3 3 1 qH ?_);refine q_fl 9 3 3 1 qH ?_;obtain rfl:=oi hm;refine q_sw 3 0 (q_rt ?_);exact qX (v23,([]:List Int)) q_rm
   ·refine q_sk ?_;obtain⟨g25,hm⟩:=qJ hm;refine s_vu [qd 2 (drw 3 0 (rf qH [v20.1])) (litP qH dd 1 (λ_=>rfl) ([v20.1]:List Int) 1 rfl),qd 3 (drw 2 1 (rf qH (l17++[v20.1]))) (apP qH dd l17 ([v20.1]:List Int) l17.length 1 1 8 (1<=1) (ko _) rfl rfl (λ_=>rfl) (zK g25))] 3 [13,14,16,62] [(13,vo 2 1 1 (l17.length+1))] [2] [(2,ro 1 3 1 (l17.length+1) (rf qH (l17++[v20.1])))] (q_vv [] 4 [15] [(11,vi v20.2.1)] ?_);exact q_hl (XM a1 a3 a4 v6 v20.2.1 (l17++[v20.1]) (l17.length+1) x18) (ih v20.2.1 (l17++[v20.1]) (l17.length+1) x18 _ (zO rfl rfl) hm)
  ·refine q_ex 0 ?_;obtain rfl:=oi hm;exact qGW (x16,l17,x18) (by kernel_rfl) (by kernel_rfl)
theorem PX (a1:qI) (a2:Int) (a3:Int) (a4:Int) (r:qI×(List Int)) (hm:yI a1 a2 a3 a4=some r):CtX Tryz.prog globs 113 0 0 [.agg (qR a1),.one (ci a2),.one (ci a3),.one (ci a4)] [] (TZ r) (UE r):=by
 unfold yI at hm;refine q_E f113 75 λE=>?_;refine s_vn [] 0 ⟨[(1,vi a2),(2,vi a3),(3,vi a4),(4,vp 0 0),(8,vp 1 0)],[(0,bx 139 (qR a1)),(1,bx 139 [cs (ByteArray.mk #[]),ci 0,ci 0])]⟩ (q_sq ?_);refine s_va 2 [(19,vb (a1.E !=0))] (q_cq hm (λhm=>?_) (λhm=>?_))
 ·refine s_vn [] 2 ⟨[(8,vp 1 0),(9,vc (.emp))],[(1,bx 139 (qR a1))]⟩ (q_fo 9 2 3 1 qH ?_);refine q_fl 9 2 3 1 qH ?_;obtain rfl:=oi hm;exact q_sw 2 0 (q_rt q_rm)
 ·refine q_sk ?_;obtain⟨v6,h7,hm⟩:=qD hm;refine s_vv [qc 4 [23,25] 2 (SN a1.S a1.At v6 h7)] 2 [19] [(10,vc (.val (.int .u64 v6.1))),(11,vi v6.2.1),(12,vi v6.2.2)] (q_sq ?_);refine s_va 2 [(31,vb (v6.2.2 !=0))] (q_cq hm (λhm=>?_) (λhm=>?_))
  ·obtain⟨v9,h10,hm⟩:=qD hm;refine s_vn [qc 2 [32,33] 2 (FI a1 v6.2.2 v9 h10)] 2 ⟨[(8,vp 1 0),(9,vc (.emp))],[(1,bx 139 (qR v9))]⟩ (q_fo 9 2 3 1 qH ?_);refine q_fl 9 2 3 1 qH ?_;obtain rfl:=oi hm;exact q_sw 2 0 (q_rt q_rm)
  ·refine q_sk (q_sq ?_);refine q_jn (qAp a1 a3 a4 v6) (λp=>WY a1 a3 a4 v6 p=some r) ?_ ?_
   ·rintro x12 hm;refine q_cq hm (λhm=>?_) (λhm=>?_)
    ·obtain⟨v14,h15,hm⟩:=qD hm;refine s_vn [qk 1 [43] 2 ⟨[(43,va (qR a1))],[]⟩ (FI a1 4 v14 h15)] 2 ⟨[(8,vp 1 0),(9,vc (.emp))],[(1,bx 139 (qR v14))]⟩ (q_fo 9 2 3 1 qH ?_);refine q_fl 9 2 3 1 qH ?_;obtain rfl:=oi hm;exact q_sw 2 0 (q_rt q_rm)
    ·refine q_sk (s_vu [qd 0 (drw 2 0 (rf qH [])) (litP qH dd 1 (λ_=>rfl) ([]:List Int) 0 rfl)] 2 [42] [(13,vo 2 0 1 0)] [] [(2,ro 0 3 1 0 (rf qH []))] ?_);refine q_sq ?_;obtain⟨u31,h30,hm⟩:=qD hm;refine zI (nd f113 1016) 0 (by kernel_rfl) FUEL (λo=>GT a1 o.1 o.2.1 o.2.2) (λv st=>RetQ Tryz.prog f113 (TZ v) (UE v) .ret st) u31 (q_hl (XM a1 a3 a4 v6 v6.2.1 ([]:List Int) 0 (qI.mk (ByteArray.mk #[]) 0 0)) (OH E a1 a3 a4 v6 FUEL v6.2.1 ([]:List Int) 0 (qI.mk (ByteArray.mk #[]) 0 0) u31 rfl h30)) ?_ ?_
     ·rintro v32 rfl st hr;obtain rfl:=oi hm;exact hr
     ·rintro o29 rfl;replace hm:_=some r:=hm;refine s_vu [] 3 [11] [] [0] [(0,bx 139 [cs a1.S,ci o29.1,ci a1.E])] (s_vu [] 3 [4,13] [(9,vo 2 0 1 o29.2.1.length)] [0,1] [(1,bx 139 [cs a1.S,ci o29.1,ci a1.E])] ?_);obtain rfl:=oi hm;exact q_sw 2 0 (q_rt q_rm)
   ·rcases bif_c hm with⟨b11,hm⟩|⟨b11,hm⟩
    ·exact q_vv [qf 2 b11] 2 [1,12,31] [(42,vb true)] (q_J (true) hm)
    ·exact q_vv [qf 2 b11] 2 [1,12,31] [(42,vb (decide (v6.1>(IntKind.u64.wrap (a2)))))] (q_J (decide (v6.1>(IntKind.u64.wrap (a2)))) hm)
def YC (r:(List qB)×Bool):V:= .tup [.one (.own 0 0 3 r.1.length),.one (cb r.2)]
def yJ (r:(List qB)×Bool):List (Nat×(Nat×O)):=[(0,ro 0 73 3 r.1.length (rf qE r.1))]
theorem qCC (r:(List qB)×Bool):jQ (yJ r):=by
 intro i k o h;unfold yJ at h;rw[look_cons] at h;split at h
 ·cases h;exact λ_ _=>rfl
 ·cases h
def qAq (a1:List Int) (l2:List qB) (x3:Int) (x9:Bool):St:=
 ⟨[(0,vc (tl qH dd a1)),(4,vo 0 0 3 l2.length),(5,vi x3),(32,vb x9)],[(0,ro 0 73 3 l2.length (rf qE l2))]⟩
def ZK (a1:List Int) (l2:List qB) (l2n:Nat) (x3:Int):St:=
 ⟨[(0,vc (tl qH dd a1)),(4,vo 0 0 3 l2n),(5,vi x3)],[(0,ro 0 73 3 l2n (rf qE l2))]⟩
def GR (l14:List qB):St:=
 ⟨[(4,vo 0 0 3 l14.length)],[(0,ro 0 73 3 l14.length (rf qE l14))]⟩
theorem OJ (E:Env 0) (a1:List Int):∀(n:Nat) (l2:List qB) (l2n:Nat) (x3:Int) (res:((List qB)×Bool)⊕(List qB)),l2.length=l2n->wE a1 n l2 x3=some res->HL (kx E 51 0) (nd f115 116) (zY 0 GR (λv st=>RetQ Tryz.prog f115 (YC v) (yJ v) .ret st) res) n (ZK a1 l2 l2n x3):=by
 intro n
 induction n with
 |zero=>
  intro l2 l2n x3 res hl0 hm;cases hm
 |succ n ih=>
  intro l2 l2n x3 res hl0 hm;subst hl0;refine qS (q_sq ?_);refine s_va 1 [(9,vb (decide (x3<(a1.length:Int))))] (q_cq hm (λhm=>?_) (λhm=>?_))
  ·refine q_sk (q_bk 1 ?_);refine q_sq ?_;obtain⟨g5,hm⟩:=qJ hm;refine s_vv [qi 2 g5] 1 [9] [(14,vb ((a1.getD x3.toNat dd)==0))] (q_cq hm (λhm=>?_) (λhm=>?_))
   ·obtain⟨g7,hm⟩:=qJ hm;refine s_vu [qd 2 (drw 1 0 (rf qE [(qB.mk (qA.mk 0 0) false)])) (litP qE dd 3 (λ_=>rfl) ([(qB.mk (qA.mk 0 0) false)]:List qB) 1 rfl),qd 3 (drw 0 1 (rf qE (l2++[(qB.mk (qA.mk 0 0) false)]))) (apP qE dd l2 ([(qB.mk (qA.mk 0 0) false)]:List qB) l2.length 1 3 24 (1<=1) (ko _) rfl rfl (λ_=>rfl) (zK g7))] 1 [4,14] [(4,vo 0 1 3 (l2.length+1))] [0] [(0,ro 1 73 3 (l2.length+1) (rf qE (l2++[(qB.mk (qA.mk 0 0) false)])))] (s_vv [] 2 [5] [(5,vi (w64 (x3+1)))] ?_)
    exact q_ex 1 (q_hl (ZK a1 (l2++[(qB.mk (qA.mk 0 0) false)]) (l2.length+1) (w64 (x3+1))) (ih (l2++[(qB.mk (qA.mk 0 0) false)]) (l2.length+1) (w64 (x3+1)) _ (zO rfl rfl) hm))
   ·refine q_sk (q_sq ?_);refine q_jn (qAq a1 l2 x3) (λp=>QK a1 l2 x3 (wE a1 n) p=some res) ?_ ?_
    ·rintro x9 hm;refine q_cq hm (λhm=>?_) (λhm=>?_)
     ·refine s_vn [] 1 ⟨[(2,vc (.emp)),(3,vb false)],[]⟩ (q_fo 2 1 73 3 qE ?_);refine q_fl 2 1 73 3 qE ?_;obtain rfl:=oi hm;refine q_sw 1 0 (q_rt ?_);exact qX (([]:List qB),false) q_rm
     ·refine q_sk ?_;obtain⟨g11,hm⟩:=qJ hm;obtain⟨g12,hm⟩:=qJ hm;obtain⟨g13,hm⟩:=qJ hm
      refine s_du [qi 4 g11,qi 9 g12,qd 13 (drw 1 0 (rf qE [(qB.mk (qA.mk (a1.getD (w64 (x3+1)).toNat dd) (a1.getD (w64 (x3+2)).toNat dd)) true)])) (litP qE dd 3 (λ_=>rfl) ([(qB.mk (qA.mk (a1.getD (w64 (x3+1)).toNat dd) (a1.getD (w64 (x3+2)).toNat dd)) true)]:List qB) 1 rfl),qd 14 (drw 0 1 (rf qE (l2++[(qB.mk (qA.mk (a1.getD (w64 (x3+1)).toNat dd) (a1.getD (w64 (x3+2)).toNat dd)) true)]))) (apP qE dd l2 ([(qB.mk (qA.mk (a1.getD (w64 (x3+1)).toNat dd) (a1.getD (w64 (x3+2)).toNat dd)) true)]:List qB) l2.length 1 3 24 (1<=1) (ko _) rfl rfl (λ_=>rfl) (zK g13))] [0,0,0,4,14,30,0,0,128,448,960,2046,4094,8190,16383,32767] 1 [4,32] [(4,vo 0 1 3 (l2.length+1))] [0] [(0,ro 1 73 3 (l2.length+1) (rf qE (l2++[(qB.mk (qA.mk (a1.getD (w64 (x3+1)).toNat dd) (a1.getD (w64 (x3+2)).toNat dd)) true)])))] ?_
      exact q_vv [] 2 [5] [(5,vi (w64 (x3+3)))] (q_hl (ZK a1 (l2++[(qB.mk (qA.mk (a1.getD (w64 (x3+1)).toNat dd) (a1.getD (w64 (x3+2)).toNat dd)) true)]) (l2.length+1) (w64 (x3+3))) (ih (l2++[(qB.mk (qA.mk (a1.getD (w64 (x3+1)).toNat dd) (a1.getD (w64 (x3+2)).toNat dd)) true)]) (l2.length+1) (w64 (x3+3)) _ (zO rfl rfl) hm))
    ·rcases bif_c hm with⟨b8,hm⟩|⟨b8,hm⟩
     ·exact q_vv [qi 2 g5,qf 5 b8] 1 [14] [(32,vb true)] (q_J (true) hm)
     ·exact q_vv [qi 2 g5,qf 5 b8] 1 [14] [(32,vb (decide ((w64 (x3+2))≥(a1.length:Int))))] (q_J (decide ((w64 (x3+2))≥(a1.length:Int))) hm)
  ·refine q_ex 0 ?_;obtain rfl:=oi hm;exact q_l1 l2
theorem qCi (a1:List Int) (r:(List qB)×Bool) (hm:JJ a1=some r):CtX Tryz.prog globs 115 0 0 [.one (tl qH dd a1)] [] (YC r) (yJ r):=by
 unfold JJ at hm;refine q_E f115 51 λE=>?_;refine s_vn [] 0 ⟨[(0,vc (tl qH dd a1))],[]⟩ (s_va 0 [(4,vc (.emp))] ?_);refine q_sq (s_va 0 [(5,vi 0)] ?_);refine q_fo 4 0 73 3 qE ?_;obtain⟨u17,h16,hm⟩:=qD hm;refine zI (nd f115 116) 0 (by kernel_rfl) FUEL GR (λv st=>RetQ Tryz.prog f115 (YC v) (yJ v) .ret st) u17 (q_hl (ZK a1 ([]:List qB) 0 0) (OJ E a1 FUEL ([]:List qB) 0 0 u17 rfl h16)) ?_ ?_
 ·rintro v18 rfl st hr;obtain rfl:=oi hm;exact hr
 ·rintro o15 rfl;replace hm:_=some r:=hm;refine s_vv [] 1 [4] [(2,vo 0 0 3 o15.length),(3,vb true)] ?_;obtain rfl:=oi hm;exact q_rt q_rm
def qBO (r:qI):V:=va (qR r)
def qCj (r:qI):List (Nat×(Nat×O)):=[]
theorem qAv (a1:ByteArray) (r:qI) (hm:XW a1=some r):CtX Tryz.prog globs 114 0 0 [.one (cs a1)] [] (qBO r) (qCj r):=by
 unfold XW at hm;refine q_E f114 5 λE=>?_;refine s_vn [] 0 ⟨[(0,vc (cs a1)),(2,vp 0 0)],[(0,bx 139 [cs (ByteArray.mk #[]),ci 0,ci 0])]⟩ (s_vu [] 1 [0] [] [0] [(0,bx 139 [cs a1,ci 0,ci 0])] ?_);obtain rfl:=oi hm;exact q_rt q_rm
open Go.Proofs Go.Proofs.Tryz
def qHZ (r:Int):V:=vi r
def qHw (r:Int):List (Nat×(Nat×O)):=[]
theorem qGn (a1:qI) (r:Int) (hm:LL a1=some r):CtX Tryz.prog globs 169 0 0 [.agg (qR a1)] [] (qHZ r) (qHw r):=by
 unfold LL at hm;refine q_E f169 9 λE=>?_;refine s_vn [] 0 ⟨[(1,vp 0 0)],[(0,bx 139 (qR a1))]⟩ (s_vn [] 1 ⟨[(2,vi (w64 ((a1.S.size:Int)-a1.At)))],[]⟩ ?_);obtain rfl:=oi hm;exact q_rt q_rm
def qI3 (r:Int):V:=vi r
def qJa (r:Int):List (Nat×(Nat×O)):=[]
def qE6 (a1:qI) (x5:Bool):St:=
 ⟨[(1,vp 0 0),(10,vb x5)],[(0,bx 139 (qR a1))]⟩
theorem qAV (a1:qI) (r:Int) (hm:EO a1=some r):CtX Tryz.prog globs 116 0 0 [.agg (qR a1)] [] (qI3 r) (qJa r):=by
 unfold EO at hm;refine q_E f116 13 λE=>?_;refine s_vn [] 0 ⟨[(1,vp 0 0)],[(0,bx 139 (qR a1))]⟩ (q_sq ?_);refine q_jn (qE6 a1) (λp=>VR a1 p=some r) ?_ ?_
 ·rintro x5 hm;refine q_cq hm (λhm=>?_) (λhm=>?_)
  ·refine s_vn [] 1 ⟨[(2,vi 4)],[]⟩ ?_;obtain rfl:=oi hm;exact q_rt q_rm
  ·refine q_sk (s_vn [] 1 ⟨[(2,vi a1.E)],[]⟩ ?_);obtain rfl:=oi hm;exact q_rt q_rm
 ·rcases bif_c hm with⟨b2,hm⟩|⟨b2,hm⟩
  ·obtain⟨v3,h4,hm⟩:=qD hm;exact q_vv [qf 3 b2,qk 5 [6,7] 1 ⟨[(6,vb true),(7,va (qR a1))],[]⟩ (qGn a1 v3 h4)] 1 [] [(10,vb (decide (v3>0)))] (q_J (decide (v3>0)) hm)
  ·exact q_vv [qf 3 b2] 1 [] [(10,vb false)] (q_J (false) hm)
def HY (r:Scan×Bool):V:= .tup [.agg [.own 0 0 2 r.1.Rings.length,.own 1 0 7 r.1.Defects.length],.one (cb r.2)]
def HN (r:Scan×Bool):List (Nat×(Nat×O)):=[(0,ro 0 45 2 r.1.Rings.length (rf qM r.1.Rings)),(1,ro 0 68 7 r.1.Defects.length (rf qL r.1.Defects))]
def GI (v4:qI×(List Int)) (x6:Int) (l7:List Ring) (l7n:Nat) (x8:qI):St:=
 ⟨[(2,vp 0 0),(4,vp 1 0),(5,vp 3 0),(6,vo 2 0 1 v4.2.length),(7,vi x6)],[(0,bx 25 [.emp,.emp]),(1,bx 25 [.own 4 0 2 l7n,.emp]),(2,ro 0 3 1 v4.2.length (rf qH v4.2)),(3,bx 139 (qR x8)),(4,ro 0 45 2 l7n (rf qM l7))]⟩
def SP (x18:qI) (l19:List Ring):St:=
 ⟨[(2,vp 0 0),(4,vp 1 0),(5,vp 3 0)],[(0,bx 25 [.emp,.emp]),(1,bx 25 [.own 4 0 2 l19.length,.emp]),(3,bx 139 (qR x18)),(4,ro 0 45 2 l19.length (rf qM l19))]⟩
def VZ (o20:qI×(List Ring)) (v24:qI×(List Int)) (x31:Int) (l32:List qG) (l32n:Nat):St:=
 ⟨[(2,vp 0 0),(4,vp 1 0),(12,vo 5 0 1 v24.2.length),(13,vi x31)],[(0,bx 25 [.emp,.emp]),(1,bx 25 [.own 4 0 2 o20.2.length,.own 6 0 7 l32n]),(4,ro 0 45 2 o20.2.length (rf qM o20.2)),(5,ro 0 3 1 v24.2.length (rf qH v24.2)),(6,ro 0 68 7 l32n (rf qL l32))]⟩
def EX (o20:qI×(List Ring)) (l42:List qG):St:=
 ⟨[(2,vp 0 0),(4,vp 1 0)],[(0,bx 25 [.emp,.emp]),(1,bx 25 [.own 4 0 2 o20.2.length,.own 6 0 7 l42.length]),(4,ro 0 45 2 o20.2.length (rf qM o20.2)),(6,ro 0 68 7 l42.length (rf qL l42))]⟩
def qD3 (o20:qI×(List Ring)) (v24:qI×(List Int)) (x29:Bool):St:=
 ⟨[(2,vp 0 0),(4,vp 1 0),(12,vo 5 0 1 v24.2.length),(65,vb x29)],[(0,bx 25 [.emp,.emp]),(1,bx 25 [.own 4 0 2 o20.2.length,.emp]),(4,ro 0 45 2 o20.2.length (rf qM o20.2)),(5,ro 0 3 1 v24.2.length (rf qH v24.2))]⟩
theorem qCB (E:Env 0) (v4:qI×(List Int)):∀(n:Nat) (x6:Int) (l7:List Ring) (l7n:Nat) (x8:qI) (res:(Scan×Bool)⊕(qI×(List Ring))),l7.length=l7n->ZW v4 n x6 l7 x8=some res->HL (kx E 119 0) (nd f55 244) (zY 0 (λo=>SP o.1 o.2) (λv st=>RetQ Tryz.prog f55 (HY v) (HN v) .ret st) res) n (GI v4 x6 l7 l7n x8):=by
 intro n
 induction n with
 |zero=>
  intro x6 l7 l7n x8 res hl0 hm;cases hm
 |succ n ih=>
  intro x6 l7 l7n x8 res hl0 hm;subst hl0;refine qS (q_sq ?_);refine s_va 5 [(24,vb (decide (x6<(v4.2.length:Int))))] (q_cq hm (λhm=>?_) (λhm=>?_))
  ·refine q_sk (q_sq ?_);refine q_bk 1 ?_;obtain⟨v10,h11,hm⟩:=qD hm;refine s_vu [qk 1 [28] 5 ⟨[(28,va (qR x8))],[]⟩ (PX x8 96 (-1099511627776) 1099511627776 v10 h11)] 5 [24] [(8,vp 6 0),(9,vo 5 0 1 v10.2.length)] [] [(5,ro 0 3 1 v10.2.length (rf qH v10.2)),(6,bx 139 (qR v10.1))] ?_;obtain⟨v12,h13,hm⟩:=qD hm
   refine s_vu [qd 1 (dex (cen [] [] 7 0 (YC v12) (yJ v12) [33] [5])) (zF (K:=(kx E 119 0)) (b:=false) ⟨[(33,vo 5 0 1 v10.2.length)],[(5,ro 0 3 1 v10.2.length (rf qH v10.2))]⟩ (opAt (rg f55 7826) 1) [] [] 7 (o1 (ko v10.2.length)) rfl (qCi v10.2 v12 h13) (.inr ⟨(by kernel_rfl),qCC v12⟩) (by kernel_rfl))] 7 [9] [(10,vo 7 0 3 v12.1.length),(11,vb v12.2)] [5] [(7,ro 0 73 3 v12.1.length (rf qE v12.1))] (q_sq ?_);refine s_vv [] 8 [11] [(38,vb (!v12.2))] (q_cq hm (λhm=>?_) (λhm=>?_))
   ·refine s_vn [] 8 ⟨[(2,vp 0 0),(3,vb false)],[(0,bx 25 [.emp,.emp])]⟩ (q_fu [.ownB 0 0 8 45 2 (rf qM [])] [] [] [0] [(0,bx 25 [.own 8 0 2 0,.emp]),(8,ro 0 45 2 0 (rf qM []))] o0 ?_);refine q_fu [.ownB 0 1 9 68 7 (rf qL [])] [] [] [0] [(0,bx 25 [.own 8 0 2 0,.own 9 0 7 0]),(9,ro 0 68 7 0 (rf qL []))] o0 (q_fu [.len 8 (([]:List Ring).length)] [] [] [0,8] [(0,bx 25 [.own 8 0 2 (([]:List Ring).length),.own 9 0 7 0]),(8,ro 0 45 2 (([]:List Ring).length) (rf qM []))] (o1 (And.intro (show 0=([]:List Ring).length from rfl) (show 0=([]:List Ring).length from rfl))) ?_)
    refine q_fu [.len 9 (([]:List qG).length)] [] [] [0,9] [(0,bx 25 [.own 8 0 2 (([]:List Ring).length),.own 9 0 7 (([]:List qG).length)]),(9,ro 0 68 7 (([]:List qG).length) (rf qL []))] (o1 (And.intro (show 0=([]:List qG).length from rfl) (show 0=([]:List qG).length from rfl))) ?_;obtain rfl:=oi hm;refine q_sw 8 0 (q_sw 9 1 ?_);refine q_rt (qX ((Scan.mk ([]:List Ring) ([]:List qG)),false) ?_);exact q_rm
   ·refine q_sk (q_sq ?_);obtain⟨g16,hm⟩:=qJ hm;obtain⟨g17,hm⟩:=qJ hm
    refine q_xu [.frz 7] (o1 (ko v12.1.length)) [qi 4 g16,qd 5 dN (toNat_lt (zD g16)),qd 8 (drw 8 0 (rf qM [(Ring.mk (v4.2.getD x6.toNat dd) v12.1)])) (litP qM dd 2 (λ_=>rfl) ([(Ring.mk (v4.2.getD x6.toNat dd) v12.1)]:List Ring) 1 rfl),qd 9 (drw 4 1 (rf qM (l7++[(Ring.mk (v4.2.getD x6.toNat dd) v12.1)]))) (apP qM dd l7 ([(Ring.mk (v4.2.getD x6.toNat dd) v12.1)]:List Ring) l7.length 1 2 32 (1<=1) (ko _) rfl rfl (λ_=>rfl) (zK g17))] [] o0 [0,1,0,0,12,28,0,124,252,511,1023,2047] 8 [10,38] [] [1,4,7] [(1,bx 25 [.own 4 1 2 (l7.length+1),.emp]),(4,ro 1 45 2 (l7.length+1) (rf qM (l7++[(Ring.mk (v4.2.getD x6.toNat dd) v12.1)])))] (q_vu [] 9 [8] [] [3,6] [(3,bx 139 (qR v10.1))] ?_)
    exact q_vv [] 9 [7] [(7,vi (w64 (x6+1)))] (q_hl (GI v4 (w64 (x6+1)) (l7++[(Ring.mk (v4.2.getD x6.toNat dd) v12.1)]) (l7.length+1) v10.1) (ih (w64 (x6+1)) (l7++[(Ring.mk (v4.2.getD x6.toNat dd) v12.1)]) (l7.length+1) v10.1 _ (zO rfl rfl) hm))
  ·refine q_ex 0 ?_;obtain rfl:=oi hm;exact qGW (x8,l7) (by kernel_rfl) (by kernel_rfl)
theorem qDc (E:Env 0) (o20:qI×(List Ring)) (v24:qI×(List Int)):∀(n:Nat) (x31:Int) (l32:List qG) (l32n:Nat) (res:(List qG)),l32.length=l32n->XF v24 n x31 l32=some res->HL (kx E 119 0) (nd f55 2036) (zP 2 (λo=>EX o20 o) res) n (VZ o20 v24 x31 l32 l32n):=by
 intro n
 induction n with
 |zero=>
  intro x31 l32 l32n res hl0 hm;cases hm
 |succ n ih=>
  intro x31 l32 l32n res hl0 hm;subst hl0;refine qS (q_sq ?_);refine s_va 7 [(70,vb (decide (x31<(v24.2.length:Int))))] (q_cq hm (λhm=>?_) (λhm=>?_))
  ·refine q_sk (q_sq ?_);refine q_bk 3 ?_;obtain⟨g34,hm⟩:=qJ hm;obtain⟨g35,hm⟩:=qJ hm;obtain⟨g36,hm⟩:=qJ hm;obtain⟨g37,hm⟩:=qJ hm;obtain⟨g38,hm⟩:=qJ hm;obtain⟨g39,hm⟩:=qJ hm
   refine s_du [qi 3 g34,qd 4 dN (toNat_lt (zD g34)),qi 8 g35,qd 9 dN (toNat_lt (zD g35)),qi 14 g36,qd 15 dN (toNat_lt (zD g36)),qi 19 g37,qd 20 dN (toNat_lt (zD g37)),qi 25 g38,qd 26 dN (toNat_lt (zD g38)),qi 30 g39,qd 31 dN (toNat_lt (zD g39))] [0,0,2,7,15,0,0,64,224,480,1023,0,0,4096,14336,30720,0,0,131072,458752,983040,2095104,0,0,8388608,29360128,62914560,0,0,268435456,939524096,2013265920,4290772992,8589934591,0,34359738367] 7 [70] [(14,vp 7 0)] [] [(7,bx 66 [ci (v24.2.getD ((w64 (x31+1)).toNat) dd),ci (v24.2.getD ((w64 (x31+2)).toNat) dd),ci (v24.2.getD ((w64 (x31+3)).toNat) dd),ci (v24.2.getD ((w64 (x31+4)).toNat) dd),ci (v24.2.getD ((w64 (x31+5)).toNat) dd),ci (v24.2.getD ((w64 (x31+6)).toNat) dd)])] ?_
   obtain⟨g40,hm⟩:=qJ hm;obtain⟨g41,hm⟩:=qJ hm
   refine q_du [qi 4 g40,qd 5 dN (toNat_lt (zD g40)),qd 8 (drw 8 0 (rf qL [(qG.mk (v24.2.getD x31.toNat dd) (Box.mk (Span.mk (v24.2.getD ((w64 (x31+1)).toNat) dd) (v24.2.getD ((w64 (x31+2)).toNat) dd)) (Span.mk (v24.2.getD ((w64 (x31+3)).toNat) dd) (v24.2.getD ((w64 (x31+4)).toNat) dd)) (Span.mk (v24.2.getD ((w64 (x31+5)).toNat) dd) (v24.2.getD ((w64 (x31+6)).toNat) dd))))])) (litP qL dd 7 (λ_=>rfl) ([(qG.mk (v24.2.getD x31.toNat dd) (Box.mk (Span.mk (v24.2.getD ((w64 (x31+1)).toNat) dd) (v24.2.getD ((w64 (x31+2)).toNat) dd)) (Span.mk (v24.2.getD ((w64 (x31+3)).toNat) dd) (v24.2.getD ((w64 (x31+4)).toNat) dd)) (Span.mk (v24.2.getD ((w64 (x31+5)).toNat) dd) (v24.2.getD ((w64 (x31+6)).toNat) dd))))]:List qG) 1 rfl),qd 9 (drw 6 1 (rf qL (l32++[(qG.mk (v24.2.getD x31.toNat dd) (Box.mk (Span.mk (v24.2.getD ((w64 (x31+1)).toNat) dd) (v24.2.getD ((w64 (x31+2)).toNat) dd)) (Span.mk (v24.2.getD ((w64 (x31+3)).toNat) dd) (v24.2.getD ((w64 (x31+4)).toNat) dd)) (Span.mk (v24.2.getD ((w64 (x31+5)).toNat) dd) (v24.2.getD ((w64 (x31+6)).toNat) dd))))]))) (apP qL dd l32 ([(qG.mk (v24.2.getD x31.toNat dd) (Box.mk (Span.mk (v24.2.getD ((w64 (x31+1)).toNat) dd) (v24.2.getD ((w64 (x31+2)).toNat) dd)) (Span.mk (v24.2.getD ((w64 (x31+3)).toNat) dd) (v24.2.getD ((w64 (x31+4)).toNat) dd)) (Span.mk (v24.2.getD ((w64 (x31+5)).toNat) dd) (v24.2.getD ((w64 (x31+6)).toNat) dd))))]:List qG) l32.length 1 7 56 (1<=1) (ko _) rfl rfl (λ_=>rfl) (zK g41))] [0,1,0,0,12,28,0,124,252,511,1023,2047] 8 [14] [] [1,6,7] [(1,bx 25 [.own 4 0 2 o20.2.length,.own 6 1 7 (l32.length+1)]),(6,ro 1 68 7 (l32.length+1) (rf qL (l32++[(qG.mk (v24.2.getD x31.toNat dd) (Box.mk (Span.mk (v24.2.getD ((w64 (x31+1)).toNat) dd) (v24.2.getD ((w64 (x31+2)).toNat) dd)) (Span.mk (v24.2.getD ((w64 (x31+3)).toNat) dd) (v24.2.getD ((w64 (x31+4)).toNat) dd)) (Span.mk (v24.2.getD ((w64 (x31+5)).toNat) dd) (v24.2.getD ((w64 (x31+6)).toNat) dd))))])))] ?_
   refine q_vv [] 9 [13] [(13,vi (w64 (x31+7)))] ?_
   exact q_hl (VZ o20 v24 (w64 (x31+7)) (l32++[(qG.mk (v24.2.getD x31.toNat dd) (Box.mk (Span.mk (v24.2.getD ((w64 (x31+1)).toNat) dd) (v24.2.getD ((w64 (x31+2)).toNat) dd)) (Span.mk (v24.2.getD ((w64 (x31+3)).toNat) dd) (v24.2.getD ((w64 (x31+4)).toNat) dd)) (Span.mk (v24.2.getD ((w64 (x31+5)).toNat) dd) (v24.2.getD ((w64 (x31+6)).toNat) dd))))]) (l32.length+1)) (ih (w64 (x31+7)) (l32++[(qG.mk (v24.2.getD x31.toNat dd) (Box.mk (Span.mk (v24.2.getD ((w64 (x31+1)).toNat) dd) (v24.2.getD ((w64 (x31+2)).toNat) dd)) (Span.mk (v24.2.getD ((w64 (x31+3)).toNat) dd) (v24.2.getD ((w64 (x31+4)).toNat) dd)) (Span.mk (v24.2.getD ((w64 (x31+5)).toNat) dd) (v24.2.getD ((w64 (x31+6)).toNat) dd))))]) (l32.length+1) _ (zO rfl rfl) hm)
  ·refine q_ex 2 ?_;obtain rfl:=oi hm;exact q_l0
theorem qGB (a1:ByteArray) (r:Scan×Bool) (hm:GD a1=some r):CtX Tryz.prog globs 55 0 0 [.one (cs a1)] [] (HY r) (HN r):=by
 unfold GD at hm;refine q_E f55 119 λE=>?_;refine s_vn [] 0 ⟨[(0,vc (cs a1)),(2,vp 0 0)],[(0,bx 25 [.emp,.emp])]⟩ (s_vu [] 1 [] [(4,vp 1 0)] [] [(1,bx 25 [.emp,.emp])] ?_);obtain⟨v2,h3,hm⟩:=qD hm;obtain⟨v4,h5,hm⟩:=qD hm;refine s_vu [qc 1 [16] 2 (qAv a1 v2 h3),qk 2 [17] 2 ⟨[(17,va (qR v2))],[]⟩ (PX v2 24 (-1099511627776) 1099511627776 v4 h5)] 2 [0] [(5,vp 3 0),(6,vo 2 0 1 v4.2.length)] [] [(2,ro 0 3 1 v4.2.length (rf qH v4.2)),(3,bx 139 (qR v4.1))] (q_sq ?_)
 refine s_va 4 [(7,vi 0)] (q_fu [.ownB 1 0 4 45 2 (rf qM [])] [] [] [1] [(1,bx 25 [.own 4 0 2 0,.emp]),(4,ro 0 45 2 0 (rf qM []))] o0 ?_);obtain⟨u22,h21,hm⟩:=qD hm;refine zI (nd f55 244) 0 (by kernel_rfl) FUEL (λo=>SP o.1 o.2) (λv st=>RetQ Tryz.prog f55 (HY v) (HN v) .ret st) u22 (q_hl (GI v4 0 ([]:List Ring) 0 v4.1) (qCB E v4 FUEL 0 ([]:List Ring) 0 v4.1 u22 rfl h21)) ?_ ?_
 ·rintro v23 rfl st hr;obtain rfl:=oi hm;exact hr
 ·rintro o20 rfl;replace hm:_=some r:=hm;obtain⟨v24,h25,hm⟩:=qD hm;refine s_vu [qk 1 [53] 5 ⟨[(53,va (qR o20.1))],[]⟩ (PX o20.1 448 (-1099511627776) 1099511627776 v24 h25)] 5 [] [(12,vo 5 0 1 v24.2.length)] [3] [(3,bx 139 (qR v24.1)),(5,ro 0 3 1 v24.2.length (rf qH v24.2))] (q_sq ?_);refine q_jn (qD3 o20 v24) (λp=>ZY o20 v24 p=some r) ?_ ?_
  ·rintro x29 hm;refine q_cq hm (λhm=>?_) (λhm=>?_)
   ·refine s_vu [] 6 [4,12,65] [(3,vb false)] [1,4,5] [] (q_fu [.ownB 0 0 6 45 2 (rf qM [])] [] [] [0] [(0,bx 25 [.own 6 0 2 0,.emp]),(6,ro 0 45 2 0 (rf qM []))] o0 ?_);refine q_fu [.ownB 0 1 7 68 7 (rf qL [])] [] [] [0] [(0,bx 25 [.own 6 0 2 0,.own 7 0 7 0]),(7,ro 0 68 7 0 (rf qL []))] o0 (q_fu [.len 6 (([]:List Ring).length)] [] [] [0,6] [(0,bx 25 [.own 6 0 2 (([]:List Ring).length),.own 7 0 7 0]),(6,ro 0 45 2 (([]:List Ring).length) (rf qM []))] (o1 (And.intro (show 0=([]:List Ring).length from rfl) (show 0=([]:List Ring).length from rfl))) ?_)
    refine q_fu [.len 7 (([]:List qG).length)] [] [] [0,7] [(0,bx 25 [.own 6 0 2 (([]:List Ring).length),.own 7 0 7 (([]:List qG).length)]),(7,ro 0 68 7 (([]:List qG).length) (rf qL []))] (o1 (And.intro (show 0=([]:List qG).length from rfl) (show 0=([]:List qG).length from rfl))) ?_;obtain rfl:=oi hm;refine q_sw 6 0 (q_sw 7 1 ?_);exact q_rt q_rm
   ·refine q_sk (q_sq ?_);refine s_vv [] 6 [65] [(13,vi 0)] (q_fu [.ownB 1 1 6 68 7 (rf qL [])] [] [] [1] [(1,bx 25 [.own 4 0 2 o20.2.length,.own 6 0 7 0]),(6,ro 0 68 7 0 (rf qL []))] o0 ?_);obtain⟨o43,h44,hm⟩:=qD hm;refine zM (nd f55 2036) 2 (by kernel_rfl) FUEL (λo=>EX o20 o) o43 (q_hl (VZ o20 v24 0 ([]:List qG) 0) (qDc E o20 v24 FUEL 0 ([]:List qG) 0 o43 rfl h44)) (s_vu [] 7 [4] [(3,vb true)] [0,1] [(0,bx 25 [.own 4 0 2 o20.2.length,.own 6 0 7 o43.length])] ?_);obtain rfl:=oi hm;refine q_sw 4 0 (q_sw 6 1 ?_);exact q_rt q_rm
  ·obtain⟨v26,h27,hm⟩:=qD hm;rcases bif_c hm with⟨b28,hm⟩|⟨b28,hm⟩
   ·exact q_vu [qc 1 [57] 6 (qAV v24.1 v26 h27),qf 3 b28] 6 [5] [(65,vb true)] [3] [] (q_J (true) hm)
   ·exact q_vu [qc 1 [57] 6 (qAV v24.1 v26 h27),qf 3 b28,qd 6 dN (show(7:Int)≠0 by decide)] 6 [5] [(65,vb ((Int.tmod (v24.2.length:Int) 7) !=0))] [3] [] (q_J ((Int.tmod (v24.2.length:Int) 7) !=0) hm)
open Go.Proofs Go.Proofs.Tryz
def qEU (r:Scan×Int):V:= .tup [.agg [.own 0 0 2 r.1.Rings.length,.own 1 0 7 r.1.Defects.length],.one (ci r.2)]
def qFs (r:Scan×Int):List (Nat×(Nat×O)):=[(0,ro 0 45 2 r.1.Rings.length (rf qM r.1.Rings)),(1,ro 0 68 7 r.1.Defects.length (rf qL r.1.Defects))]
theorem qEE (a1:ByteArray) (r:Scan×Int) (hm:PB a1=some r):CtX Tryz.prog globs 22 0 0 [.one (cs a1)] [] (qEU r) (qFs r):=by
 unfold PB at hm;refine q_E f22 22 λE=>?_;refine s_vn [] 0 ⟨[(0,vc (cs a1)),(2,vp 0 0)],[(0,bx 25 [.emp,.emp])]⟩ ?_;obtain⟨v2,h3,hm⟩:=qD hm;refine s_vu [qc 1 [8] 1 (qGB a1 v2 h3)] 1 [0] [(4,vp 3 0),(5,vb v2.2)] [] [(1,ro 0 45 2 v2.1.Rings.length (rf qM v2.1.Rings)),(2,ro 0 68 7 v2.1.Defects.length (rf qL v2.1.Defects)),(3,bx 25 [.own 1 0 2 v2.1.Rings.length,.own 2 0 7 v2.1.Defects.length])] (q_sq ?_);refine s_vv [] 4 [5] [(13,vb (!v2.2))] (q_cq hm (λhm=>?_) (λhm=>?_))
 ·refine s_vu [] 4 [4,13] [(3,vi 5)] [1,2,3] [] (q_fu [.ownB 0 0 4 45 2 (rf qM [])] [] [] [0] [(0,bx 25 [.own 4 0 2 0,.emp]),(4,ro 0 45 2 0 (rf qM []))] o0 ?_);refine q_fu [.ownB 0 1 5 68 7 (rf qL [])] [] [] [0] [(0,bx 25 [.own 4 0 2 0,.own 5 0 7 0]),(5,ro 0 68 7 0 (rf qL []))] o0 (q_fu [.len 4 (([]:List Ring).length)] [] [] [0,4] [(0,bx 25 [.own 4 0 2 (([]:List Ring).length),.own 5 0 7 0]),(4,ro 0 45 2 (([]:List Ring).length) (rf qM []))] (o1 (And.intro (show 0=([]:List Ring).length from rfl) (show 0=([]:List Ring).length from rfl))) ?_)
  refine q_fu [.len 5 (([]:List qG).length)] [] [] [0,5] [(0,bx 25 [.own 4 0 2 (([]:List Ring).length),.own 5 0 7 (([]:List qG).length)]),(5,ro 0 68 7 (([]:List qG).length) (rf qL []))] (o1 (And.intro (show 0=([]:List qG).length from rfl) (show 0=([]:List qG).length from rfl))) ?_;obtain rfl:=oi hm;refine q_sw 4 0 (q_sw 5 1 ?_);exact q_rt q_rm
 ·refine q_sk (q_sq ?_);obtain⟨v5,h6,hm⟩:=qD hm;refine s_vv [qd 1 (dex (cen [] [] 4 0 (ZU v5) (yB v5) [15] [1,2])) (zF (K:=(kx E 22 0)) (b:=false) ⟨[(15,va [.own 1 0 2 v2.1.Rings.length,.own 2 0 7 v2.1.Defects.length])],[(1,ro 0 45 2 v2.1.Rings.length (rf qM v2.1.Rings)),(2,ro 0 68 7 v2.1.Defects.length (rf qL v2.1.Defects))]⟩ (opAt (rg f22 60) 1) [] [] 4 (o1 (And.intro (ko v2.1.Rings.length) (ko v2.1.Defects.length))) rfl (IU (Scan.mk v2.1.Rings v2.1.Defects) v5 h6) (.inr ⟨(by kernel_rfl),qGv v5⟩) (by kernel_rfl))] 4 [13] [(6,vi v5)] (s_va 4 [(18,vb (v5 !=0))] ?_)
  refine q_cq hm (λhm=>?_) (λhm=>?_)
  ·refine s_vu [] 4 [4,6,18] [(3,vi v5)] [1,2,3] [] (q_fu [.ownB 0 0 4 45 2 (rf qM [])] [] [] [0] [(0,bx 25 [.own 4 0 2 0,.emp]),(4,ro 0 45 2 0 (rf qM []))] o0 ?_);refine q_fu [.ownB 0 1 5 68 7 (rf qL [])] [] [] [0] [(0,bx 25 [.own 4 0 2 0,.own 5 0 7 0]),(5,ro 0 68 7 0 (rf qL []))] o0 (q_fu [.len 4 (([]:List Ring).length)] [] [] [0,4] [(0,bx 25 [.own 4 0 2 (([]:List Ring).length),.own 5 0 7 0]),(4,ro 0 45 2 (([]:List Ring).length) (rf qM []))] (o1 (And.intro (show 0=([]:List Ring).length from rfl) (show 0=([]:List Ring).length from rfl))) ?_)
   refine q_fu [.len 5 (([]:List qG).length)] [] [] [0,5] [(0,bx 25 [.own 4 0 2 (([]:List Ring).length),.own 5 0 7 (([]:List qG).length)]),(5,ro 0 68 7 (([]:List qG).length) (rf qL []))] (o1 (And.intro (show 0=([]:List qG).length from rfl) (show 0=([]:List qG).length from rfl))) ?_;obtain rfl:=oi hm;refine q_sw 4 0 (q_sw 5 1 ?_);exact q_rt q_rm
  ·refine q_sk (s_vu [] 4 [4,6,18] [(3,vi 0)] [0,3] [(0,bx 25 [.own 1 0 2 v2.1.Rings.length,.own 2 0 7 v2.1.Defects.length])] ?_);obtain rfl:=oi hm;refine q_sw 1 0 (q_sw 2 1 ?_);exact q_rt q_rm
def MX (r:Bool):V:=vb r
def MO (r:Bool):List (Nat×(Nat×O)):=[]
def GE (a1:Ring) (a2:Ring) (x6:Int):St:=
 ⟨[(2,vp 0 0),(3,vp 1 0),(5,vi x6)],[(0,bx 45 (qM a1)),(1,bx 45 (qM a2))]⟩
def EH :St:=
 ⟨[],[]⟩
def qDt (a1:Ring) (a2:Ring) (x4:Bool):St:=
 ⟨[(2,vp 0 0),(3,vp 1 0),(19,vb x4)],[(0,bx 45 (qM a1)),(1,bx 45 (qM a2))]⟩
theorem qDd (E:Env 0) (a1:Ring) (a2:Ring):∀(n:Nat) (x6:Int) (res:Bool⊕Unit),QB a1 a2 n x6=some res->HL (kx E 38 0) (nd f56 116) (zY 0 (λo=>EH) (λv st=>RetQ Tryz.prog f56 (MX v) (MO v) .ret st) res) n (GE a1 a2 x6):=by
 intro n
 induction n with
 |zero=>
  intro x6 res hm;cases hm
 |succ n ih=>
  intro x6 res hm;refine qS (q_sq ?_);refine s_va 2 [(24,vb (decide (x6<(a1.Read.length:Int))))] (q_cq hm (λhm=>?_) (λhm=>?_))
  ·refine q_sk (q_sq ?_);refine q_bk 1 ?_;obtain⟨g8,hm⟩:=qJ hm;obtain⟨g9,hm⟩:=qJ hm;refine s_du [qi 3 g8,qi 8 g9] [0,1,0,7,15,0,32,0,224,480,1023] 2 [24] [(37,vb (!((((((a1.Read.getD x6.toNat dd).P).X)==(((a2.Read.getD x6.toNat dd).P).X))&&(((((a1.Read.getD x6.toNat dd).P).Y)==(((a2.Read.getD x6.toNat dd).P).Y))&&true))&&((((a1.Read.getD x6.toNat dd).Ok)==((a2.Read.getD x6.toNat dd).Ok))&&true))))] [] [] (q_cq hm (λhm=>?_) (λhm=>?_))
   ·refine s_vn [] 2 ⟨[(4,vb false)],[]⟩ ?_;obtain rfl:=oi hm;refine q_rt (qX false ?_);exact q_rm
   ·refine q_sk (q_vv [] 2 [5,37] [(5,vi (w64 (x6+1)))] ?_);exact q_hl (GE a1 a2 (w64 (x6+1))) (ih (w64 (x6+1)) _ hm)
  ·refine q_ex 0 ?_;obtain rfl:=oi hm;exact q_l1 ()
theorem qGQ (a1:Ring) (a2:Ring) (r:Bool) (hm:GN a1 a2=some r):CtX Tryz.prog globs 56 0 0 [.agg (qM a1),.agg (qM a2)] [] (MX r) (MO r):=by
 unfold GN at hm;refine q_E f56 38 λE=>?_;refine s_vn [] 0 ⟨[(2,vp 0 0),(3,vp 1 0)],[(0,bx 45 (qM a1)),(1,bx 45 (qM a2))]⟩ (q_sq ?_);refine q_jn (qDt a1 a2) (λp=>RU a1 a2 p=some r) ?_ ?_
 ·rintro x4 hm;refine q_cq hm (λhm=>?_) (λhm=>?_)
  ·refine s_vn [] 2 ⟨[(4,vb false)],[]⟩ ?_;obtain rfl:=oi hm;exact q_rt q_rm
  ·refine q_sk (q_sq ?_);refine s_vv [] 2 [19] [(5,vi 0)] ?_;obtain⟨u13,h12,hm⟩:=qD hm;refine zI (nd f56 116) 0 (by kernel_rfl) FUEL (λo=>EH) (λv st=>RetQ Tryz.prog f56 (MX v) (MO v) .ret st) u13 (q_hl (GE a1 a2 0) (qDd E a1 a2 FUEL 0 u13 h12)) ?_ ?_
   ·rintro v14 rfl st hr;obtain rfl:=oi hm;exact hr
   ·rintro o11 rfl;replace hm:_=some r:=hm;refine s_vn [] 2 ⟨[(4,vb true)],[]⟩ ?_;obtain rfl:=oi hm;exact q_rt q_rm
 ·rcases bif_c hm with⟨b3,hm⟩|⟨b3,hm⟩
  ·exact q_vv [qf 5 b3] 2 [] [(19,vb true)] (q_J (true) hm)
  ·exact q_vv [qf 5 b3] 2 [] [(19,vb ((a1.Read.length:Int) !=(a2.Read.length:Int)))] (q_J ((a1.Read.length:Int) !=(a2.Read.length:Int)) hm)
def MN (r:Bool):V:=vb r
def HO (r:Bool):List (Nat×(Nat×O)):=[]
def VJ (a1:List qG) (a2:List qG) (x4:Int):St:=
 ⟨[(0,vc (tl qL dd a1)),(1,vc (tl qL dd a2)),(5,vi x4)],[]⟩
def EC :St:=
 ⟨[],[]⟩
theorem qCM (E:Env 0) (a1:List qG) (a2:List qG):∀(n:Nat) (x4:Int) (res:Bool⊕Unit),QE a1 a2 n x4=some res->HL (kx E 26 0) (nd f57 116) (zY 0 (λo=>EC) (λv st=>RetQ Tryz.prog f57 (MN v) (HO v) .ret st) res) n (VJ a1 a2 x4):=by
 intro n
 induction n with
 |zero=>
  intro x4 res hm;cases hm
 |succ n ih=>
  intro x4 res hm;refine qS (q_sq ?_);refine s_va 0 [(14,vb (decide (x4<(a1.length:Int))))] (q_cq hm (λhm=>?_) (λhm=>?_))
  ·refine q_sk (q_sq ?_);refine q_bk 1 ?_;obtain⟨g6,hm⟩:=qJ hm;obtain⟨g7,hm⟩:=qJ hm
   refine s_du [qi 2 g6,qi 6 g7] [0,0,3,7,0,0,48,112,255] 0 [14] [(25,vb (!((((a1.getD x4.toNat dd).Kind)==((a2.getD x4.toNat dd).Kind))&&((((((((a1.getD x4.toNat dd).Box).X).A)==((((a2.getD x4.toNat dd).Box).X).A))&&((((((a1.getD x4.toNat dd).Box).X).B)==((((a2.getD x4.toNat dd).Box).X).B))&&true))&&(((((((a1.getD x4.toNat dd).Box).Y).A)==((((a2.getD x4.toNat dd).Box).Y).A))&&((((((a1.getD x4.toNat dd).Box).Y).B)==((((a2.getD x4.toNat dd).Box).Y).B))&&true))&&(((((((a1.getD x4.toNat dd).Box).Z).A)==((((a2.getD x4.toNat dd).Box).Z).A))&&((((((a1.getD x4.toNat dd).Box).Z).B)==((((a2.getD x4.toNat dd).Box).Z).B))&&true))&&true)))&&true))))] [] [] (q_cq hm (λhm=>?_) (λhm=>?_))
   ·refine s_vn [] 0 ⟨[(4,vb false)],[]⟩ ?_;obtain rfl:=oi hm;refine q_rt (qX false ?_);exact q_rm
   ·refine q_sk (q_vv [] 0 [5,25] [(5,vi (w64 (x4+1)))] ?_);exact q_hl (VJ a1 a2 (w64 (x4+1))) (ih (w64 (x4+1)) _ hm)
  ·refine q_ex 0 ?_;obtain rfl:=oi hm;exact q_l1 ()
theorem qGC (a1:List qG) (a2:List qG) (r:Bool) (hm:GG a1 a2=some r):CtX Tryz.prog globs 57 0 0 [.one (tl qL dd a1),.one (tl qL dd a2)] [] (MN r) (HO r):=by
 unfold GG at hm;refine q_E f57 26 λE=>?_;refine s_vn [] 0 ⟨[(0,vc (tl qL dd a1)),(1,vc (tl qL dd a2))],[]⟩ (q_sq ?_);refine s_va 0 [(10,vb ((a1.length:Int) !=(a2.length:Int)))] (q_cq hm (λhm=>?_) (λhm=>?_))
 ·refine s_vn [] 0 ⟨[(4,vb false)],[]⟩ ?_;obtain rfl:=oi hm;exact q_rt q_rm
 ·refine q_sk (q_sq ?_);refine s_vv [] 0 [10] [(5,vi 0)] ?_;obtain⟨u11,h10,hm⟩:=qD hm;refine zI (nd f57 116) 0 (by kernel_rfl) FUEL (λo=>EC) (λv st=>RetQ Tryz.prog f57 (MN v) (HO v) .ret st) u11 (q_hl (VJ a1 a2 0) (qCM E a1 a2 FUEL 0 u11 h10)) ?_ ?_
  ·rintro v12 rfl st hr;obtain rfl:=oi hm;exact hr
  ·rintro o9 rfl;replace hm:_=some r:=hm;refine s_vn [] 0 ⟨[(4,vb true)],[]⟩ ?_;obtain rfl:=oi hm;exact q_rt q_rm
open Go.Proofs Go.Proofs.Tryz
def JB (r:Bool):V:=vb r
def yR (r:Bool):List (Nat×(Nat×O)):=[]
theorem HF (r:Bool):jQ (yR r):=by
 intro i k o h;unfold yR at h;cases h
def GB (a1:Scan) (a2:Scan) (x4:Int):St:=
 ⟨[(2,vp 0 0),(3,vp 1 0),(5,vi x4)],[(0,bx 25 (qV a1)),(1,bx 25 (qV a2))]⟩
def ES (a1:Scan) (a2:Scan):St:=
 ⟨[(2,vp 0 0),(3,vp 1 0)],[(0,bx 25 (qV a1)),(1,bx 25 (qV a2))]⟩
theorem qDh (E:Env 0) (a1:Scan) (a2:Scan):∀(n:Nat) (x4:Int) (res:Bool⊕Unit),QA a1 a2 n x4=some res->HL (kx E 37 0) (nd f23 116) (zY 0 (λo=>ES a1 a2) (λv st=>RetQ Tryz.prog f23 (JB v) (yR v) .ret st) res) n (GB a1 a2 x4):=by
 intro n
 induction n with
 |zero=>
  intro x4 res hm;cases hm
 |succ n ih=>
  intro x4 res hm;refine qS (q_sq ?_);refine s_va 2 [(17,vb (decide (x4<(a1.Rings.length:Int))))] (q_cq hm (λhm=>?_) (λhm=>?_))
  ·refine q_sk (q_sq ?_);refine q_bk 1 ?_;obtain⟨g6,hm⟩:=qJ hm;obtain⟨g7,hm⟩:=qJ hm;obtain⟨v8,h9,hm⟩:=qD hm;refine s_du [qi 3 g6,qi 8 g7,qc 10 [24,29] 2 (qGQ (a1.Rings.getD x4.toNat dd) (a2.Rings.getD x4.toNat dd) v8 h9)] [0,1,0,7,15,0,32,0,224,480,1023,2047] 2 [17] [(31,vb (!v8))] [] [] (q_cq hm (λhm=>?_) (λhm=>?_))
   ·refine s_vn [] 2 ⟨[(4,vb false)],[]⟩ ?_;obtain rfl:=oi hm;refine q_rt (qX false ?_);exact q_rm
   ·refine q_sk (q_vv [] 2 [5,31] [(5,vi (w64 (x4+1)))] ?_);exact q_hl (GB a1 a2 (w64 (x4+1))) (ih (w64 (x4+1)) _ hm)
  ·refine q_ex 0 ?_;obtain rfl:=oi hm;exact q_l1 ()
theorem NM (a1:Scan) (a2:Scan) (r:Bool) (hm:VK a1 a2=some r):CtX Tryz.prog globs 23 0 0 [.agg (qV a1),.agg (qV a2)] [] (JB r) (yR r):=by
 unfold VK at hm;refine q_E f23 37 λE=>?_;refine s_vn [] 0 ⟨[(2,vp 0 0),(3,vp 1 0)],[(0,bx 25 (qV a1)),(1,bx 25 (qV a2))]⟩ (q_sq ?_);refine s_va 2 [(12,vb ((a1.Rings.length:Int) !=(a2.Rings.length:Int)))] (q_cq hm (λhm=>?_) (λhm=>?_))
 ·refine s_vn [] 2 ⟨[(4,vb false)],[]⟩ ?_;obtain rfl:=oi hm;exact q_rt q_rm
 ·refine q_sk (q_sq ?_);refine s_vv [] 2 [12] [(5,vi 0)] ?_;obtain⟨u13,h12,hm⟩:=qD hm;refine zI (nd f23 116) 0 (by kernel_rfl) FUEL (λo=>ES a1 a2) (λv st=>RetQ Tryz.prog f23 (JB v) (yR v) .ret st) u13 (q_hl (GB a1 a2 0) (qDh E a1 a2 FUEL 0 u13 h12)) ?_ ?_
  ·rintro v14 rfl st hr;obtain rfl:=oi hm;exact hr
  ·rintro o11 rfl;replace hm:_=some r:=hm;obtain⟨v15,h16,hm⟩:=qD hm;refine s_vn [qc 4 [33,35] 2 (qGC a1.Defects a2.Defects v15 h16)] 2 ⟨[(4,vb v15)],[]⟩ ?_;obtain rfl:=oi hm;exact q_rt q_rm
end Saw
end Go.SL

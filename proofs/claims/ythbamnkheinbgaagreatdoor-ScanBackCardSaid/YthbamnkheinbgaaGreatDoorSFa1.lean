import Derived.Test.YthbamnkheinbgaaGreatDoorSBase
set_option linter.unusedVariables false
set_option linter.unusedSimpArgs false
namespace Go.SL
namespace Saw
open Go.Proofs Go.Proofs.Tryz
set_option maxHeartbeats 4000000
set_option maxRecDepth 100000
def qHZ (r:Bool):V:=vb r
def qHO (r:Bool):List (Nat×(Nat×O)):=[]
def qEs (x5:Bool):St:=
 ⟨[(6,vb x5)],[]⟩
theorem qGP (a1:qA) (a2:qA) (a3:Int) (r:Bool) (hm:qBO a1 a2 a3=some r):CtX Tryz.prog globs 146 0 0 [.agg (qB a1),.agg (qB a2),.one (ci a3)] [] (qHZ r) (qHO r):=by
 unfold qBO at hm;refine q_E f146 35 λE=>?_;refine s_vn [] 0 ⟨[(2,vi a3),(3,vp 0 0),(4,vp 1 0)],[(0,bx 71 (qB a1)),(1,bx 71 (qB a2))]⟩ (q_jn (qEs) (λp=>HN p=some r) ?_ ?_)
 ·rintro x5 hm;obtain rfl:=oi hm;exact q_rt q_rm
 ·rcases bif_c hm with⟨b4,hm⟩|⟨b4,hm⟩
  ·exact q_vn [qf 13 b4] 2 ⟨[(6,vb true)],[]⟩ (q_J (true) hm)
  ·exact q_vn [qf 13 b4] 2 ⟨[(6,vb (decide ((imax (w64 (a1.Y-a2.Y)) (w64 (a2.Y-a1.Y)))>a3)))],[]⟩ (q_J (decide ((imax (w64 (a1.Y-a2.Y)) (w64 (a2.Y-a1.Y)))>a3)) hm)
def LG (r:List qC):V:=vo 0 0 3 r.length
def LM (r:List qC):List (Nat×(Nat×O)):=[(0,ro 0 73 3 r.length (rf qF r))]
theorem LB (a1:List qC) (r:List qC) (hm:WZ a1=some r):CtX Tryz.prog globs 136 0 0 [.one (tl qF dd a1)] [] (LG r) (LM r):=by
 unfold WZ at hm;obtain⟨g1,hm⟩:=qJ hm;obtain rfl:=kK hm;refine qBQ (fn:=f136) (c:=nd f136 1) (nt:=8) (by kernel_rfl) (by kernel_rfl) (by kernel_rfl) (by kernel_rfl) λE=>?_;refine R_sq f136 2 3 (by kernel_rfl) (R_rn f136 2 0 [] [] 0 ⟨[(0,vc (tl qF dd a1))],[]⟩ o0 (by kernel_rfl) (by kernel_rfl) ?_);refine R_sq f136 6 7 (by kernel_rfl) (R_sq f136 12 13 (by kernel_rfl) ?_);refine R_nil f136 12 1 1 ⟨[(0,vc (tl qF dd a1)),(3,vc (tl qF dd a1))],[]⟩ 43 43 73 4 (.tmp 3) a1.length (rf qF a1) (by kernel_rfl) (by kernel_rfl) (by kernel_rfl) (λb hb=>?_)
 refine R_cn f136 (.tmp 4) 26 27 (by kernel_rfl) b (by kernel_rfl) (λb6=>?_) (λb6=>?_)
 ·obtain rfl:a1=[]:=List.eq_nil_of_length_eq_zero (hb b6);refine R_sq f136 52 53 (by kernel_rfl) (R_rn f136 52 2 [] [.own 2 0 73 3 (rf qF [])] 0 ⟨[(2,vo 0 0 3 0)],[(0,ro 0 73 3 0 (rf qF []))]⟩ o0 (by kernel_rfl) (by kernel_rfl) ?_);exact qCd (by kernel_rfl) (CA (by kernel_rfl) (by kernel_rfl))
 ·refine qGw (by kernel_rfl) (R_sq f136 14 15 (by kernel_rfl) ?_);refine R_rn f136 14 3 [(0,drw 0 0 (rf qF [])),(2,drw 0 1 (rf qF ([]++a1)))] [.len 0 a1.length] 0 ⟨[(2,vo 0 1 3 a1.length)],[(0,ro 1 73 3 a1.length (rf qF ([]++a1)))]⟩ (o1 (And.intro (And.intro (litP qF dd 3 (λ_=>rfl) ([]:List qC) 0 rfl) (apP qF dd ([]:List qC) a1 0 a1.length 3 24 True trivial rfl rfl (λ_=>rfl) (by have:=zW g1;rw[kF];exact this))) (And.intro (And.intro (kF a1.length) (kF a1.length)) (kF a1.length)))) (by kernel_rfl) (by kernel_rfl) (qCd (by kernel_rfl) ?_);exact CA (by kernel_rfl) (by kernel_rfl)
def qGn (r:Ring):V:=va [ci r.Z,.own 0 0 3 r.Read.length]
def qGx (r:Ring):List (Nat×(Nat×O)):=[(0,ro 0 73 3 r.Read.length (rf qF r.Read))]
theorem qEz (a1:Ring) (r:Ring) (hm:EI a1=some r):CtX Tryz.prog globs 132 0 0 [.agg (qO a1)] [] (qGn r) (qGx r):=by
 unfold EI at hm;refine q_E f132 9 λE=>?_;refine s_vn [] 0 ⟨[(1,vp 0 0),(2,vp 1 0)],[(0,bx 45 (qO a1)),(1,bx 45 [ci 0,.emp])]⟩ ?_;obtain⟨v2,h3,hm⟩:=qE hm;refine s_du [qc 4 [6] 2 (LB a1.Read v2 h3)] [0,1,0,4,12,31,63] 2 [1] [] [0,1] [(1,bx 45 [ci a1.Z,.own 2 0 3 v2.length]),(2,ro 0 73 3 v2.length (rf qF v2))] ?_;obtain rfl:=oi hm;exact q_sw 2 0 (q_rt q_rm)
open Go.Proofs Go.Proofs.Tryz
def qCm (r:(List Int)):V:=vo 0 0 1 r.length
def qB1 (r:(List Int)):List (Nat×(Nat×O)):=[(0,ro 0 3 1 r.length (rf qL r))]
def DG (a1:Ring) (x3:Int) (l8:List Int) (l8n:Nat):St:=
 ⟨[(3,vo 1 0 1 l8n),(7,vc (tl qF dd a1.Read)),(8,vi (a1.Read.length:Int)),(9,vi x3)],[(1,ro 0 3 1 l8n (rf qL l8))]⟩
def XQ (a1:Ring) (l2:List Int) (l2n:Nat) (x3:Int):St:=
 ⟨[(3,vo 1 0 1 l2n),(7,vc (tl qF dd a1.Read)),(8,vi (a1.Read.length:Int)),(9,vi x3)],[(1,ro 0 3 1 l2n (rf qL l2))]⟩
def DH (l9:List Int):St:=
 ⟨[(3,vo 1 0 1 l9.length)],[(1,ro 0 3 1 l9.length (rf qL l9))]⟩
theorem zbQ (E:Env 0) (a1:Ring):∀(n:Nat) (l2:List Int) (l2n:Nat) (x3:Int) (res:(List Int)),l2.length=l2n->QX a1 n l2 x3=some res->HL (kx E 22 0) (nd f71 116) (zT 0 DH res) n (XQ a1 l2 l2n x3):=by
 intro n
 induction n with
 |zero=>
  intro l2 l2n x3 res hl0 hm;cases hm
 |succ n ih=>
  intro l2 l2n x3 res hl0 hm;subst hl0;refine qT (s_va 2 [(10,vb (decide (x3<(a1.Read.length:Int))))] ?_);refine q_sq (q_cq hm (λhm=>?_) (λhm=>?_))
  ·refine q_sk (q_jn (ι:=(List Int)×Nat) (λp=>DG a1 x3 p.1 p.2) (λp=>p.1.length=p.2/\PY x3 (QX a1 n) p.1=some res) ?_ ?_)
   ·rintro⟨l8,l8n⟩ ⟨el8,hm⟩;replace el8:l8.length=l8n:=el8;subst el8;show H _ (DG a1 x3 l8 l8.length) _ _;exact q_vv [] 4 [9] [(9,vi (w64 (x3+1)))] (q_hl (XQ a1 l8 l8.length (w64 (x3+1))) (ih l8 l8.length (w64 (x3+1)) _ rfl hm))
   ·refine q_bk 1 ?_;obtain⟨g5,hm⟩:=qJ hm;refine s_vu [qi 1 g5] 2 [10] [(4,vi x3),(5,vp 2 0)] [] [(2,bx 73 (qF (a1.Read.getD x3.toNat dd)))] (s_vu [] 3 [5] [(15,vb ((a1.Read.getD x3.toNat dd).Ok))] [2] [] ?_);refine q_cq hm (λhm=>?_) (λhm=>?_)
    ·obtain⟨g7,hm⟩:=qJ hm;exact q_vu [qd 2 (drw 3 0 (rf qL [x3])) (litP qL dd 1 (λ_=>rfl) ([x3]:List Int) 1 rfl),qd 3 (drw 1 1 (rf qL (l2++[x3]))) (apP qL dd l2 ([x3]:List Int) l2.length 1 1 8 (1<=1) (kr _) rfl rfl (λ_=>rfl) (zW g7))] 3 [3,4,15] [(3,vo 1 1 1 (l2.length+1))] [1] [(1,ro 1 3 1 (l2.length+1) (rf qL (l2++[x3])))] (q_J ((l2++[x3]),(l2.length+1)) ⟨(wK rfl rfl),hm⟩)
    ·exact q_sk (q_J (l2,l2.length) ⟨rfl,hm⟩)
  ·refine q_ex 0 ?_;obtain rfl:=oi hm;exact q_l0
theorem RL (a1:Ring) (r:(List Int)) (hm:YF a1=some r):CtX Tryz.prog globs 71 0 0 [.agg (qO a1)] [] (qCm r) (qB1 r):=by
 unfold YF at hm;refine q_E f71 22 λE=>?_;refine s_vn [] 0 ⟨[(1,vp 0 0)],[(0,bx 45 (qO a1))]⟩ (s_va 1 [(3,vc (.emp))] ?_);refine q_sq (s_vu [] 1 [1] [(7,vc (tl qF dd a1.Read)),(8,vi (a1.Read.length:Int)),(9,vi 0)] [0] [] ?_);refine q_fo 3 1 3 1 qL ?_;obtain⟨o10,h11,hm⟩:=qE hm;refine zQ (nd f71 116) 0 (by kernel_rfl) FUEL DH o10 (q_hl (XQ a1 ([]:List Int) 0 0) (zbQ E a1 FUEL ([]:List Int) 0 0 o10 rfl h11)) (s_vv [] 2 [3] [(2,vo 1 0 1 o10.length)] ?_);obtain rfl:=oi hm;exact q_sw 1 0 (q_rt q_rm)
def qEq (r:Bool):V:=vb r
def qEO (r:Bool):List (Nat×(Nat×O)):=[]
def qBE (x3:Bool):St:=
 ⟨[(2,vb x3)],[]⟩
theorem VT (a1:Int) (r:Bool) (hm:YQ a1=some r):CtX Tryz.prog globs 84 0 0 [.one (ci a1)] [] (qEq r) (qEO r):=by
 unfold YQ at hm;refine q_E f84 9 λE=>?_;refine s_vn [] 0 ⟨[(0,vi a1)],[]⟩ (q_jn (qBE) (λp=>KN p=some r) ?_ ?_)
 ·rintro x3 hm;obtain rfl:=oi hm;exact q_rt q_rm
 ·rcases bif_c hm with⟨b2,hm⟩|⟨b2,hm⟩
  ·exact q_vn [qf 2 b2] 0 ⟨[(2,vb (decide (a1<=600)))],[]⟩ (q_J (decide (a1<=600)) hm)
  ·exact q_vn [qf 2 b2] 0 ⟨[(2,vb false)],[]⟩ (q_J (false) hm)
def FZ (r:Int):V:=vi r
def FY (r:Int):List (Nat×(Nat×O)):=[]
def qCw (a1:Ring) (x7:Int) (x19:Bool):St:=
 ⟨[(22,vc (tl qF dd a1.Read)),(23,vi (a1.Read.length:Int)),(24,vi x7),(52,vb x19)],[]⟩
def qCz (a1:Ring) (x7:Int) (x16:Bool):St:=
 ⟨[(4,vp 1 0),(22,vc (tl qF dd a1.Read)),(23,vi (a1.Read.length:Int)),(24,vi x7),(43,vb x16)],[(1,bx 73 (qF (a1.Read.getD x7.toNat dd)))]⟩
def UQ (a1:Ring) (x7:Int):St:=
 ⟨[(22,vc (tl qF dd a1.Read)),(23,vi (a1.Read.length:Int)),(24,vi x7)],[]⟩
def MD :St:=
 ⟨[],[]⟩
def qCJ (a1:Ring) (x5:Bool):St:=
 ⟨[(1,vp 0 0),(20,vb x5)],[(0,bx 45 (qO a1))]⟩
theorem qBc (E:Env 0) (a1:Ring):∀(n:Nat) (x7:Int) (res:Int⊕Unit),wH a1 n x7=some res->HL (kx E 54 0) (nd f38 500) (yS 0 (λo=>MD) (λv st=>RetQ Tryz.prog f38 (FZ v) (FY v) .ret st) res) n (UQ a1 x7):=by
 intro n
 induction n with
 |zero=>
  intro x7 res hm;cases hm
 |succ n ih=>
  intro x7 res hm;refine qT (s_va 1 [(25,vb (decide (x7<(a1.Read.length:Int))))] ?_);refine q_sq (q_cq hm (λhm=>?_) (λhm=>?_))
  ·refine q_sk (q_sq ?_);refine q_bk 1 ?_;obtain⟨g9,hm⟩:=qJ hm;refine s_vu [qi 0 g9] 1 [25] [(4,vp 1 0)] [] [(1,bx 73 (qF (a1.Read.getD x7.toNat dd)))] (q_sq ?_);refine q_jn (qCz a1 x7) (λp=>YC a1 x7 (wH a1 n) p=some res) ?_ ?_
   ·rintro x16 hm;refine q_cq hm (λhm=>?_) (λhm=>?_)
    ·refine s_vn [] 2 ⟨[(2,vi 9)],[]⟩ ?_;obtain rfl:=oi hm;refine q_rt (zU 9 ?_);exact q_rm
    ·refine q_sk (q_jn (qCw a1 x7) (λp=>PP x7 (wH a1 n) p=some res) ?_ ?_)
     ·rintro x19 hm;refine q_cq hm (λhm=>?_) (λhm=>?_)
      ·refine s_vn [] 2 ⟨[(2,vi 19)],[]⟩ ?_;obtain rfl:=oi hm;refine q_rt (zU 19 ?_);exact q_rm
      ·refine q_sk (q_vv [] 2 [24,52] [(24,vi (w64 (x7+1)))] ?_);exact q_hl (UQ a1 (w64 (x7+1))) (ih (w64 (x7+1)) _ hm)
     ·rcases bif_c hm with⟨b18,hm⟩|⟨b18,hm⟩
      ·exact q_vu [qf 3 b18] 2 [4,43] [(52,vb (!(((((a1.Read.getD x7.toNat dd).P).X)==0)&&(((((a1.Read.getD x7.toNat dd).P).Y)==0)&&true))))] [1] [] (q_J (!(((((a1.Read.getD x7.toNat dd).P).X)==0)&&(((((a1.Read.getD x7.toNat dd).P).Y)==0)&&true))) hm)
      ·exact q_vu [qf 3 b18] 2 [4,43] [(52,vb false)] [1] [] (q_J (false) hm)
   ·rcases bif_c hm with⟨b10,hm⟩|⟨b10,hm⟩
    ·obtain⟨v11,h12,hm⟩:=qE hm;rcases bif_c hm with⟨b13,hm⟩|⟨b13,hm⟩
     ·exact q_vv [qf 2 b10,qk 6 [30,33] 2 ⟨[(30,vb true),(33,vi (((a1.Read.getD x7.toNat dd).P).X))],[]⟩ (VT (((a1.Read.getD x7.toNat dd).P).X) v11 h12),qf 8 b13] 2 [] [(43,vb true)] (q_J (true) hm)
     ·obtain⟨v14,h15,hm⟩:=qE hm;exact q_vv [qf 2 b10,qk 6 [30,33] 2 ⟨[(30,vb true),(33,vi (((a1.Read.getD x7.toNat dd).P).X))],[]⟩ (VT (((a1.Read.getD x7.toNat dd).P).X) v11 h12),qf 8 b13,qk 12 [36,39] 2 ⟨[(36,vb false),(39,vi (((a1.Read.getD x7.toNat dd).P).Y))],[]⟩ (VT (((a1.Read.getD x7.toNat dd).P).Y) v14 h15)] 2 [] [(43,vb (!v14))] (q_J (!v14) hm)
    ·exact q_vv [qf 2 b10] 2 [] [(43,vb false)] (q_J (false) hm)
  ·refine q_ex 0 ?_;obtain rfl:=oi hm;exact q_l1 ()
theorem DX (a1:Ring) (r:Int) (hm:JP a1=some r):CtX Tryz.prog globs 38 0 0 [.agg (qO a1)] [] (FZ r) (FY r):=by
 unfold JP at hm;refine q_E f38 54 λE=>?_;refine s_vn [] 0 ⟨[(1,vp 0 0)],[(0,bx 45 (qO a1))]⟩ (q_sq ?_);refine s_va 1 [(8,vb (decide ((a1.Read.length:Int)<8)))] (q_cq hm (λhm=>?_) (λhm=>?_))
 ·refine s_vn [] 1 ⟨[(2,vi 3)],[]⟩ ?_;obtain rfl:=oi hm;exact q_rt q_rm
 ·refine q_sk (q_sq ?_);refine s_vv [] 1 [8] [(12,vb (decide ((a1.Read.length:Int)>32)))] (q_cq hm (λhm=>?_) (λhm=>?_))
  ·refine s_vn [] 1 ⟨[(2,vi 4)],[]⟩ ?_;obtain rfl:=oi hm;exact q_rt q_rm
  ·refine q_sk (q_sq ?_);refine q_jn (qCJ a1) (λp=>PH a1 p=some r) ?_ ?_
   ·rintro x5 hm;refine q_cq hm (λhm=>?_) (λhm=>?_)
    ·refine s_vn [] 1 ⟨[(2,vi 9)],[]⟩ ?_;obtain rfl:=oi hm;exact q_rt q_rm
    ·refine q_sk (q_sq ?_);refine s_vn [] 1 ⟨[(22,vc (tl qF dd a1.Read)),(23,vi (a1.Read.length:Int)),(24,vi 0)],[]⟩ ?_;obtain⟨u23,h22,hm⟩:=qE hm;refine wL (nd f38 500) 0 (by kernel_rfl) FUEL (λo=>MD) (λv st=>RetQ Tryz.prog f38 (FZ v) (FY v) .ret st) u23 (q_hl (UQ a1 0) (qBc E a1 FUEL 0 u23 h22)) ?_ ?_
     ·rintro v24 rfl st hr;obtain rfl:=oi hm;exact hr
     ·rintro o21 rfl;replace hm:_=some r:=hm;refine s_vn [] 1 ⟨[(2,vi 0)],[]⟩ ?_;obtain rfl:=oi hm;exact q_rt q_rm
   ·rcases bif_c hm with⟨b4,hm⟩|⟨b4,hm⟩
    ·exact q_vv [qf 3 b4] 1 [12] [(20,vb true)] (q_J (true) hm)
    ·exact q_vv [qf 3 b4] 1 [12] [(20,vb (decide (a1.Z>20000)))] (q_J (decide (a1.Z>20000)) hm)
open Go.Proofs Go.Proofs.Tryz
def qE9 (r:Ring):V:=va [ci r.Z,.own 0 0 3 r.Read.length]
def qFG (r:Ring):List (Nat×(Nat×O)):=[(0,ro 0 73 3 r.Read.length (rf qF r.Read))]
def QK (a1:Ring) (a2:Int) (v5:(List Int)) (x13:Int):St:=
 ⟨[(1,vi a2),(2,vp 0 0),(4,vp 1 0),(5,vp 3 0),(6,vo 4 0 1 v5.length),(30,vo 4 0 1 v5.length),(31,vi (v5.length:Int)),(32,vi x13)],[(0,bx 45 (qO a1)),(1,bx 45 [ci 0,.emp]),(4,ro 0 3 1 v5.length (rf qL v5))]⟩
def qB9 (a1:Ring) (a2:Int) (v3:Ring) (v5:(List Int)) (x13:Int) (l14:List qC) (x18:Int) (x28:Bool):St:=
 (QK a1 a2 v5 x13).up [] [(7,vi x13),(8,vi (v5.getD x13.toNat dd)),(9,vb x28),(37,va [ci (-1),ci 1]),(38,vi x18)] [] [(2,ro 0 73 3 l14.length (rf qF l14)),(3,bx 45 [ci v3.Z,.own 2 0 3 l14.length])]
def UC (a1:Ring) (a2:Int) (v3:Ring) (v5:(List Int)) (x13:Int) (l14:List qC) (x17:Bool) (x18:Int):St:=
 (QK a1 a2 v5 x13).up [] [(7,vi x13),(8,vi (v5.getD x13.toNat dd)),(9,vb x17),(37,va [ci (-1),ci 1]),(38,vi x18)] [] [(2,ro 0 73 3 l14.length (rf qF l14)),(3,bx 45 [ci v3.Z,.own 2 0 3 l14.length])]
def MI (a1:Ring) (a2:Int) (v3:Ring) (v5:(List Int)) (x13:Int) (l14:List qC) (x29:Bool):St:=
 (QK a1 a2 v5 x13).up [] [(8,vi (v5.getD x13.toNat dd)),(9,vb x29)] [] [(2,ro 0 73 3 l14.length (rf qF l14)),(3,bx 45 [ci v3.Z,.own 2 0 3 l14.length])]
def LY (a1:Ring) (a2:Int) (v3:Ring) (v5:(List Int)) (x13:Int) (l34:List qC) (l34n:Nat):St:=
 (QK a1 a2 v5 x13).up [] [] [] [(2,ro 0 73 3 l34n (rf qF l34)),(3,bx 45 [ci v3.Z,.own 2 0 3 l34n])]
def TM (a1:Ring) (a2:Int) (v3:Ring) (v5:(List Int)) (x13:Int) (l14:List qC) (l14n:Nat):St:=
 (QK a1 a2 v5 x13).up [] [] [] [(2,ro 0 73 3 l14n (rf qF l14)),(3,bx 45 [ci v3.Z,.own 2 0 3 l14n])]
def MJ (v3:Ring) (l35:List qC):St:=
 ⟨[(4,vp 1 0),(5,vp 3 0)],[(1,bx 45 [ci 0,.emp]),(2,ro 0 73 3 l35.length (rf qF l35)),(3,bx 45 [ci v3.Z,.own 2 0 3 l35.length])]⟩
def qCU (a1:Ring) (a2:Int) (v3:Ring) (v5:(List Int)) (x11:Bool):St:=
 ⟨[(1,vi a2),(2,vp 0 0),(4,vp 1 0),(5,vp 3 0),(6,vo 4 0 1 v5.length),(28,vb x11)],[(0,bx 45 (qO a1)),(1,bx 45 [ci 0,.emp]),(2,ro 0 73 3 v3.Read.length (rf qF v3.Read)),(3,bx 45 [ci v3.Z,.own 2 0 3 v3.Read.length]),(4,ro 0 3 1 v5.length (rf qL v5))]⟩
theorem qBs (E:Env 0) (a1:Ring) (a2:Int) (v3:Ring) (v5:(List Int)) (x13:Int) (l14:List qC):∀(n:Nat) (x17:Bool) (x18:Int) (res:Bool),YE a1 a2 v5 x13 n x17 x18=some res->HL (kx E 79 0) (nd f91 512820) (zT 2 (λo=>MI a1 a2 v3 v5 x13 l14 o) res) n (UC a1 a2 v3 v5 x13 l14 x17 x18):=by
 intro n
 induction n with
 |zero=>
  intro x17 x18 res hm;cases hm
 |succ n ih=>
  intro x17 x18 res hm;refine qT (s_va 5 [(39,vb (decide (x18<2)))] ?_);refine q_sq (q_cq hm (λhm=>?_) (λhm=>?_))
  ·refine q_sk (q_jn (qB9 a1 a2 v3 v5 x13 l14 x18) (λp=>BH x18 (YE a1 a2 v5 x13 n) p=some res) ?_ ?_)
   ·rintro x28 hm;exact q_vv [] 6 [38] [(38,vi (w64 (x18+1)))] (q_hl (UC a1 a2 v3 v5 x13 l14 x28 (w64 (x18+1))) (ih x28 (w64 (x18+1)) _ hm))
   ·refine q_bk 3 ?_;obtain⟨g20,hm⟩:=qJ hm;refine s_vv [qi 0 g20] 5 [39] [(11,vi (([(-1),1]:List Int).getD x18.toNat 0))] ?_;obtain⟨g21,hm⟩:=qJ hm;obtain⟨g22,hm⟩:=qJ hm;obtain⟨g23,hm⟩:=qJ hm;refine s_du [qd 11 dN (ND g21),qi 12 g22,qd 13 dN (toNat_lt (zJ g22)),qi 14 g23] [0,1,0,0,0,16,56,0,248,0,512,2040,4092,8188,16383,32767,65535,0,262143] 5 [11] [(12,vp 5 0)] [] [(5,bx 71 (qB ((a1.Read.getD (v5.getD ((Int.tmod (w64 ((w64 (x13+(v5.length:Int)))+(([(-1),1]:List Int).getD x18.toNat 0))) (v5.length:Int)).toNat) dd).toNat dd).P)))] ?_;rcases bif_c hm with⟨b24,hm⟩|⟨b24,hm⟩
    ·obtain⟨g25,hm⟩:=qJ hm;obtain⟨v26,h27,hm⟩:=qE hm
     refine q_du [qf 1 b24,qi 5 g25,qk 10 [59,65,66,67] 6 ⟨[(59,vb true),(65,va [ci (((a1.Read.getD (v5.getD x13.toNat dd).toNat dd).P).X),ci (((a1.Read.getD (v5.getD x13.toNat dd).toNat dd).P).Y)]),(66,va [ci (((a1.Read.getD (v5.getD ((Int.tmod (w64 ((w64 (x13+(v5.length:Int)))+(([(-1),1]:List Int).getD x18.toNat 0))) (v5.length:Int)).toNat) dd).toNat dd).P).X),ci (((a1.Read.getD (v5.getD ((Int.tmod (w64 ((w64 (x13+(v5.length:Int)))+(([(-1),1]:List Int).getD x18.toNat 0))) (v5.length:Int)).toNat) dd).toNat dd).P).Y)]),(67,vi a2)],[]⟩ (qGP ((a1.Read.getD (v5.getD x13.toNat dd).toNat dd).P) ((a1.Read.getD (v5.getD ((Int.tmod (w64 ((w64 (x13+(v5.length:Int)))+(([(-1),1]:List Int).getD x18.toNat 0))) (v5.length:Int)).toNat) dd).toNat dd).P) a2 v26 h27)] [0,1,3,7,3,31,63,127,3,3,1023,2047,4095] 6 [9,12] [(9,vb v26)] [5] [] ?_
     exact q_J (v26) hm
    ·exact q_du [qf 1 b24] [0,1,3,7,3,31,63,127,3,3,1023,2047,4095] 6 [9,12] [(9,vb false)] [5] [] (q_J (false) hm)
  ·refine q_ex 2 ?_;obtain rfl:=oi hm;exact q_l0
theorem qBD (E:Env 0) (a1:Ring) (a2:Int) (v3:Ring) (v5:(List Int)):∀(n:Nat) (x13:Int) (l14:List qC) (l14n:Nat) (res:(List qC)),l14.length=l14n->YD a1 a2 v5 n x13 l14=some res->HL (kx E 79 0) (nd f91 500) (zT 0 (λo=>MJ v3 o) res) n (TM a1 a2 v3 v5 x13 l14 l14n):=by
 intro n
 induction n with
 |zero=>
  intro x13 l14 l14n res hl0 hm;cases hm
 |succ n ih=>
  intro x13 l14 l14n res hl0 hm;subst hl0;refine qT (s_va 5 [(33,vb (decide (x13<(v5.length:Int))))] ?_);refine q_sq (q_cq hm (λhm=>?_) (λhm=>?_))
  ·refine q_sk (q_jn (ι:=(List qC)×Nat) (λp=>LY a1 a2 v3 v5 x13 p.1 p.2) (λp=>p.1.length=p.2/\BE x13 (YD a1 a2 v5 n) p.1=some res) ?_ ?_)
   ·rintro⟨l34,l34n⟩ ⟨el34,hm⟩;replace el34:l34.length=l34n:=el34;subst el34;show H _ (LY a1 a2 v3 v5 x13 l34 l34.length) _ _;exact q_vv [] 5 [32] [(32,vi (w64 (x13+1)))] (q_hl (TM a1 a2 v3 v5 (w64 (x13+1)) l34 l34.length) (ih (w64 (x13+1)) l34 l34.length _ rfl hm))
   ·refine q_bk 1 ?_;obtain⟨g16,hm⟩:=qJ hm;refine s_vv [qi 1 g16,qd 2 dN (toNat_lt (zJ g16))] 5 [33] [(7,vi x13),(8,vi (v5.getD x13.toNat dd))] (s_va 5 [(9,vb true)] ?_);refine q_sq (s_va 5 [(37,va [ci (-1),ci 1]),(38,vi 0)] ?_);obtain⟨o30,h31,hm⟩:=qE hm;refine zQ (nd f91 512820) 2 (by kernel_rfl) FUEL (λo=>MI a1 a2 v3 v5 x13 l14 o) o30 (q_hl (UC a1 a2 v3 v5 x13 l14 true 0) (qBs E a1 a2 v3 v5 x13 l14 FUEL true 0 o30 h31)) (s_vv [] 5 [9] [(71,vb o30)] ?_);refine q_cq hm (λhm=>?_) (λhm=>?_)
    ·obtain⟨g33,hm⟩:=qJ hm;exact q_vu [qi 4 g33,qd 5 (drw 0 0 (rf qF (l14.set ((v5.getD x13.toNat dd).toNat) (qC.mk (qA.mk 0 0) false)))) (stP qF dd (qC.mk (qA.mk 0 0) false) l14 l14.length ((v5.getD x13.toNat dd).toNat) 0 [ci 0,ci 0,cb false] rfl (toNat_lt (zJ g33)) rfl)] 5 [8,71] [] [2] [(2,ro 0 73 3 l14.length (rf qF (l14.set ((v5.getD x13.toNat dd).toNat) (qC.mk (qA.mk 0 0) false))))] (q_J ((l14.set ((v5.getD x13.toNat dd).toNat) (qC.mk (qA.mk 0 0) false)),l14.length) ⟨(KO rfl),hm⟩)
    ·exact q_sk (q_J (l14,l14.length) ⟨rfl,hm⟩)
  ·refine q_ex 0 ?_;obtain rfl:=oi hm;exact q_l0
theorem qEA (a1:Ring) (a2:Int) (r:Ring) (hm:AK a1 a2=some r):CtX Tryz.prog globs 91 0 0 [.agg (qO a1),.one (ci a2)] [] (qE9 r) (qFG r):=by
 unfold AK at hm;refine q_E f91 79 λE=>?_;refine s_vn [] 0 ⟨[(1,vi a2),(2,vp 0 0),(4,vp 1 0)],[(0,bx 45 (qO a1)),(1,bx 45 [ci 0,.emp])]⟩ ?_;obtain⟨v3,h4,hm⟩:=qE hm;refine s_vu [qc 1 [13] 2 (qEz a1 v3 h4)] 2 [] [(5,vp 3 0)] [] [(2,ro 0 73 3 v3.Read.length (rf qF v3.Read)),(3,bx 45 [ci v3.Z,.own 2 0 3 v3.Read.length])] ?_;obtain⟨v5,h6,hm⟩:=qE hm;refine s_vu [qc 1 [15] 4 (RL a1 v5 h6)] 4 [] [(6,vo 4 0 1 v5.length)] [] [(4,ro 0 3 1 v5.length (rf qL v5))] (q_sq ?_);refine q_jn (qCU a1 a2 v3 v5) (λp=>PK a1 a2 v3 v5 p=some r) ?_ ?_
 ·rintro x11 hm;refine q_cq hm (λhm=>?_) (λhm=>?_)
  ·refine s_vu [] 5 [1,2,5,6,28] [] [0,1,3,4] [(1,bx 45 [ci v3.Z,.own 2 0 3 v3.Read.length])] ?_;obtain rfl:=oi hm;exact q_sw 2 0 (q_rt q_rm)
  ·refine q_sk (q_sq ?_);refine s_vv [] 5 [28] [(30,vo 4 0 1 v5.length),(31,vi (v5.length:Int)),(32,vi 0)] ?_;obtain⟨o36,h37,hm⟩:=qE hm;refine zQ (nd f91 500) 0 (by kernel_rfl) FUEL (λo=>MJ v3 o) o36 (q_hl (TM a1 a2 v3 v5 0 v3.Read v3.Read.length) (qBD E a1 a2 v3 v5 FUEL 0 v3.Read v3.Read.length o36 rfl h37)) (s_vu [] 5 [5] [] [1,3] [(1,bx 45 [ci v3.Z,.own 2 0 3 o36.length])] ?_);obtain rfl:=oi hm;exact q_sw 2 0 (q_rt q_rm)
 ·rcases bif_c hm with⟨b7,hm⟩|⟨b7,hm⟩
  ·exact q_vv [qf 2 b7] 5 [] [(28,vb true)] (q_J (true) hm)
  ·rcases bif_c hm with⟨b8,hm⟩|⟨b8,hm⟩
   ·exact q_vv [qf 2 b7,qf 7 b8] 5 [] [(28,vb true)] (q_J (true) hm)
   ·obtain⟨v9,h10,hm⟩:=qE hm;exact q_vv [qf 2 b7,qf 7 b8,qk 9 [24,25] 5 ⟨[(24,vb false),(25,va (qO a1))],[]⟩ (DX a1 v9 h10)] 5 [] [(28,vb (v9 !=0))] (q_J (v9 !=0) hm)
def qFc (r:Int):V:=vi r
def qFm (r:Int):List (Nat×(Nat×O)):=[]
def qCD (x5:Int):St:=
 ⟨[(5,vi x5)],[]⟩
theorem II (a1:Int) (a2:Int) (r:Int) (hm:NF a1 a2=some r):CtX Tryz.prog globs 145 0 0 [.one (ci a1),.one (ci a2)] [] (qFc r) (qFm r):=by
 unfold NF at hm;refine q_E f145 16 λE=>?_;refine s_vn [] 0 ⟨[(0,vi a1),(1,vi a2)],[]⟩ ?_;obtain⟨g3,hm⟩:=qJ hm;refine s_vv [qd 2 dN (ND g3)] 0 [] [(5,vi (w64 (Int.tdiv a1 a2)))] (q_jn (qCD) (λp=>BA p=some r) ?_ ?_)
 ·rintro x5 hm;refine s_vn [] 0 ⟨[(4,vi x5)],[]⟩ ?_;obtain rfl:=oi hm;exact q_rt q_rm
 ·refine s_vv [qd 2 dN (ND g3)] 0 [0,1] [(12,vb (decide ((Int.tmod a1 a2)<0)))] (q_cq hm (λhm=>?_) (λhm=>?_))
  ·exact q_vn [] 0 ⟨[(5,vi (w64 ((w64 (Int.tdiv a1 a2))-1)))],[]⟩ (q_J (w64 ((w64 (Int.tdiv a1 a2))-1)) hm)
  ·exact q_sk (q_J (w64 (Int.tdiv a1 a2)) hm)
def BG (r:Int):V:=vi r
def JV (r:Int):List (Nat×(Nat×O)):=[]
theorem IK (r:Int):QI (JV r):=by
 intro i k o h;unfold JV at h;cases h
theorem EB (a1:Ring) (a2:List Int) (a3:Int) (r:Int) (hm:GK a1 a2 a3=some r):CtX Tryz.prog globs 72 0 0 [.agg (qO a1),.one (tl qL dd a2),.one (ci a3)] [] (BG r) (JV r):=by
 unfold GK at hm;refine q_E f72 36 λE=>?_;refine s_vn [] 0 ⟨[(1,vc (tl qL dd a2)),(2,vi a3),(3,vp 0 0)],[(0,bx 45 (qO a1))]⟩ (q_sq ?_);refine s_va 1 [(11,vb (decide ((w64 (a3+1))<(a2.length:Int))))] (q_cq hm (λhm=>?_) (λhm=>?_))
 ·obtain⟨g5,hm⟩:=qJ hm;obtain⟨g6,hm⟩:=qJ hm;refine s_dn [qi 3 g5,qi 7 g6] [0,0,2,7,15,0,0,96,224,511,1023,2047] 1 ⟨[(6,vi (w64 ((w64 ((a2.getD (w64 (a3+1)).toNat dd)-(a2.getD a3.toNat dd)))-1)))],[]⟩ ?_;obtain rfl:=oi hm;exact q_rt q_rm
 ·refine q_sk ?_;obtain⟨g7,hm⟩:=qJ hm;obtain⟨g8,hm⟩:=qJ hm;refine s_dn [qi 1 g7,qi 9 g8] [0,1,3,0,8,24,63,0,0,384,896,2047,4095,8191] 1 ⟨[(6,vi (w64 ((w64 ((w64 ((a2.getD (0:Int).toNat dd)+(a1.Read.length:Int)))-(a2.getD a3.toNat dd)))-1)))],[]⟩ ?_;obtain rfl:=oi hm;exact q_rt q_rm
open Go.Proofs Go.Proofs.Tryz
def qGJ (r:Int×Int):V:= .tup [.one (ci r.1),.one (ci r.2)]
def qGL (r:Int×Int):List (Nat×(Nat×O)):=[]
def VU (a1:Ring) (v2:(List Int)) (x5:Int) (x6:Int):St:=
 ⟨[(1,vp 0 0),(4,vo 1 0 1 v2.length),(5,vi (w64 ((a1.Read.length:Int)-(v2.length:Int)))),(6,vi x5),(22,vi (v2.length:Int)),(23,vi x6)],[(0,bx 45 (qO a1)),(1,ro 0 3 1 v2.length (rf qL v2))]⟩
def EE (a1:Ring) (v2:(List Int)) (x10:Int):St:=
 ⟨[(5,vi (w64 ((a1.Read.length:Int)-(v2.length:Int)))),(6,vi x10)],[]⟩
theorem qCQ (E:Env 0) (a1:Ring) (v2:(List Int)):∀(n:Nat) (x5:Int) (x6:Int) (res:Int),NX a1 v2 n x5 x6=some res->HL (kx E 35 0) (nd f32 1012) (zT 0 (λo=>EE a1 v2 o) res) n (VU a1 v2 x5 x6):=by
 intro n
 induction n with
 |zero=>
  intro x5 x6 res hm;cases hm
 |succ n ih=>
  intro x5 x6 res hm;refine qT (s_va 2 [(24,vb (decide (x6<(v2.length:Int))))] ?_);refine q_sq (q_cq hm (λhm=>?_) (λhm=>?_))
  ·refine q_sk (q_sq ?_);refine q_bk 1 (s_vv [] 2 [24] [(7,vi x6)] ?_);obtain⟨v8,h9,hm⟩:=qE hm;refine q_vv [qd 4 (dex (cen [] [] 2 0 (BG v8) (JV v8) [27,28,29] [1])) (zG (K:=(kx E 35 0)) (b:=false) ⟨[(27,va (qO a1)),(28,vo 1 0 1 v2.length),(29,vi x6)],[(1,ro 0 3 1 v2.length (rf qL v2))]⟩ (opAt (rg f32 32409) 4) [] [] 2 (o1 (kr v2.length)) rfl (EB a1 v2 x6 v8 h9) (.inr ⟨(by kernel_rfl),IK v8⟩) (by kernel_rfl))] 2 [6,7] [(6,vi (imax x5 v8))] (q_vv [] 2 [23] [(23,vi (w64 (x6+1)))] ?_);exact q_hl (VU a1 v2 (imax x5 v8) (w64 (x6+1))) (ih (imax x5 v8) (w64 (x6+1)) _ hm)
  ·refine q_ex 0 ?_;obtain rfl:=oi hm;exact q_l0
theorem qFB (a1:Ring) (r:Int×Int) (hm:CD a1=some r):CtX Tryz.prog globs 32 0 0 [.agg (qO a1)] [] (qGJ r) (qGL r):=by
 unfold CD at hm;refine q_E f32 35 λE=>?_;refine s_vn [] 0 ⟨[(1,vp 0 0)],[(0,bx 45 (qO a1))]⟩ ?_;obtain⟨v2,h3,hm⟩:=qE hm;refine s_vu [qc 1 [8] 1 (RL a1 v2 h3)] 1 [] [(4,vo 1 0 1 v2.length)] [] [(1,ro 0 3 1 v2.length (rf qL v2))] (s_va 2 [(5,vi (w64 ((a1.Read.length:Int)-(v2.length:Int))))] ?_);refine q_sq (s_va 2 [(18,vb ((v2.length:Int)==0))] ?_);refine q_cq hm (λhm=>?_) (λhm=>?_)
 ·refine s_vn [] 2 ⟨[(2,vi (w64 ((a1.Read.length:Int)-(v2.length:Int)))),(3,vi (w64 ((a1.Read.length:Int)-(v2.length:Int))))],[]⟩ ?_;obtain rfl:=oi hm;exact q_rt q_rm
 ·refine q_sk (s_vv [] 2 [18] [(6,vi 0)] ?_);refine q_sq (s_va 2 [(22,vi (v2.length:Int)),(23,vi 0)] ?_);obtain⟨o11,h12,hm⟩:=qE hm;refine zQ (nd f32 1012) 0 (by kernel_rfl) FUEL (λo=>EE a1 v2 o) o11 (q_hl (VU a1 v2 0 0) (qCQ E a1 v2 FUEL 0 0 o11 h12)) (s_vn [] 2 ⟨[(2,vi (w64 ((a1.Read.length:Int)-(v2.length:Int)))),(3,vi o11)],[]⟩ ?_);obtain rfl:=oi hm;exact q_rt q_rm
def IJ (r:(List qA)×Int):V:= .tup [.one (.own 0 0 2 r.1.length),.one (ci r.2)]
def PJ (r:(List qA)×Int):List (Nat×(Nat×O)):=[(0,ro 0 71 2 r.1.length (rf qB r.1))]
theorem qEL (r:(List qA)×Int):QI (PJ r):=by
 intro i k o h;unfold PJ at h;rw[look_cons] at h;split at h
 ·cases h;exact λ_ _=>rfl
 ·cases h
def XY (a1:Ring) (v6:(List Int)) (x16:Int):St:=
 ⟨[(2,vp 0 0),(7,vo 1 0 1 v6.length),(45,vo 1 0 1 v6.length),(46,vi (v6.length:Int)),(47,vi x16)],[(0,bx 45 (qO a1)),(1,ro 0 3 1 v6.length (rf qL v6))]⟩
def RO (a1:Ring) (v6:(List Int)) (x16:Int) (v24:Int) (l26:List qA) (l26n:Nat) (x27:Int):St:=
 (XY a1 v6 x16).up [] [(10,vo 2 0 2 l26n),(12,vi (v6.getD x16.toNat dd)),(13,vp 3 0),(14,vp 4 0),(15,vi v24),(16,vi x27)] [] [(2,ro 0 71 2 l26n (rf qB l26)),(3,bx 71 (qB ((a1.Read.getD (v6.getD x16.toNat dd).toNat dd).P))),(4,bx 71 (qB ((a1.Read.getD (v6.getD ((Int.tmod (w64 (x16+1)) (v6.length:Int)).toNat) dd).toNat dd).P)))]
def FL (a1:Ring) (v6:(List Int)) (x16:Int) (l35:List qA):St:=
 (XY a1 v6 x16).up [] [(10,vo 2 0 2 l35.length)] [] [(2,ro 0 71 2 l35.length (rf qB l35))]
def RH (a1:Ring) (v6:(List Int)) (l15:List qA) (l15n:Nat) (x16:Int):St:=
 (XY a1 v6 x16).up [] [(10,vo 2 0 2 l15n)] [] [(2,ro 0 71 2 l15n (rf qB l15))]
def FH (l38:List qA):St:=
 ⟨[(10,vo 2 0 2 l38.length)],[(2,ro 0 71 2 l38.length (rf qB l38))]⟩
def qBM (a1:Ring) (v6:(List Int)) (x12:Bool):St:=
 ⟨[(2,vp 0 0),(7,vo 1 0 1 v6.length),(40,vb x12)],[(0,bx 45 (qO a1)),(1,ro 0 3 1 v6.length (rf qL v6))]⟩
theorem qAZ (E:Env 0) (a1:Ring) (v6:(List Int)) (x16:Int) (v24:Int):∀(n:Nat) (l26:List qA) (l26n:Nat) (x27:Int) (res:(List qA)),l26.length=l26n->VC a1 v6 x16 v24 n l26 x27=some res->HL (kx E 121 0) (nd f90 4171388) (zT 2 (λo=>FL a1 v6 x16 o) res) n (RO a1 v6 x16 v24 l26 l26n x27):=by
 intro n
 induction n with
 |zero=>
  intro l26 l26n x27 res hl0 hm;cases hm
 |succ n ih=>
  intro l26 l26n x27 res hl0 hm;subst hl0;refine qT (q_sq ?_);refine s_va 5 [(81,vb (decide (x27<=v24)))] (q_cq hm (λhm=>?_) (λhm=>?_))
  ·refine q_sk (q_sq ?_);refine q_bk 3 ?_;obtain⟨g29,hm⟩:=qJ hm;obtain⟨v30,h31,hm⟩:=qE hm;obtain⟨v32,h33,hm⟩:=qE hm;obtain⟨g34,hm⟩:=qJ hm
   refine q_du [qd 6 dN (ND g29),qc 18 [99,101] 5 (II (w64 ((w64 ((((a1.Read.getD (v6.getD ((Int.tmod (w64 (x16+1)) (v6.length:Int)).toNat) dd).toNat dd).P).X)-(((a1.Read.getD (v6.getD x16.toNat dd).toNat dd).P).X)))*x27)) (w64 (v24+1)) v30 h31),qc 31 [112,114] 5 (II (w64 ((w64 ((((a1.Read.getD (v6.getD ((Int.tmod (w64 (x16+1)) (v6.length:Int)).toNat) dd).toNat dd).P).Y)-(((a1.Read.getD (v6.getD x16.toNat dd).toNat dd).P).Y)))*x27)) (w64 (v24+1)) v32 h33),qi 34 g34,qd 35 (drw 0 0 (rf qB (l26.set ((Int.tmod (w64 ((v6.getD x16.toNat dd)+x27)) (l26.length:Int)).toNat) (qA.mk (w64 ((((a1.Read.getD (v6.getD x16.toNat dd).toNat dd).P).X)+v30)) (w64 ((((a1.Read.getD (v6.getD x16.toNat dd).toNat dd).P).Y)+v32)))))) (stP qB dd (qA.mk (w64 ((((a1.Read.getD (v6.getD x16.toNat dd).toNat dd).P).X)+v30)) (w64 ((((a1.Read.getD (v6.getD x16.toNat dd).toNat dd).P).Y)+v32))) l26 l26.length ((Int.tmod (w64 ((v6.getD x16.toNat dd)+x27)) (l26.length:Int)).toNat) 0 [ci (w64 ((((a1.Read.getD (v6.getD x16.toNat dd).toNat dd).P).X)+v30)),ci (w64 ((((a1.Read.getD (v6.getD x16.toNat dd).toNat dd).P).Y)+v32))] rfl (toNat_lt (zJ g34)) rfl)] [0,0,0,6,0,16,62,0,128,0,512,0,2048,7680,0,32256,0,65536,261632,524160,0,1048576,0,4194304,0,16777216,62914560,0,264241152,0,536870912,2143813120,4294442496,8589934464,17179869183,34359738367] 5 [81] [] [2] [(2,ro 0 71 2 l26.length (rf qB (l26.set ((Int.tmod (w64 ((v6.getD x16.toNat dd)+x27)) (l26.length:Int)).toNat) (qA.mk (w64 ((((a1.Read.getD (v6.getD x16.toNat dd).toNat dd).P).X)+v30)) (w64 ((((a1.Read.getD (v6.getD x16.toNat dd).toNat dd).P).Y)+v32))))))] ?_
   exact q_vv [] 5 [16] [(16,vi (w64 (x27+1)))] (q_hl (RO a1 v6 x16 v24 (l26.set ((Int.tmod (w64 ((v6.getD x16.toNat dd)+x27)) (l26.length:Int)).toNat) (qA.mk (w64 ((((a1.Read.getD (v6.getD x16.toNat dd).toNat dd).P).X)+v30)) (w64 ((((a1.Read.getD (v6.getD x16.toNat dd).toNat dd).P).Y)+v32)))) l26.length (w64 (x27+1))) (ih (l26.set ((Int.tmod (w64 ((v6.getD x16.toNat dd)+x27)) (l26.length:Int)).toNat) (qA.mk (w64 ((((a1.Read.getD (v6.getD x16.toNat dd).toNat dd).P).X)+v30)) (w64 ((((a1.Read.getD (v6.getD x16.toNat dd).toNat dd).P).Y)+v32)))) l26.length (w64 (x27+1)) _ (KO rfl) hm))
  ·refine q_ex 2 ?_;obtain rfl:=oi hm;exact q_l0
theorem qAV (E:Env 0) (a1:Ring) (v6:(List Int)):∀(n:Nat) (l15:List qA) (l15n:Nat) (x16:Int) (res:(List qA)),l15.length=l15n->UW a1 v6 n l15 x16=some res->HL (kx E 121 0) (nd f90 2036) (zT 0 FH res) n (RH a1 v6 l15 l15n x16):=by
 intro n
 induction n with
 |zero=>
  intro l15 l15n x16 res hl0 hm;cases hm
 |succ n ih=>
  intro l15 l15n x16 res hl0 hm;subst hl0;refine qT (s_va 3 [(48,vb (decide (x16<(v6.length:Int))))] ?_);refine q_sq (q_cq hm (λhm=>?_) (λhm=>?_))
  ·refine q_sk (q_sq ?_);refine q_bk 1 ?_;obtain⟨g18,hm⟩:=qJ hm;refine s_vv [qi 1 g18,qd 2 dN (toNat_lt (zJ g18))] 3 [48] [(11,vi x16),(12,vi (v6.getD x16.toNat dd))] ?_;obtain⟨g19,hm⟩:=qJ hm;obtain⟨g20,hm⟩:=qJ hm;obtain⟨g21,hm⟩:=qJ hm;obtain⟨g22,hm⟩:=qJ hm
   refine s_du [qi 3 g19,qd 13 dN (ND g20),qi 14 g21,qd 15 dN (toNat_lt (zJ g21)),qi 16 g22] [0,1,0,7,15,31,0,64,0,0,512,0,2048,7680,16128,32512,65472,131008,262080,0,0,1572927,4194303] 3 [] [(13,vp 3 0),(14,vp 4 0)] [] [(3,bx 71 (qB ((a1.Read.getD (v6.getD x16.toNat dd).toNat dd).P))),(4,bx 71 (qB ((a1.Read.getD (v6.getD ((Int.tmod (w64 (x16+1)) (v6.length:Int)).toNat) dd).toNat dd).P)))] ?_;obtain⟨g23,hm⟩:=qJ hm
   refine s_vu [qi 3 g23,qd 4 (drw 0 0 (rf qB (l15.set ((v6.getD x16.toNat dd).toNat) ((a1.Read.getD (v6.getD x16.toNat dd).toNat dd).P)))) (stP qB dd ((a1.Read.getD (v6.getD x16.toNat dd).toNat dd).P) l15 l15.length ((v6.getD x16.toNat dd).toNat) 0 [ci (((a1.Read.getD (v6.getD x16.toNat dd).toNat dd).P).X),ci (((a1.Read.getD (v6.getD x16.toNat dd).toNat dd).P).Y)] rfl (toNat_lt (zJ g23)) rfl)] 5 [] [] [2] [(2,ro 0 71 2 l15.length (rf qB (l15.set ((v6.getD x16.toNat dd).toNat) ((a1.Read.getD (v6.getD x16.toNat dd).toNat dd).P))))] ?_;obtain⟨v24,h25,hm⟩:=qE hm
   refine s_vv [qd 3 (dex (cen [] [] 5 0 (BG v24) (JV v24) [75,76,77] [1])) (zG (K:=(kx E 121 0)) (b:=false) ⟨[(75,va (qO a1)),(76,vo 1 0 1 v6.length),(77,vi x16)],[(1,ro 0 3 1 v6.length (rf qL v6))]⟩ (opAt (rg f90 521422) 3) [] [] 5 (o1 (kr v6.length)) rfl (EB a1 v6 x16 v24 h25) (.inr ⟨(by kernel_rfl),IK v24⟩) (by kernel_rfl))] 5 [11] [(15,vi v24)] (s_va 5 [(16,vi 1)] ?_);obtain⟨o36,h37,hm⟩:=qE hm
   refine zQ (nd f90 4171388) 2 (by kernel_rfl) FUEL (λo=>FL a1 v6 x16 o) o36 (q_hl (RO a1 v6 x16 v24 (l15.set ((v6.getD x16.toNat dd).toNat) ((a1.Read.getD (v6.getD x16.toNat dd).toNat dd).P)) l15.length 1) (qAZ E a1 v6 x16 v24 FUEL (l15.set ((v6.getD x16.toNat dd).toNat) ((a1.Read.getD (v6.getD x16.toNat dd).toNat dd).P)) l15.length 1 o36 (KO rfl) h37)) (q_vv [] 5 [47] [(47,vi (w64 (x16+1)))] ?_);exact q_hl (RH a1 v6 o36 o36.length (w64 (x16+1))) (ih o36 o36.length (w64 (x16+1)) _ rfl hm)
  ·refine q_ex 0 ?_;obtain rfl:=oi hm;exact q_l0
theorem qDt (a1:Ring) (a2:Int) (r:(List qA)×Int) (hm:MV a1 a2=some r):CtX Tryz.prog globs 90 0 0 [.agg (qO a1),.one (ci a2)] [] (IJ r) (PJ r):=by
 unfold MV at hm;refine q_E f90 121 λE=>?_;refine s_vn [] 0 ⟨[(1,vi a2),(2,vp 0 0)],[(0,bx 45 (qO a1))]⟩ (q_sq ?_);obtain⟨v3,h4,hm⟩:=qE hm;refine s_vv [qc 1 [17] 1 (DX a1 v3 h4)] 1 [] [(6,vi v3)] (s_va 1 [(20,vb (v3 !=0))] ?_);refine q_cq hm (λhm=>?_) (λhm=>?_)
 ·refine s_vn [] 1 ⟨[(4,vc (.emp)),(5,vi v3)],[]⟩ (q_fo 4 1 71 2 qB ?_);refine q_fl 4 1 71 2 qB ?_;obtain rfl:=oi hm;exact q_sw 1 0 (q_rt q_rm)
 ·refine q_sk ?_;obtain⟨v6,h7,hm⟩:=qE hm;refine s_vu [qc 1 [22] 1 (RL a1 v6 h7)] 1 [6,20] [(7,vo 1 0 1 v6.length)] [] [(1,ro 0 3 1 v6.length (rf qL v6))] ?_;obtain⟨v8,h9,hm⟩:=qE hm;refine s_vv [qc 1 [25] 2 (qFB a1 v8 h9)] 2 [] [(8,vi v8.1),(9,vi v8.2)] (q_sq ?_);refine q_jn (qBM a1 v6) (λp=>KB a1 v6 p=some r) ?_ ?_
  ·rintro x12 hm;refine q_cq hm (λhm=>?_) (λhm=>?_)
   ·refine s_vn [] 2 ⟨[(4,vc (.emp)),(5,vi 30)],[]⟩ (q_fo 4 2 71 2 qB ?_);refine q_fl 4 2 71 2 qB ?_;obtain rfl:=oi hm;exact q_sw 2 0 (q_rt q_rm)
   ·refine q_sk ?_;obtain⟨g14,hm⟩:=qJ hm;refine s_vu [qd 3 (drw 2 0 (rf qB (List.replicate ((a1.Read.length:Int).toNat) (qA.mk 0 0)))) (mkP qB dd (qA.mk 0 0) (a1.Read.length:Int) 16 [ci 0,ci 0] (qDs g14) rfl)] 2 [40] [(10,vo 2 0 2 ((a1.Read.length:Int).toNat))] [] [(2,ro 0 71 2 ((a1.Read.length:Int).toNat) (rf qB (List.replicate ((a1.Read.length:Int).toNat) (qA.mk 0 0))))] (q_sq ?_);refine s_va 3 [(45,vo 1 0 1 v6.length),(46,vi (v6.length:Int)),(47,vi 0)] ?_;obtain⟨o39,h40,hm⟩:=qE hm
    refine zQ (nd f90 2036) 0 (by kernel_rfl) FUEL FH o39 (q_hl (RH a1 v6 (List.replicate ((a1.Read.length:Int).toNat) (qA.mk 0 0)) ((a1.Read.length:Int).toNat) 0) (qAV E a1 v6 FUEL (List.replicate ((a1.Read.length:Int).toNat) (qA.mk 0 0)) ((a1.Read.length:Int).toNat) 0 o39 qDB h40)) (s_vv [] 3 [10] [(4,vo 2 0 2 o39.length),(5,vi 0)] ?_);obtain rfl:=oi hm;exact q_sw 2 0 (q_rt q_rm)
  ·rcases bif_c hm with⟨b10,hm⟩|⟨b10,hm⟩
   ·exact q_vv [qf 3 b10] 2 [1,8,9] [(40,vb true)] (q_J (true) hm)
   ·rcases bif_c hm with⟨b11,hm⟩|⟨b11,hm⟩
    ·exact q_vv [qf 3 b10,qf 6 b11] 2 [1,8,9] [(40,vb (decide (v8.2>a2)))] (q_J (decide (v8.2>a2)) hm)
    ·exact q_vv [qf 3 b10,qf 6 b11] 2 [1,8,9] [(40,vb false)] (q_J (false) hm)
def qEJ (r:Bool):V:=vb r
def qEG (r:Bool):List (Nat×(Nat×O)):=[]
def qBB (x3:Bool):St:=
 ⟨[(2,vb x3)],[]⟩
theorem VH (a1:Int) (r:Bool) (hm:GS a1=some r):CtX Tryz.prog globs 120 0 0 [.one (ci a1)] [] (qEJ r) (qEG r):=by
 unfold GS at hm;refine q_E f120 9 λE=>?_;refine s_vn [] 0 ⟨[(0,vi a1)],[]⟩ (q_jn (qBB) (λp=>VN p=some r) ?_ ?_)
 ·rintro x3 hm;obtain rfl:=oi hm;exact q_rt q_rm
 ·rcases bif_c hm with⟨b2,hm⟩|⟨b2,hm⟩
  ·exact q_vn [qf 2 b2] 0 ⟨[(2,vb (decide (a1<=600)))],[]⟩ (q_J (decide (a1<=600)) hm)
  ·exact q_vn [qf 2 b2] 0 ⟨[(2,vb false)],[]⟩ (q_J (false) hm)
open Go.Proofs Go.Proofs.Tryz
def UY (r:Bool):V:=vb r
def VP (r:Bool):List (Nat×(Nat×O)):=[]
def qAF (a1:List qA) (x2:Int) (x10:Bool):St:=
 ⟨[(5,vc (tl qB dd a1)),(6,vi (a1.length:Int)),(7,vi x2),(20,vb x10)],[]⟩
def KT (a1:List qA) (x2:Int):St:=
 ⟨[(5,vc (tl qB dd a1)),(6,vi (a1.length:Int)),(7,vi x2)],[]⟩
def BQ :St:=
 ⟨[],[]⟩
theorem qAn (E:Env 0) (a1:List qA):∀(n:Nat) (x2:Int) (res:Bool⊕Unit),ZY a1 n x2=some res->HL (kx E 22 0) (nd f123 52) (yS 0 (λo=>BQ) (λv st=>RetQ Tryz.prog f123 (UY v) (VP v) .ret st) res) n (KT a1 x2):=by
 intro n
 induction n with
 |zero=>
  intro x2 res hm;cases hm
 |succ n ih=>
  intro x2 res hm;refine qT (s_va 0 [(8,vb (decide (x2<(a1.length:Int))))] ?_);refine q_sq (q_cq hm (λhm=>?_) (λhm=>?_))
  ·refine q_sk (q_sq ?_);refine q_bk 1 ?_;obtain⟨g4,hm⟩:=qJ hm;refine s_vu [qi 0 g4] 0 [8] [(4,vp 0 0)] [] [(0,bx 71 (qB (a1.getD x2.toNat dd)))] (q_jn (qAF a1 x2) (λp=>UA x2 (ZY a1 n) p=some res) ?_ ?_)
   ·rintro x10 hm;refine q_cq hm (λhm=>?_) (λhm=>?_)
    ·refine s_vn [] 1 ⟨[(2,vb false)],[]⟩ ?_;obtain rfl:=oi hm;refine q_rt (zU false ?_);exact q_rm
    ·refine q_sk (q_vv [] 1 [7,20] [(7,vi (w64 (x2+1)))] ?_);exact q_hl (KT a1 (w64 (x2+1))) (ih (w64 (x2+1)) _ hm)
   ·obtain⟨v5,h6,hm⟩:=qE hm;rcases bif_c hm with⟨b7,hm⟩|⟨b7,hm⟩
    ·exact q_vu [qc 2 [12] 1 (VH ((a1.getD x2.toNat dd).X) v5 h6),qf 4 b7] 1 [4] [(20,vb true)] [0] [] (q_J (true) hm)
    ·obtain⟨v8,h9,hm⟩:=qE hm;exact q_vu [qc 2 [12] 1 (VH ((a1.getD x2.toNat dd).X) v5 h6),qf 4 b7,qk 7 [15,17] 1 ⟨[(15,vb false),(17,vi ((a1.getD x2.toNat dd).Y))],[]⟩ (VH ((a1.getD x2.toNat dd).Y) v8 h9)] 1 [4] [(20,vb (!v8))] [0] [] (q_J (!v8) hm)
  ·refine q_ex 0 ?_;obtain rfl:=oi hm;exact q_l1 ()
theorem UI (a1:List qA) (r:Bool) (hm:XV a1=some r):CtX Tryz.prog globs 123 0 0 [.one (tl qB dd a1)] [] (UY r) (VP r):=by
 unfold XV at hm;refine q_E f123 22 λE=>?_;refine s_vn [] 0 ⟨[(0,vc (tl qB dd a1))],[]⟩ (q_sq ?_);refine s_vn [] 0 ⟨[(5,vc (tl qB dd a1)),(6,vi (a1.length:Int)),(7,vi 0)],[]⟩ ?_;obtain⟨u14,h13,hm⟩:=qE hm;refine wL (nd f123 52) 0 (by kernel_rfl) FUEL (λo=>BQ) (λv st=>RetQ Tryz.prog f123 (UY v) (VP v) .ret st) u14 (q_hl (KT a1 0) (qAn E a1 FUEL 0 u14 h13)) ?_ ?_
 ·rintro v15 rfl st hr;obtain rfl:=oi hm;exact hr
 ·rintro o12 rfl;replace hm:_=some r:=hm;refine s_vn [] 0 ⟨[(2,vb true)],[]⟩ ?_;obtain rfl:=oi hm;exact q_rt q_rm
end Saw
end Go.SL

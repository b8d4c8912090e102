import Derived.Test.YtigmogcdifllhaaGreatDoorEBase
set_option linter.unusedVariables false
set_option linter.unusedSimpArgs false
namespace Go.SL
namespace Saw
open Go.Proofs Go.Proofs.Tryz
set_option maxHeartbeats 4000000
set_option maxRecDepth 100000
def qFz (r:Bool):V:=vb r
def qFn (r:Bool):List (Nat×(Nat×O)):=[]
def qAR (a1:Pattern) (a2:Pattern) (x6:Int):St:=
 ⟨[(2,vp 0 0),(3,vp 1 0),(5,vi x6)],[(0,bx 58 (KZ a1)),(1,bx 58 (KZ a2))]⟩
def qF0 :St:=
 ⟨[],[]⟩
def qQf (a1:Pattern) (a2:Pattern) (x4:Bool):St:=
 ⟨[(2,vp 0 0),(3,vp 1 0),(19,vb x4)],[(0,bx 58 (KZ a1)),(1,bx 58 (KZ a2))]⟩
theorem qN1 (E:Env 0) (a1:Pattern) (a2:Pattern):∀(n:Nat) (x6:Int) (res:Bool⊕Unit),KL a1 a2 n x6=some res->HL (kx E 38 0) (nd f71 116) (wL 0 (λo=>qF0) (λv st=>RetQ Tryz.prog f71 (qFz v) (qFn v) .ret st) res) n (qAR a1 a2 x6):=by
 intro n
 induction n with
 |zero=>
  intro x6 res hm;cases hm
 |succ n ih=>
  intro x6 res hm;refine qS (q_sq ?_);refine s_va 2 [(24,vb (decide (x6<(a1.Nodes.length:Int))))] (q_cq hm (λhm=>?_) (λhm=>?_))
  ·refine q_sk (q_sq ?_);refine q_bk 1 ?_;obtain⟨g8,hm⟩:=qJ hm;obtain⟨g9,hm⟩:=qJ hm;refine s_du [qi 3 g8,qi 8 g9] [0,1,0,7,15,0,32,0,224,480,1023] 2 [24] [(37,vb (!((((a1.Nodes.getD x6.toNat dd).Kind)==((a2.Nodes.getD x6.toNat dd).Kind))&&((((a1.Nodes.getD x6.toNat dd).At)==((a2.Nodes.getD x6.toNat dd).At))&&true))))] [] [] (q_cq hm (λhm=>?_) (λhm=>?_))
   ·refine s_vn [] 2 ⟨[(4,vb false)],[]⟩ ?_;obtain rfl:=oi hm;refine q_rt (zJ false ?_);exact q_rm
   ·refine q_sk (q_vv [] 2 [5,37] [(5,vi (w64 (x6+1)))] ?_);exact q_hl (qAR a1 a2 (w64 (x6+1))) (ih (w64 (x6+1)) _ hm)
  ·refine q_ex 0 ?_;obtain rfl:=oi hm;exact q_l1 ()
theorem qSy (a1:Pattern) (a2:Pattern) (r:Bool) (hm:qEk a1 a2=some r):CtX Tryz.prog globs 71 0 0 [.agg (KZ a1),.agg (KZ a2)] [] (qFz r) (qFn r):=by
 unfold qEk at hm;refine q_E f71 38 λE=>?_;refine s_vn [] 0 ⟨[(2,vp 0 0),(3,vp 1 0)],[(0,bx 58 (KZ a1)),(1,bx 58 (KZ a2))]⟩ (q_sq ?_);refine q_jn (qQf a1 a2) (λp=>AV a1 a2 p=some r) ?_ ?_
 ·rintro x4 hm;refine q_cq hm (λhm=>?_) (λhm=>?_)
  ·refine s_vn [] 2 ⟨[(4,vb false)],[]⟩ ?_;obtain rfl:=oi hm;exact q_rt q_rm
  ·refine q_sk (q_sq ?_);refine s_vv [] 2 [19] [(5,vi 0)] ?_;obtain⟨u13,h12,hm⟩:=qC hm;refine zO (nd f71 116) 0 (by kernel_rfl) FUEL (λo=>qF0) (λv st=>RetQ Tryz.prog f71 (qFz v) (qFn v) .ret st) u13 (q_hl (qAR a1 a2 0) (qN1 E a1 a2 FUEL 0 u13 h12)) ?_ ?_
   ·rintro v14 rfl st hr;obtain rfl:=oi hm;exact hr
   ·rintro o11 rfl;replace hm:_=some r:=hm;refine s_vn [] 2 ⟨[(4,vb true)],[]⟩ ?_;obtain rfl:=oi hm;exact q_rt q_rm
 ·rcases bif_c hm with⟨b3,hm⟩|⟨b3,hm⟩
  ·exact q_vv [qf 5 b3] 2 [] [(19,vb true)] (q_J (true) hm)
  ·exact q_vv [qf 5 b3] 2 [] [(19,vb ((a1.Nodes.length:Int) !=(a2.Nodes.length:Int)))] (q_J ((a1.Nodes.length:Int) !=(a2.Nodes.length:Int)) hm)
def qUA (r:Bool):V:=vb r
def qTB (r:Bool):List (Nat×(Nat×O)):=[]
def qPU (x7:Bool):St:=
 ⟨[(4,vb x7)],[]⟩
theorem qSn (a1:yJ) (a2:yJ) (r:Bool) (hm:qEl a1 a2=some r):CtX Tryz.prog globs 34 0 0 [.agg [ci a1.Quarters,ci a1.Pattern.Frame.X.A,ci a1.Pattern.Frame.X.B,ci a1.Pattern.Frame.Y.A,ci a1.Pattern.Frame.Y.B,tl qL dd a1.Pattern.Nodes,ci a1.Value],.agg [ci a2.Quarters,ci a2.Pattern.Frame.X.A,ci a2.Pattern.Frame.X.B,ci a2.Pattern.Frame.Y.A,ci a2.Pattern.Frame.Y.B,tl qL dd a2.Pattern.Nodes,ci a2.Value]] [] (qUA r) (qTB r):=by
 unfold qEl at hm;refine q_E f34 24 λE=>?_;refine s_vn [] 0 ⟨[(2,vp 0 0),(3,vp 1 0)],[(0,bx 61 (qCa a1)),(1,bx 61 (qCa a2))]⟩ (q_jn (qPU) (λp=>NE p=some r) ?_ ?_)
 ·rintro x7 hm;obtain rfl:=oi hm;exact q_rt q_rm
 ·rcases bif_c hm with⟨b3,hm⟩|⟨b3,hm⟩
  ·rcases bif_c hm with⟨b4,hm⟩|⟨b4,hm⟩
   ·obtain⟨v5,h6,hm⟩:=qC hm;exact q_vn [qf 5 b3,qf 12 b4,qk 17 [17,19,21] 2 ⟨[(17,vb true),(19,va (KZ a1.Pattern)),(21,va (KZ a2.Pattern))],[]⟩ (qSy a1.Pattern a2.Pattern v5 h6)] 2 ⟨[(4,vb v5)],[]⟩ (q_J (v5) hm)
   ·exact q_vn [qf 5 b3,qf 12 b4] 2 ⟨[(4,vb false)],[]⟩ (q_J (false) hm)
  ·exact q_vn [qf 5 b3] 2 ⟨[(4,vb false)],[]⟩ (q_J (false) hm)
def qFF (r:List qO):V:=vo 0 0 3 r.length
def qFC (r:List qO):List (Nat×(Nat×O)):=[(0,ro 0 95 3 r.length (rf qV r))]
theorem LJ (a1:List qO) (r:List qO) (hm:WE a1=some r):CtX Tryz.prog globs 78 0 0 [.one (tl qV dd a1)] [] (qFF r) (qFC r):=by
 unfold WE at hm;obtain⟨g1,hm⟩:=qJ hm;obtain rfl:=kC hm;refine qBC (fn:=f78) (c:=nd f78 1) (nt:=8) (by kernel_rfl) (by kernel_rfl) (by kernel_rfl) (by kernel_rfl) λE=>?_;refine R_sq f78 2 3 (by kernel_rfl) (R_rn f78 2 0 [] [] 0 ⟨[(0,vc (tl qV dd a1))],[]⟩ o0 (by kernel_rfl) (by kernel_rfl) ?_);refine R_sq f78 6 7 (by kernel_rfl) (R_sq f78 12 13 (by kernel_rfl) ?_);refine qPy f78 12 1 1 ⟨[(0,vc (tl qV dd a1)),(3,vc (tl qV dd a1))],[]⟩ 69 69 95 4 (.tmp 3) a1.length (rf qV a1) (by kernel_rfl) (by kernel_rfl) (by kernel_rfl) (λb hb=>?_)
 refine R_cn f78 (.tmp 4) 26 27 (by kernel_rfl) b (by kernel_rfl) (λb6=>?_) (λb6=>?_)
 ·obtain rfl:a1=[]:=ue (hb b6);refine R_sq f78 52 53 (by kernel_rfl) (R_rn f78 52 2 [] [.own 2 0 95 3 (rf qV [])] 0 ⟨[(2,vo 0 0 3 0)],[(0,ro 0 95 3 0 (rf qV []))]⟩ o0 (by kernel_rfl) (by kernel_rfl) ?_);exact qAp (by kernel_rfl) (HI (by kernel_rfl) (by kernel_rfl))
 ·refine qHJ (by kernel_rfl) (R_sq f78 14 15 (by kernel_rfl) ?_);refine R_rn f78 14 3 [(0,drw 0 0 (rf qV [])),(2,drw 0 1 (rf qV ([]++a1)))] [.len 0 a1.length] 0 ⟨[(2,vo 0 1 3 a1.length)],[(0,ro 1 95 3 a1.length (rf qV ([]++a1)))]⟩ (o1 (And.intro (And.intro (litP qV dd 3 (λ_=>rfl) ([]:List qO) 0 rfl) (apP qV dd ([]:List qO) a1 0 a1.length 3 24 True trivial rfl rfl (λ_=>rfl) (by have:=wA g1;rw[kz];exact this))) (And.intro (And.intro (kz a1.length) (kz a1.length)) (kz a1.length)))) (by kernel_rfl) (by kernel_rfl) (qAp (by kernel_rfl) ?_);exact HI (by kernel_rfl) (by kernel_rfl)
open Go.Proofs Go.Proofs.Tryz
def qT4 (r:Ring):V:=va [ci r.Z,.own 0 0 3 r.Read.length]
def qUX (r:Ring):List (Nat×(Nat×O)):=[(0,ro 0 95 3 r.Read.length (rf qV r.Read))]
theorem qJs (a1:Ring) (r:Ring) (hm:HX a1=some r):CtX Tryz.prog globs 79 0 0 [.agg (qX a1)] [] (qT4 r) (qUX r):=by
 unfold HX at hm;refine q_E f79 9 λE=>?_;refine s_vn [] 0 ⟨[(1,vp 0 0),(2,vp 1 0)],[(0,bx 71 (qX a1)),(1,bx 71 [ci 0,.emp])]⟩ ?_;obtain⟨v2,h3,hm⟩:=qC hm;refine s_du [qc 4 [6] 2 (LJ a1.Read v2 h3)] [0,1,0,4,12,31,63] 2 [1] [] [0,1] [(1,bx 71 [ci a1.Z,.own 2 0 3 v2.length]),(2,ro 0 95 3 v2.length (rf qV v2))] ?_;obtain rfl:=oi hm;exact q_sw 2 0 (q_rt q_rm)
def qSZ (r:Bool):V:=vb r
def qSE (r:Bool):List (Nat×(Nat×O)):=[]
def qNl (x3:Bool):St:=
 ⟨[(2,vb x3)],[]⟩
theorem qBZ (a1:Int) (r:Bool) (hm:NU a1=some r):CtX Tryz.prog globs 141 0 0 [.one (ci a1)] [] (qSZ r) (qSE r):=by
 unfold NU at hm;refine q_E f141 9 λE=>?_;refine s_vn [] 0 ⟨[(0,vi a1)],[]⟩ (q_jn (qNl) (λp=>SO p=some r) ?_ ?_)
 ·rintro x3 hm;obtain rfl:=oi hm;exact q_rt q_rm
 ·rcases bif_c hm with⟨b2,hm⟩|⟨b2,hm⟩
  ·exact q_vn [qf 2 b2] 0 ⟨[(2,vb (decide (a1<=600)))],[]⟩ (q_J (decide (a1<=600)) hm)
  ·exact q_vn [qf 2 b2] 0 ⟨[(2,vb false)],[]⟩ (q_J (false) hm)
def qFg (r:Int):V:=vi r
def qFc (r:Int):List (Nat×(Nat×O)):=[]
def qQt (a1:Ring) (x7:Int) (x19:Bool):St:=
 ⟨[(22,vc (tl qV dd a1.Read)),(23,vi (a1.Read.length:Int)),(24,vi x7),(52,vb x19)],[]⟩
def qPg (a1:Ring) (x7:Int) (x16:Bool):St:=
 ⟨[(4,vp 1 0),(22,vc (tl qV dd a1.Read)),(23,vi (a1.Read.length:Int)),(24,vi x7),(43,vb x16)],[(1,bx 95 (qV (a1.Read.getD x7.toNat dd)))]⟩
def qAM (a1:Ring) (x7:Int):St:=
 ⟨[(22,vc (tl qV dd a1.Read)),(23,vi (a1.Read.length:Int)),(24,vi x7)],[]⟩
def qF3 :St:=
 ⟨[],[]⟩
def qQh (a1:Ring) (x5:Bool):St:=
 ⟨[(1,vp 0 0),(20,vb x5)],[(0,bx 71 (qX a1))]⟩
theorem qN9 (E:Env 0) (a1:Ring):∀(n:Nat) (x7:Int) (res:Int⊕Unit),QQ a1 n x7=some res->HL (kx E 54 0) (nd f75 500) (wL 0 (λo=>qF3) (λv st=>RetQ Tryz.prog f75 (qFg v) (qFc v) .ret st) res) n (qAM a1 x7):=by
 intro n
 induction n with
 |zero=>
  intro x7 res hm;cases hm
 |succ n ih=>
  intro x7 res hm;refine qS (s_va 1 [(25,vb (decide (x7<(a1.Read.length:Int))))] ?_);refine q_sq (q_cq hm (λhm=>?_) (λhm=>?_))
  ·refine q_sk (q_sq ?_);refine q_bk 1 ?_;obtain⟨g9,hm⟩:=qJ hm;refine s_vu [qi 0 g9] 1 [25] [(4,vp 1 0)] [] [(1,bx 95 (qV (a1.Read.getD x7.toNat dd)))] (q_sq ?_);refine q_jn (qPg a1 x7) (λp=>BW a1 x7 (QQ a1 n) p=some res) ?_ ?_
   ·rintro x16 hm;refine q_cq hm (λhm=>?_) (λhm=>?_)
    ·refine s_vn [] 2 ⟨[(2,vi 9)],[]⟩ ?_;obtain rfl:=oi hm;refine q_rt (zJ 9 ?_);exact q_rm
    ·refine q_sk (q_jn (qQt a1 x7) (λp=>IB x7 (QQ a1 n) p=some res) ?_ ?_)
     ·rintro x19 hm;refine q_cq hm (λhm=>?_) (λhm=>?_)
      ·refine s_vn [] 2 ⟨[(2,vi 19)],[]⟩ ?_;obtain rfl:=oi hm;refine q_rt (zJ 19 ?_);exact q_rm
      ·refine q_sk (q_vv [] 2 [24,52] [(24,vi (w64 (x7+1)))] ?_);exact q_hl (qAM a1 (w64 (x7+1))) (ih (w64 (x7+1)) _ hm)
     ·rcases bif_c hm with⟨b18,hm⟩|⟨b18,hm⟩
      ·exact q_vu [qf 3 b18] 2 [4,43] [(52,vb (!(((((a1.Read.getD x7.toNat dd).P).X)==0)&&(((((a1.Read.getD x7.toNat dd).P).Y)==0)&&true))))] [1] [] (q_J (!(((((a1.Read.getD x7.toNat dd).P).X)==0)&&(((((a1.Read.getD x7.toNat dd).P).Y)==0)&&true))) hm)
      ·exact q_vu [qf 3 b18] 2 [4,43] [(52,vb false)] [1] [] (q_J (false) hm)
   ·rcases bif_c hm with⟨b10,hm⟩|⟨b10,hm⟩
    ·obtain⟨v11,h12,hm⟩:=qC hm;rcases bif_c hm with⟨b13,hm⟩|⟨b13,hm⟩
     ·exact q_vv [qf 2 b10,qk 6 [30,33] 2 ⟨[(30,vb true),(33,vi (((a1.Read.getD x7.toNat dd).P).X))],[]⟩ (qBZ (((a1.Read.getD x7.toNat dd).P).X) v11 h12),qf 8 b13] 2 [] [(43,vb true)] (q_J (true) hm)
     ·obtain⟨v14,h15,hm⟩:=qC hm;exact q_vv [qf 2 b10,qk 6 [30,33] 2 ⟨[(30,vb true),(33,vi (((a1.Read.getD x7.toNat dd).P).X))],[]⟩ (qBZ (((a1.Read.getD x7.toNat dd).P).X) v11 h12),qf 8 b13,qk 12 [36,39] 2 ⟨[(36,vb false),(39,vi (((a1.Read.getD x7.toNat dd).P).Y))],[]⟩ (qBZ (((a1.Read.getD x7.toNat dd).P).Y) v14 h15)] 2 [] [(43,vb (!v14))] (q_J (!v14) hm)
    ·exact q_vv [qf 2 b10] 2 [] [(43,vb false)] (q_J (false) hm)
  ·refine q_ex 0 ?_;obtain rfl:=oi hm;exact q_l1 ()
theorem IF (a1:Ring) (r:Int) (hm:UH a1=some r):CtX Tryz.prog globs 75 0 0 [.agg (qX a1)] [] (qFg r) (qFc r):=by
 unfold UH at hm;refine q_E f75 54 λE=>?_;refine s_vn [] 0 ⟨[(1,vp 0 0)],[(0,bx 71 (qX a1))]⟩ (q_sq ?_);refine s_va 1 [(8,vb (decide ((a1.Read.length:Int)<8)))] (q_cq hm (λhm=>?_) (λhm=>?_))
 ·refine s_vn [] 1 ⟨[(2,vi 3)],[]⟩ ?_;obtain rfl:=oi hm;exact q_rt q_rm
 ·refine q_sk (q_sq ?_);refine s_vv [] 1 [8] [(12,vb (decide ((a1.Read.length:Int)>32)))] (q_cq hm (λhm=>?_) (λhm=>?_))
  ·refine s_vn [] 1 ⟨[(2,vi 4)],[]⟩ ?_;obtain rfl:=oi hm;exact q_rt q_rm
  ·refine q_sk (q_sq ?_);refine q_jn (qQh a1) (λp=>II a1 p=some r) ?_ ?_
   ·rintro x5 hm;refine q_cq hm (λhm=>?_) (λhm=>?_)
    ·refine s_vn [] 1 ⟨[(2,vi 9)],[]⟩ ?_;obtain rfl:=oi hm;exact q_rt q_rm
    ·refine q_sk (q_sq ?_);refine s_vn [] 1 ⟨[(22,vc (tl qV dd a1.Read)),(23,vi (a1.Read.length:Int)),(24,vi 0)],[]⟩ ?_;obtain⟨u23,h22,hm⟩:=qC hm;refine zO (nd f75 500) 0 (by kernel_rfl) FUEL (λo=>qF3) (λv st=>RetQ Tryz.prog f75 (qFg v) (qFc v) .ret st) u23 (q_hl (qAM a1 0) (qN9 E a1 FUEL 0 u23 h22)) ?_ ?_
     ·rintro v24 rfl st hr;obtain rfl:=oi hm;exact hr
     ·rintro o21 rfl;replace hm:_=some r:=hm;refine s_vn [] 1 ⟨[(2,vi 0)],[]⟩ ?_;obtain rfl:=oi hm;exact q_rt q_rm
   ·rcases bif_c hm with⟨b4,hm⟩|⟨b4,hm⟩
    ·exact q_vv [qf 3 b4] 1 [12] [(20,vb true)] (q_J (true) hm)
    ·exact q_vv [qf 3 b4] 1 [12] [(20,vb (decide (a1.Z>20000)))] (q_J (decide (a1.Z>20000)) hm)
open Go.Proofs Go.Proofs.Tryz
def qBm (r:Bool):V:=vb r
def qB9 (r:Bool):List (Nat×(Nat×O)):=[]
def qMg (a1:List qA) (x2:Int) (x6:Bool):St:=
 ⟨[(5,vc (tl qF dd a1)),(6,vi (a1.length:Int)),(7,vi x2),(18,vb x6)],[]⟩
def EH (a1:List qA) (x2:Int):St:=
 ⟨[(5,vc (tl qF dd a1)),(6,vi (a1.length:Int)),(7,vi x2)],[]⟩
def qD9 :St:=
 ⟨[],[]⟩
theorem qKl (E:Env 0) (a1:List qA):∀(n:Nat) (x2:Int) (res:Bool⊕Unit),ZM a1 n x2=some res->HL (kx E 20 0) (nd f143 52) (wL 0 (λo=>qD9) (λv st=>RetQ Tryz.prog f143 (qBm v) (qB9 v) .ret st) res) n (EH a1 x2):=by
 intro n
 induction n with
 |zero=>
  intro x2 res hm;cases hm
 |succ n ih=>
  intro x2 res hm;refine qS (s_va 0 [(8,vb (decide (x2<(a1.length:Int))))] ?_);refine q_sq (q_cq hm (λhm=>?_) (λhm=>?_))
  ·refine q_sk (q_sq ?_);refine q_bk 1 ?_;obtain⟨g4,hm⟩:=qJ hm;refine s_vu [qi 0 g4] 0 [8] [(4,vp 0 0)] [] [(0,bx 93 (qF (a1.getD x2.toNat dd)))] (q_jn (qMg a1 x2) (λp=>zaQ x2 (ZM a1 n) p=some res) ?_ ?_)
   ·rintro x6 hm;refine q_cq hm (λhm=>?_) (λhm=>?_)
    ·refine s_vn [] 1 ⟨[(2,vb false)],[]⟩ ?_;obtain rfl:=oi hm;refine q_rt (zJ false ?_);exact q_rm
    ·refine q_sk (q_vv [] 1 [7,18] [(7,vi (w64 (x2+1)))] ?_);exact q_hl (EH a1 (w64 (x2+1))) (ih (w64 (x2+1)) _ hm)
   ·rcases bif_c hm with⟨b5,hm⟩|⟨b5,hm⟩
    ·exact q_vu [qf 3 b5] 1 [4] [(18,vb true)] [0] [] (q_J (true) hm)
    ·exact q_vu [qf 3 b5] 1 [4] [(18,vb (((a1.getD x2.toNat dd).Y)==(-9223372036854775808)))] [0] [] (q_J (((a1.getD x2.toNat dd).Y)==(-9223372036854775808)) hm)
  ·refine q_ex 0 ?_;obtain rfl:=oi hm;exact q_l1 ()
theorem qOW (a1:List qA) (r:Bool) (hm:LK a1=some r):CtX Tryz.prog globs 143 0 0 [.one (tl qF dd a1)] [] (qBm r) (qB9 r):=by
 unfold LK at hm;refine q_E f143 20 λE=>?_;refine s_vn [] 0 ⟨[(0,vc (tl qF dd a1))],[]⟩ (q_sq ?_);refine s_vn [] 0 ⟨[(5,vc (tl qF dd a1)),(6,vi (a1.length:Int)),(7,vi 0)],[]⟩ ?_;obtain⟨u10,h9,hm⟩:=qC hm;refine zO (nd f143 52) 0 (by kernel_rfl) FUEL (λo=>qD9) (λv st=>RetQ Tryz.prog f143 (qBm v) (qB9 v) .ret st) u10 (q_hl (EH a1 0) (qKl E a1 FUEL 0 u10 h9)) ?_ ?_
 ·rintro v11 rfl st hr;obtain rfl:=oi hm;exact hr
 ·rintro o8 rfl;replace hm:_=some r:=hm;refine s_vn [] 0 ⟨[(2,vb true)],[]⟩ ?_;obtain rfl:=oi hm;exact q_rt q_rm
def qMz (r:(List qA)):V:=vo 0 0 2 r.length
def qCh (r:(List qA)):List (Nat×(Nat×O)):=[(0,ro 0 93 2 r.length (rf qF r))]
theorem qWm (r:(List qA)):ZE (qCh r):=by
 intro i k o h;unfold qCh at h;rw[look_cons] at h;split at h
 ·cases h;exact λ_ _=>rfl
 ·cases h
def qBR (a1:List qA) (a2:Int) (l8:List qA) (l8n:Nat) (x9:Int):St:=
 ⟨[(5,vp 0 0),(6,vo 1 0 2 l8n),(21,vc (tl qF dd a1)),(22,vi (a1.length:Int)),(23,vi x9)],[(0,bx 93 (qF (zK.getD (Int.tmod (w64 ((Int.tmod a2 4)+4)) 4).toNat dd))),(1,ro 0 93 2 l8n (rf qF l8))]⟩
def qHV (l13:List qA):St:=
 ⟨[(6,vo 1 0 2 l13.length)],[(1,ro 0 93 2 l13.length (rf qF l13))]⟩
theorem qO2 (E:Env 0) (a1:List qA) (a2:Int):∀(n:Nat) (l8:List qA) (l8n:Nat) (x9:Int) (res:(List qA)),l8.length=l8n->GL a1 a2 n l8 x9=some res->HL (kx E 56 0) (nd f80 500) (zL 0 qHV res) n (qBR a1 a2 l8 l8n x9):=by
 intro n
 induction n with
 |zero=>
  intro l8 l8n x9 res hl0 hm;cases hm
 |succ n ih=>
  intro l8 l8n x9 res hl0 hm;subst hl0;refine qS (s_va 2 [(24,vb (decide (x9<(a1.length:Int))))] ?_);refine q_sq (q_cq hm (λhm=>?_) (λhm=>?_))
  ·refine q_sk (q_sq ?_);refine q_bk 1 ?_;obtain⟨g11,hm⟩:=qJ hm;refine s_vu [qi 1 g11] 2 [24] [(7,vi x9),(8,vp 2 0)] [] [(2,bx 93 (qF (a1.getD x9.toNat dd)))] ?_;obtain⟨g12,hm⟩:=qJ hm
   refine q_vu [qi 25 g12,qd 26 (drw 0 0 (rf qF (l8.set x9.toNat (qA.mk (w64 ((w64 (((zK.getD (Int.tmod (w64 ((Int.tmod a2 4)+4)) 4).toNat dd).X)*((a1.getD x9.toNat dd).X)))-(w64 (((zK.getD (Int.tmod (w64 ((Int.tmod a2 4)+4)) 4).toNat dd).Y)*((a1.getD x9.toNat dd).Y))))) (w64 ((w64 (((zK.getD (Int.tmod (w64 ((Int.tmod a2 4)+4)) 4).toNat dd).Y)*((a1.getD x9.toNat dd).X)))+(w64 (((zK.getD (Int.tmod (w64 ((Int.tmod a2 4)+4)) 4).toNat dd).X)*((a1.getD x9.toNat dd).Y))))))))) (stP qF dd (qA.mk (w64 ((w64 (((zK.getD (Int.tmod (w64 ((Int.tmod a2 4)+4)) 4).toNat dd).X)*((a1.getD x9.toNat dd).X)))-(w64 (((zK.getD (Int.tmod (w64 ((Int.tmod a2 4)+4)) 4).toNat dd).Y)*((a1.getD x9.toNat dd).Y))))) (w64 ((w64 (((zK.getD (Int.tmod (w64 ((Int.tmod a2 4)+4)) 4).toNat dd).Y)*((a1.getD x9.toNat dd).X)))+(w64 (((zK.getD (Int.tmod (w64 ((Int.tmod a2 4)+4)) 4).toNat dd).X)*((a1.getD x9.toNat dd).Y)))))) l8 l8.length x9.toNat 0 [ci (w64 ((w64 (((zK.getD (Int.tmod (w64 ((Int.tmod a2 4)+4)) 4).toNat dd).X)*((a1.getD x9.toNat dd).X)))-(w64 (((zK.getD (Int.tmod (w64 ((Int.tmod a2 4)+4)) 4).toNat dd).Y)*((a1.getD x9.toNat dd).Y))))),ci (w64 ((w64 (((zK.getD (Int.tmod (w64 ((Int.tmod a2 4)+4)) 4).toNat dd).Y)*((a1.getD x9.toNat dd).X)))+(w64 (((zK.getD (Int.tmod (w64 ((Int.tmod a2 4)+4)) 4).toNat dd).X)*((a1.getD x9.toNat dd).Y)))))] rfl (qW (zC g12)) rfl)] 3 [7,8] [] [1,2] [(1,ro 0 93 2 l8.length (rf qF (l8.set x9.toNat (qA.mk (w64 ((w64 (((zK.getD (Int.tmod (w64 ((Int.tmod a2 4)+4)) 4).toNat dd).X)*((a1.getD x9.toNat dd).X)))-(w64 (((zK.getD (Int.tmod (w64 ((Int.tmod a2 4)+4)) 4).toNat dd).Y)*((a1.getD x9.toNat dd).Y))))) (w64 ((w64 (((zK.getD (Int.tmod (w64 ((Int.tmod a2 4)+4)) 4).toNat dd).Y)*((a1.getD x9.toNat dd).X)))+(w64 (((zK.getD (Int.tmod (w64 ((Int.tmod a2 4)+4)) 4).toNat dd).X)*((a1.getD x9.toNat dd).Y)))))))))] ?_
   refine q_vv [] 3 [23] [(23,vi (w64 (x9+1)))] ?_
   exact q_hl (qBR a1 a2 (l8.set x9.toNat (qA.mk (w64 ((w64 (((zK.getD (Int.tmod (w64 ((Int.tmod a2 4)+4)) 4).toNat dd).X)*((a1.getD x9.toNat dd).X)))-(w64 (((zK.getD (Int.tmod (w64 ((Int.tmod a2 4)+4)) 4).toNat dd).Y)*((a1.getD x9.toNat dd).Y))))) (w64 ((w64 (((zK.getD (Int.tmod (w64 ((Int.tmod a2 4)+4)) 4).toNat dd).Y)*((a1.getD x9.toNat dd).X)))+(w64 (((zK.getD (Int.tmod (w64 ((Int.tmod a2 4)+4)) 4).toNat dd).X)*((a1.getD x9.toNat dd).Y))))))) l8.length (w64 (x9+1))) (ih (l8.set x9.toNat (qA.mk (w64 ((w64 (((zK.getD (Int.tmod (w64 ((Int.tmod a2 4)+4)) 4).toNat dd).X)*((a1.getD x9.toNat dd).X)))-(w64 (((zK.getD (Int.tmod (w64 ((Int.tmod a2 4)+4)) 4).toNat dd).Y)*((a1.getD x9.toNat dd).Y))))) (w64 ((w64 (((zK.getD (Int.tmod (w64 ((Int.tmod a2 4)+4)) 4).toNat dd).Y)*((a1.getD x9.toNat dd).X)))+(w64 (((zK.getD (Int.tmod (w64 ((Int.tmod a2 4)+4)) 4).toNat dd).X)*((a1.getD x9.toNat dd).Y))))))) l8.length (w64 (x9+1)) _ (QC rfl) hm)
  ·refine q_ex 0 ?_;obtain rfl:=oi hm;exact q_l0
theorem qT5 (a1:List qA) (a2:Int) (r:(List qA)) (hm:qCF a1 a2=some r):CtX Tryz.prog globs 80 0 0 [.one (tl qF dd a1),.one (ci a2)] [] (qMz r) (qCh r):=by
 unfold qCF at hm;refine q_E f80 56 λE=>?_;refine s_vn [] 0 ⟨[(0,vc (tl qF dd a1)),(1,vi a2)],[]⟩ (q_sq ?_);obtain⟨v3,h4,hm⟩:=qC hm;refine s_vv [qc 1 [9] 0 (qOW a1 v3 h4)] 0 [] [(11,vb (!v3))] (q_cq hm (λhm=>?_) (λhm=>?_))
 ·refine s_vn [] 0 ⟨[(4,vc (.emp))],[]⟩ (q_fn [.own 4 0 93 2 (rf qF [])] ⟨[(4,vo 0 0 2 0)],[(0,ro 0 93 2 0 (rf qF []))]⟩ o0 ?_);refine q_fn [.len 0 (([]:List qA).length)] ⟨[(4,vo 0 0 2 (([]:List qA).length))],[(0,ro 0 93 2 (([]:List qA).length) (rf qF []))]⟩ (o1 (And.intro (show 0=([]:List qA).length from rfl) (show 0=([]:List qA).length from rfl))) ?_;obtain rfl:=oi hm;exact q_rt q_rm
 ·refine q_sk ?_;obtain⟨g6,hm⟩:=qJ hm;refine s_vu [qd 1 dN (show(4:Int)≠0 by decide),qd 3 dN (show(4:Int)≠0 by decide),qi 4 g6] 0 [1,11] [(5,vp 0 0)] [] [(0,bx 93 (qF (zK.getD (Int.tmod (w64 ((Int.tmod a2 4)+4)) 4).toNat dd)))] ?_;obtain⟨g7,hm⟩:=qJ hm;refine s_vu [qd 2 (drw 1 0 (rf qF (List.replicate ((a1.length:Int).toNat) (qA.mk 0 0)))) (mkP qF dd (qA.mk 0 0) (a1.length:Int) 16 [ci 0,ci 0] (VQ g7) rfl)] 1 [] [(6,vo 1 0 2 ((a1.length:Int).toNat))] [] [(1,ro 0 93 2 ((a1.length:Int).toNat) (rf qF (List.replicate ((a1.length:Int).toNat) (qA.mk 0 0))))] (q_sq ?_)
  refine s_vv [] 2 [0] [(21,vc (tl qF dd a1)),(22,vi (a1.length:Int)),(23,vi 0)] ?_;obtain⟨o14,h15,hm⟩:=qC hm;refine zG (nd f80 500) 0 (by kernel_rfl) FUEL qHV o14 (q_hl (qBR a1 a2 (List.replicate ((a1.length:Int).toNat) (qA.mk 0 0)) ((a1.length:Int).toNat) 0) (qO2 E a1 a2 FUEL (List.replicate ((a1.length:Int).toNat) (qA.mk 0 0)) ((a1.length:Int).toNat) 0 o14 GU h15)) (s_vv [] 2 [6] [(4,vo 1 0 2 o14.length)] ?_);obtain rfl:=oi hm;exact q_sw 1 0 (q_rt q_rm)
def qWv (r:Ring):V:=va [ci r.Z,.own 0 0 3 r.Read.length]
def qWg (r:Ring):List (Nat×(Nat×O)):=[(0,ro 0 95 3 r.Read.length (rf qV r.Read))]
def qFl (a2:Int) (v3:Ring):St:=
 ⟨[(1,vi a2),(4,vp 1 0),(5,vp 3 0)],[(1,bx 71 [ci 0,.emp]),(2,ro 0 95 3 v3.Read.length (rf qV v3.Read)),(3,bx 71 [ci v3.Z,.own 2 0 3 v3.Read.length])]⟩
def qBx (a1:Ring) (a2:Int) (v3:Ring) (l9:List qA) (l9n:Nat) (x10:Int):St:=
 (qFl a2 v3).up [] [(6,vo 4 0 2 l9n),(22,vc (tl qV dd a1.Read)),(23,vi (a1.Read.length:Int)),(24,vi x10)] [] [(4,ro 0 93 2 l9n (rf qF l9))]
def qHN (a2:Int) (v3:Ring) (l14:List qA):St:=
 (qFl a2 v3).up [] [(6,vo 4 0 2 l14.length)] [] [(4,ro 0 93 2 l14.length (rf qF l14))]
def qBo (v3:Ring) (v17:(List qA)) (x19:Int) (l20:List qO) (l20n:Nat):St:=
 ⟨[(4,vp 1 0),(5,vp 3 0),(37,vo 5 0 2 v17.length),(38,vi (v17.length:Int)),(39,vi x19)],[(1,bx 71 [ci 0,.emp]),(2,ro 0 95 3 l20n (rf qV l20)),(3,bx 71 [ci v3.Z,.own 2 0 3 l20n]),(5,ro 0 93 2 v17.length (rf qF v17))]⟩
def qHZ (v3:Ring) (l24:List qO):St:=
 ⟨[(4,vp 1 0),(5,vp 3 0)],[(1,bx 71 [ci 0,.emp]),(2,ro 0 95 3 l24.length (rf qV l24)),(3,bx 71 [ci v3.Z,.own 2 0 3 l24.length])]⟩
theorem qQj (E:Env 0) (a1:Ring) (a2:Int) (v3:Ring):∀(n:Nat) (l9:List qA) (l9n:Nat) (x10:Int) (res:(List qA)),l9.length=l9n->VR a1 n l9 x10=some res->HL (kx E 52 0) (nd f40 500) (zL 0 (λo=>qHN a2 v3 o) res) n (qBx a1 a2 v3 l9 l9n x10):=by
 intro n
 induction n with
 |zero=>
  intro l9 l9n x10 res hl0 hm;cases hm
 |succ n ih=>
  intro l9 l9n x10 res hl0 hm;subst hl0;refine qS (s_va 5 [(25,vb (decide (x10<(a1.Read.length:Int))))] ?_);refine q_sq (q_cq hm (λhm=>?_) (λhm=>?_))
  ·refine q_sk (q_sq ?_);refine q_bk 1 ?_;obtain⟨g12,hm⟩:=qJ hm;refine s_vu [qi 1 g12] 5 [25] [(7,vi x10),(8,vp 5 0)] [] [(5,bx 95 (qV (a1.Read.getD x10.toNat dd)))] ?_;obtain⟨g13,hm⟩:=qJ hm
   refine q_vu [qi 4 g13,qd 5 (drw 0 0 (rf qF (l9.set x10.toNat ((a1.Read.getD x10.toNat dd).P)))) (stP qF dd ((a1.Read.getD x10.toNat dd).P) l9 l9.length x10.toNat 0 [ci (((a1.Read.getD x10.toNat dd).P).X),ci (((a1.Read.getD x10.toNat dd).P).Y)] rfl (qW (zC g13)) rfl)] 6 [7,8] [] [4,5] [(4,ro 0 93 2 l9.length (rf qF (l9.set x10.toNat ((a1.Read.getD x10.toNat dd).P))))] (q_vv [] 6 [24] [(24,vi (w64 (x10+1)))] ?_)
   exact q_hl (qBx a1 a2 v3 (l9.set x10.toNat ((a1.Read.getD x10.toNat dd).P)) l9.length (w64 (x10+1))) (ih (l9.set x10.toNat ((a1.Read.getD x10.toNat dd).P)) l9.length (w64 (x10+1)) _ (QC rfl) hm)
  ·refine q_ex 0 ?_;obtain rfl:=oi hm;exact q_l0
theorem qOT (E:Env 0) (v3:Ring) (v17:(List qA)):∀(n:Nat) (x19:Int) (l20:List qO) (l20n:Nat) (res:(List qO)),l20.length=l20n->GQ v17 n x19 l20=some res->HL (kx E 52 0) (nd f40 1012) (zL 2 (λo=>qHZ v3 o) res) n (qBo v3 v17 x19 l20 l20n):=by
 intro n
 induction n with
 |zero=>
  intro x19 l20 l20n res hl0 hm;cases hm
 |succ n ih=>
  intro x19 l20 l20n res hl0 hm;subst hl0;refine qS (s_va 6 [(40,vb (decide (x19<(v17.length:Int))))] ?_);refine q_sq (q_cq hm (λhm=>?_) (λhm=>?_))
  ·refine q_sk (q_sq ?_);refine q_bk 3 ?_;obtain⟨g22,hm⟩:=qJ hm;refine s_vu [qi 1 g22,qd 2 dN (qW (zC g22))] 6 [40] [(9,vi x19),(10,vp 6 0)] [] [(6,bx 93 (qF (v17.getD x19.toNat dd)))] ?_;obtain⟨g23,hm⟩:=qJ hm
   refine q_vu [qi 4 g23,qd 6 (drw 0 0 (rf qV (l20.set x19.toNat (qO.mk (v17.getD x19.toNat dd) ((l20.getD x19.toNat dd).Ok))))) (stP qV dd (qO.mk (v17.getD x19.toNat dd) ((l20.getD x19.toNat dd).Ok)) l20 l20.length x19.toNat 0 [ci ((v17.getD x19.toNat dd).X),ci ((v17.getD x19.toNat dd).Y)] rfl (qW (zC g23)) rfl)] 7 [9,10] [] [2,6] [(2,ro 0 95 3 l20.length (rf qV (l20.set x19.toNat (qO.mk (v17.getD x19.toNat dd) ((l20.getD x19.toNat dd).Ok)))))] (q_vv [] 7 [39] [(39,vi (w64 (x19+1)))] ?_)
   exact q_hl (qBo v3 v17 (w64 (x19+1)) (l20.set x19.toNat (qO.mk (v17.getD x19.toNat dd) ((l20.getD x19.toNat dd).Ok))) l20.length) (ih (w64 (x19+1)) (l20.set x19.toNat (qO.mk (v17.getD x19.toNat dd) ((l20.getD x19.toNat dd).Ok))) l20.length _ (QC rfl) hm)
  ·refine q_ex 2 ?_;obtain rfl:=oi hm;exact q_l0
theorem qVI (a1:Ring) (a2:Int) (r:Ring) (hm:qDf a1 a2=some r):CtX Tryz.prog globs 40 0 0 [.agg (qX a1),.one (ci a2)] [] (qWv r) (qWg r):=by
 unfold qDf at hm;refine q_E f40 52 λE=>?_;refine s_vn [] 0 ⟨[(1,vi a2),(2,vp 0 0),(4,vp 1 0)],[(0,bx 71 (qX a1)),(1,bx 71 [ci 0,.emp])]⟩ ?_;obtain⟨v3,h4,hm⟩:=qC hm;refine s_vu [qc 1 [11] 2 (qJs a1 v3 h4)] 2 [] [(5,vp 3 0)] [] [(2,ro 0 95 3 v3.Read.length (rf qV v3.Read)),(3,bx 71 [ci v3.Z,.own 2 0 3 v3.Read.length])] (q_sq ?_);obtain⟨v5,h6,hm⟩:=qC hm;refine s_vv [qc 1 [13] 4 (IF a1 v5 h6)] 4 [] [(15,vb (v5 !=0))] (q_cq hm (λhm=>?_) (λhm=>?_))
 ·refine s_vu [] 4 [1,2,5,15] [] [0,1,3] [(1,bx 71 [ci v3.Z,.own 2 0 3 v3.Read.length])] ?_;obtain rfl:=oi hm;exact q_sw 2 0 (q_rt q_rm)
 ·refine q_sk ?_;obtain⟨g8,hm⟩:=qJ hm;refine s_vu [qd 3 (drw 4 0 (rf qF (List.replicate ((a1.Read.length:Int).toNat) (qA.mk 0 0)))) (mkP qF dd (qA.mk 0 0) (a1.Read.length:Int) 16 [ci 0,ci 0] (VQ g8) rfl)] 4 [15] [(6,vo 4 0 2 ((a1.Read.length:Int).toNat))] [] [(4,ro 0 93 2 ((a1.Read.length:Int).toNat) (rf qF (List.replicate ((a1.Read.length:Int).toNat) (qA.mk 0 0))))] (q_sq ?_);refine s_vu [] 5 [2] [(22,vc (tl qV dd a1.Read)),(23,vi (a1.Read.length:Int)),(24,vi 0)] [0] [] ?_;obtain⟨o15,h16,hm⟩:=qC hm
  refine zG (nd f40 500) 0 (by kernel_rfl) FUEL (λo=>qHN a2 v3 o) o15 (q_hl (qBx a1 a2 v3 (List.replicate ((a1.Read.length:Int).toNat) (qA.mk 0 0)) ((a1.Read.length:Int).toNat) 0) (qQj E a1 a2 v3 FUEL (List.replicate ((a1.Read.length:Int).toNat) (qA.mk 0 0)) ((a1.Read.length:Int).toNat) 0 o15 GU h16)) (q_sq ?_);obtain⟨v17,h18,hm⟩:=qC hm
  refine s_vu [qd 2 (dex (cen [] [] 5 0 (qMz v17) (qCh v17) [35,36] [4])) (wK (K:=(kx E 52 0)) (b:=false) ⟨[(35,vo 4 0 2 o15.length),(36,vi a2)],[(4,ro 0 93 2 o15.length (rf qF o15))]⟩ (opAt (rg f40 252) 2) [] [] 5 (o1 (ke o15.length)) rfl (qT5 o15 a2 v17 h18) (.inr ⟨(by kernel_rfl),qWm v17⟩) (by kernel_rfl))] 5 [1,6] [(37,vo 5 0 2 v17.length),(38,vi (v17.length:Int)),(39,vi 0)] [4] [(5,ro 0 93 2 v17.length (rf qF v17))] ?_;obtain⟨o25,h26,hm⟩:=qC hm
  refine zG (nd f40 1012) 2 (by kernel_rfl) FUEL (λo=>qHZ v3 o) o25 (q_hl (qBo v3 v17 0 v3.Read v3.Read.length) (qOT E v3 v17 FUEL 0 v3.Read v3.Read.length o25 rfl h26)) (s_vu [] 6 [5] [] [1,3] [(1,bx 71 [ci v3.Z,.own 2 0 3 o25.length])] ?_);obtain rfl:=oi hm;exact q_sw 2 0 (q_rt q_rm)
open Go.Proofs Go.Proofs.Tryz
def qOF (r:Bool):V:=vb r
def qPc (r:Bool):List (Nat×(Nat×O)):=[]
def qKT (x5:Bool):St:=
 ⟨[(6,vb x5)],[]⟩
theorem YG (a1:Span) (a2:Int) (a3:Int) (r:Bool) (hm:KF a1 a2 a3=some r):CtX Tryz.prog globs 197 0 0 [.agg (qK a1),.one (ci a2),.one (ci a3)] [] (qOF r) (qPc r):=by
 unfold KF at hm;refine q_E f197 23 λE=>?_;refine s_vn [] 0 ⟨[(1,vi a2),(2,vi a3),(3,vp 0 0)],[(0,bx 53 (qK a1))]⟩ (q_jn (qKT) (λp=>BN p=some r) ?_ ?_)
 ·rintro x5 hm;obtain rfl:=oi hm;exact q_rt q_rm
 ·rcases bif_c hm with⟨b4,hm⟩|⟨b4,hm⟩
  ·exact q_vn [qf 7 b4] 1 ⟨[(6,vb (decide ((imax a1.A a1.B)<=a3)))],[]⟩ (q_J (decide ((imax a1.A a1.B)<=a3)) hm)
  ·exact q_vn [qf 7 b4] 1 ⟨[(6,vb false)],[]⟩ (q_J (false) hm)
def qMW (r:Bool):V:=vb r
def qM7 (r:Bool):List (Nat×(Nat×O)):=[]
theorem wP (a1:Span) (r:Bool) (hm:ZB a1=some r):CtX Tryz.prog globs 196 0 0 [.agg (qK a1)] [] (qMW r) (qM7 r):=by
 unfold ZB at hm;refine q_E f196 8 λE=>?_;refine s_vn [] 0 ⟨[(1,vp 0 0)],[(0,bx 53 (qK a1))]⟩ (s_vn [] 1 ⟨[(2,vb (decide (a1.A≥a1.B)))],[]⟩ ?_);obtain rfl:=oi hm;exact q_rt q_rm
def qQF (r:Int):V:=vi r
def qRE (r:Int):List (Nat×(Nat×O)):=[]
def qMi (x23:Bool):St:=
 ⟨[(29,vb x23)],[]⟩
def qL5 (a1:qG) (x13:Bool):St:=
 ⟨[(3,vp 1 0),(15,vb x13)],[(1,bx 85 (ZJ a1.Box))]⟩
def qMe (a1:qG) (x3:Bool):St:=
 ⟨[(3,vp 1 0),(6,vb x3)],[(1,bx 85 (ZJ a1.Box))]⟩
theorem qP9 (a1:qG) (r:Int) (hm:MW a1=some r):CtX Tryz.prog globs 142 0 0 [.agg (qM a1)] [] (qQF r) (qRE r):=by
 unfold MW at hm;refine q_E f142 46 λE=>?_;refine s_vn [] 0 ⟨[(1,vp 0 0)],[(0,bx 87 (qM a1))]⟩ (s_vu [] 1 [] [(3,vp 1 0)] [] [(1,bx 85 (ZJ a1.Box))] ?_);refine q_sq (q_bk 0 ?_);refine q_jn (qMe a1) (λp=>FR a1 p=some r) ?_ ?_
 ·rintro x3 hm;refine q_cq hm (λhm=>?_) (λhm=>?_)
  ·refine s_vn [] 2 ⟨[(2,vi 10)],[]⟩ ?_;obtain rfl:=oi hm;exact q_rt q_rm
  ·refine q_jn (qL5 a1) (λp=>UU a1 p=some r) ?_ ?_
   ·rintro x13 hm;refine q_cq hm (λhm=>?_) (λhm=>?_)
    ·refine s_vn [] 2 ⟨[(2,vi 19)],[]⟩ ?_;obtain rfl:=oi hm;exact q_rt q_rm
    ·refine q_jn (qMi) (λp=>UL p=some r) ?_ ?_
     ·rintro x23 hm;refine q_cq hm (λhm=>?_) (λhm=>?_)
      ·refine s_vn [] 2 ⟨[(2,vi 9)],[]⟩ ?_;obtain rfl:=oi hm;exact q_rt q_rm
      ·refine q_sk (s_vn [] 2 ⟨[(2,vi 0)],[]⟩ ?_);obtain rfl:=oi hm;exact q_rt q_rm
     ·obtain⟨v15,h16,hm⟩:=qC hm;rcases bif_c hm with⟨b17,hm⟩|⟨b17,hm⟩
      ·exact q_vn [qk 2 [31] 2 ⟨[(31,va (qK a1.Box.X))],[]⟩ (YG a1.Box.X (-600) 600 v15 h16),qf 4 b17] 2 ⟨[(29,vb true)],[]⟩ (q_J (true) hm)
      ·obtain⟨v18,h19,hm⟩:=qC hm;rcases bif_c hm with⟨b20,hm⟩|⟨b20,hm⟩
       ·exact q_vn [qk 2 [31] 2 ⟨[(31,va (qK a1.Box.X))],[]⟩ (YG a1.Box.X (-600) 600 v15 h16),qf 4 b17,qk 7 [34,36] 2 ⟨[(34,vb false),(36,va (qK a1.Box.Y))],[]⟩ (YG a1.Box.Y (-600) 600 v18 h19),qf 10 b20] 2 ⟨[(29,vb true)],[]⟩ (q_J (true) hm)
       ·obtain⟨v21,h22,hm⟩:=qC hm;exact q_vn [qk 2 [31] 2 ⟨[(31,va (qK a1.Box.X))],[]⟩ (YG a1.Box.X (-600) 600 v15 h16),qf 4 b17,qk 7 [34,36] 2 ⟨[(34,vb false),(36,va (qK a1.Box.Y))],[]⟩ (YG a1.Box.Y (-600) 600 v18 h19),qf 10 b20,qk 13 [40,42] 2 ⟨[(40,vb false),(42,va (qK a1.Box.Z))],[]⟩ (YG a1.Box.Z 0 20000 v21 h22)] 2 ⟨[(29,vb (!v21))],[]⟩ (q_J (!v21) hm)
   ·obtain⟨v5,h6,hm⟩:=qC hm;rcases bif_c hm with⟨b7,hm⟩|⟨b7,hm⟩
    ·exact q_vv [qc 2 [17] 2 (wP a1.Box.X v5 h6),qf 3 b7] 2 [6] [(15,vb true)] (q_J (true) hm)
    ·obtain⟨v8,h9,hm⟩:=qC hm;rcases bif_c hm with⟨b10,hm⟩|⟨b10,hm⟩
     ·exact q_vv [qc 2 [17] 2 (wP a1.Box.X v5 h6),qf 3 b7,qk 6 [19,21] 2 ⟨[(19,vb false),(21,va (qK a1.Box.Y))],[]⟩ (wP a1.Box.Y v8 h9),qf 8 b10] 2 [6] [(15,vb true)] (q_J (true) hm)
     ·obtain⟨v11,h12,hm⟩:=qC hm;exact q_vv [qc 2 [17] 2 (wP a1.Box.X v5 h6),qf 3 b7,qk 6 [19,21] 2 ⟨[(19,vb false),(21,va (qK a1.Box.Y))],[]⟩ (wP a1.Box.Y v8 h9),qf 8 b10,qk 11 [24,26] 2 ⟨[(24,vb false),(26,va (qK a1.Box.Z))],[]⟩ (wP a1.Box.Z v11 h12)] 2 [6] [(15,vb v11)] (q_J (v11) hm)
 ·rcases bif_c hm with⟨b2,hm⟩|⟨b2,hm⟩
  ·exact q_vu [qf 3 b2] 2 [1] [(6,vb true)] [0] [] (q_J (true) hm)
  ·exact q_vu [qf 3 b2] 2 [1] [(6,vb (decide (a1.Kind>6)))] [0] [] (q_J (decide (a1.Kind>6)) hm)
open Go.Proofs Go.Proofs.Tryz
def qBY (r:Int):V:=vi r
def qBg (r:Int):List (Nat×(Nat×O)):=[]
def EC (a1:List qG) (x3:Int):St:=
 ⟨[(9,vc (tl qM dd a1)),(10,vi (a1.length:Int)),(11,vi x3)],[]⟩
def qDS :St:=
 ⟨[],[]⟩
theorem qLb (E:Env 0) (a1:List qG):∀(n:Nat) (x3:Int) (res:Int⊕Unit),WO a1 n x3=some res->HL (kx E 21 0) (nd f76 116) (wL 0 (λo=>qDS) (λv st=>RetQ Tryz.prog f76 (qBY v) (qBg v) .ret st) res) n (EC a1 x3):=by
 intro n
 induction n with
 |zero=>
  intro x3 res hm;cases hm
 |succ n ih=>
  intro x3 res hm;refine qS (s_va 0 [(12,vb (decide (x3<(a1.length:Int))))] ?_);refine q_sq (q_cq hm (λhm=>?_) (λhm=>?_))
  ·refine q_sk (q_sq ?_);refine q_bk 1 ?_;obtain⟨g5,hm⟩:=qJ hm;refine s_vu [qi 0 g5] 0 [12] [(4,vp 0 0)] [] [(0,bx 87 (qM (a1.getD x3.toNat dd)))] ?_;obtain⟨v6,h7,hm⟩:=qC hm;refine s_vu [qc 1 [15] 1 (qP9 (a1.getD x3.toNat dd) v6 h7)] 1 [4] [(5,vi v6)] [0] [] (s_va 1 [(18,vb (v6 !=0))] ?_);refine q_cq hm (λhm=>?_) (λhm=>?_)
   ·refine s_vn [] 1 ⟨[(2,vi v6)],[]⟩ ?_;obtain rfl:=oi hm;refine q_rt (zJ v6 ?_);exact q_rm
   ·refine q_sk (q_vv [] 1 [5,11,18] [(11,vi (w64 (x3+1)))] ?_);exact q_hl (EC a1 (w64 (x3+1))) (ih (w64 (x3+1)) _ hm)
  ·refine q_ex 0 ?_;obtain rfl:=oi hm;exact q_l1 ()
theorem WY (a1:List qG) (r:Int) (hm:JD a1=some r):CtX Tryz.prog globs 76 0 0 [.one (tl qM dd a1)] [] (qBY r) (qBg r):=by
 unfold JD at hm;refine q_E f76 21 λE=>?_;refine s_vn [] 0 ⟨[(0,vc (tl qM dd a1))],[]⟩ (q_sq ?_);refine s_va 0 [(8,vb (decide ((a1.length:Int)>64)))] (q_cq hm (λhm=>?_) (λhm=>?_))
 ·refine s_vn [] 0 ⟨[(2,vi 4)],[]⟩ ?_;obtain rfl:=oi hm;exact q_rt q_rm
 ·refine q_sk (q_sq ?_);refine s_vn [] 0 ⟨[(9,vc (tl qM dd a1)),(10,vi (a1.length:Int)),(11,vi 0)],[]⟩ ?_;obtain⟨u11,h10,hm⟩:=qC hm;refine zO (nd f76 116) 0 (by kernel_rfl) FUEL (λo=>qDS) (λv st=>RetQ Tryz.prog f76 (qBY v) (qBg v) .ret st) u11 (q_hl (EC a1 0) (qLb E a1 FUEL 0 u11 h10)) ?_ ?_
  ·rintro v12 rfl st hr;obtain rfl:=oi hm;exact hr
  ·rintro o9 rfl;replace hm:_=some r:=hm;refine s_vn [] 0 ⟨[(2,vi 0)],[]⟩ ?_;obtain rfl:=oi hm;exact q_rt q_rm
def LR (r:Int):V:=vi r
def LS (r:Int):List (Nat×(Nat×O)):=[]
def qPS (a1:Scan) (x4:Int) (x16:Bool):St:=
 ⟨[(1,vp 0 0),(4,vp 1 0),(19,vc (tl qX dd a1.Rings)),(20,vi (a1.Rings.length:Int)),(21,vi x4),(53,vb x16)],[(0,bx 25 (wE a1)),(1,bx 71 (qX (a1.Rings.getD x4.toNat dd)))]⟩
def qAU (a1:Scan) (x4:Int):St:=
 ⟨[(1,vp 0 0),(19,vc (tl qX dd a1.Rings)),(20,vi (a1.Rings.length:Int)),(21,vi x4)],[(0,bx 25 (wE a1))]⟩
def qGA (a1:Scan):St:=
 ⟨[(1,vp 0 0)],[(0,bx 25 (wE a1))]⟩
def CZ (a1:Scan) (x28:Int):St:=
 ⟨[(7,vi ((a1.Rings.getD (w64 ((a1.Rings.length:Int)-1)).toNat dd).Z)),(81,vc (tl qM dd a1.Defects)),(82,vi (a1.Defects.length:Int)),(83,vi x28)],[]⟩
def qGu :St:=
 ⟨[],[]⟩
theorem qM6 (E:Env 0) (a1:Scan):∀(n:Nat) (x4:Int) (res:Int⊕Unit),jQ a1 n x4=some res->HL (kx E 94 0) (nd f37 244) (wL 0 (λo=>qGA a1) (λv st=>RetQ Tryz.prog f37 (LR v) (LS v) .ret st) res) n (qAU a1 x4):=by
 intro n
 induction n with
 |zero=>
  intro x4 res hm;cases hm
 |succ n ih=>
  intro x4 res hm;refine qS (s_va 1 [(22,vb (decide (x4<(a1.Rings.length:Int))))] ?_);refine q_sq (q_cq hm (λhm=>?_) (λhm=>?_))
  ·refine q_sk (q_sq ?_);refine q_bk 1 ?_;obtain⟨g6,hm⟩:=qJ hm;refine s_vu [qi 1 g6] 1 [22] [(3,vi x4),(4,vp 1 0)] [] [(1,bx 71 (qX (a1.Rings.getD x4.toNat dd)))] (q_sq ?_);obtain⟨v7,h8,hm⟩:=qC hm;refine s_vv [qc 1 [26] 2 (IF (a1.Rings.getD x4.toNat dd) v7 h8)] 2 [] [(5,vi v7)] (s_va 2 [(29,vb (v7 !=0))] ?_);refine q_cq hm (λhm=>?_) (λhm=>?_)
   ·refine s_vn [] 2 ⟨[(2,vi v7)],[]⟩ ?_;obtain rfl:=oi hm;refine q_rt (zJ v7 ?_);exact q_rm
   ·refine q_sk (q_sq ?_);refine q_jn (qPS a1 x4) (λp=>KM a1 x4 (jQ a1 n) p=some res) ?_ ?_
    ·rintro x16 hm;refine q_cq hm (λhm=>?_) (λhm=>?_)
     ·refine s_vn [] 2 ⟨[(2,vi 11)],[]⟩ ?_;obtain rfl:=oi hm;refine q_rt (zJ 11 ?_);exact q_rm
     ·refine q_sk ?_;obtain⟨g18,hm⟩:=qJ hm;refine s_du [qi 5 g18] [0,1,3,0,8,24,56,120,248,511] 2 [4,53] [(63,vb (((((a1.Rings.getD x4.toNat dd).Read).length:Nat):Int) !=((((a1.Rings.getD (0:Int).toNat dd).Read).length:Nat):Int)))] [1] [] (q_cq hm (λhm=>?_) (λhm=>?_))
      ·refine s_vn [] 2 ⟨[(2,vi 19)],[]⟩ ?_;obtain rfl:=oi hm;refine q_rt (zJ 19 ?_);exact q_rm
      ·refine q_sk (q_vv [] 2 [21,63] [(21,vi (w64 (x4+1)))] ?_);exact q_hl (qAU a1 (w64 (x4+1))) (ih (w64 (x4+1)) _ hm)
    ·rcases bif_c hm with⟨b10,hm⟩|⟨b10,hm⟩
     ·rcases bif_c hm with⟨b11,hm⟩|⟨b11,hm⟩
      ·exact q_du [qf 2 b10,qf 7 b11] [0,1,3,7,15,31,63,127,255,511,1023,2047,4095,2047,10239,2047,34815,124927,255999,518143,1048575,2097151,4194303] 2 [3,5,29] [(53,vb true)] [] [] (q_J (true) hm)
      ·rcases bif_c hm with⟨b12,hm⟩|⟨b12,hm⟩
       ·obtain⟨g13,hm⟩:=qJ hm;exact q_du [qf 2 b10,qf 7 b11,qf 10 b12,qi 17 g13] [0,1,3,7,15,31,63,127,255,511,1023,2047,4095,2047,10239,2047,34815,124927,255999,518143,1048575,2097151,4194303] 2 [3,5,29] [(53,vb (decide (((a1.Rings.getD x4.toNat dd).Z)<=((a1.Rings.getD (w64 (x4-1)).toNat dd).Z))))] [] [] (q_J (decide (((a1.Rings.getD x4.toNat dd).Z)<=((a1.Rings.getD (w64 (x4-1)).toNat dd).Z))) hm)
       ·exact q_du [qf 2 b10,qf 7 b11,qf 10 b12] [0,1,3,7,15,31,63,127,255,511,1023,2047,4095,2047,10239,2047,34815,124927,255999,518143,1048575,2097151,4194303] 2 [3,5,29] [(53,vb false)] [] [] (q_J (false) hm)
     ·rcases bif_c hm with⟨b14,hm⟩|⟨b14,hm⟩
      ·obtain⟨g15,hm⟩:=qJ hm;exact q_du [qf 2 b10,qf 10 b14,qi 17 g15] [0,1,3,7,15,31,63,127,255,511,1023,2047,4095,2047,10239,2047,34815,124927,255999,518143,1048575,2097151,4194303] 2 [3,5,29] [(53,vb (decide (((a1.Rings.getD x4.toNat dd).Z)<=((a1.Rings.getD (w64 (x4-1)).toNat dd).Z))))] [] [] (q_J (decide (((a1.Rings.getD x4.toNat dd).Z)<=((a1.Rings.getD (w64 (x4-1)).toNat dd).Z))) hm)
      ·exact q_du [qf 2 b10,qf 10 b14] [0,1,3,7,15,31,63,127,255,511,1023,2047,4095,2047,10239,2047,34815,124927,255999,518143,1048575,2097151,4194303] 2 [3,5,29] [(53,vb false)] [] [] (q_J (false) hm)
  ·refine q_ex 0 ?_;obtain rfl:=oi hm;exact q_l1 ()
theorem qNj (E:Env 0) (a1:Scan):∀(n:Nat) (x28:Int) (res:Int⊕Unit),TM a1 n x28=some res->HL (kx E 94 0) (nd f37 2036) (wL 2 (λo=>qGu) (λv st=>RetQ Tryz.prog f37 (LR v) (LS v) .ret st) res) n (CZ a1 x28):=by
 intro n
 induction n with
 |zero=>
  intro x28 res hm;cases hm
 |succ n ih=>
  intro x28 res hm;refine qS (s_va 1 [(84,vb (decide (x28<(a1.Defects.length:Int))))] ?_);refine q_sq (q_cq hm (λhm=>?_) (λhm=>?_))
  ·refine q_sk (q_sq ?_);refine q_bk 3 ?_;obtain⟨g30,hm⟩:=qJ hm;refine s_vu [qi 0 g30] 1 [84] [(9,vp 1 0)] [] [(1,bx 87 (qM (a1.Defects.getD x28.toNat dd)))] (s_vu [] 2 [9] [(92,vb (decide (((((a1.Defects.getD x28.toNat dd).Box).Z).B)>((a1.Rings.getD (w64 ((a1.Rings.length:Int)-1)).toNat dd).Z))))] [1] [] ?_);refine q_cq hm (λhm=>?_) (λhm=>?_)
   ·refine s_vn [] 2 ⟨[(2,vi 9)],[]⟩ ?_;obtain rfl:=oi hm;refine q_rt (zJ 9 ?_);exact q_rm
   ·refine q_sk (q_vv [] 2 [83,92] [(83,vi (w64 (x28+1)))] ?_);exact q_hl (CZ a1 (w64 (x28+1))) (ih (w64 (x28+1)) _ hm)
  ·refine q_ex 2 ?_;obtain rfl:=oi hm;exact q_l1 ()
theorem qJu (a1:Scan) (r:Int) (hm:SI a1=some r):CtX Tryz.prog globs 37 0 0 [.agg (wE a1)] [] (LR r) (LS r):=by
 unfold SI at hm;refine q_E f37 94 λE=>?_;refine s_vn [] 0 ⟨[(1,vp 0 0)],[(0,bx 25 (wE a1))]⟩ (q_sq ?_);refine s_va 1 [(13,vb (decide ((a1.Rings.length:Int)<2)))] (q_cq hm (λhm=>?_) (λhm=>?_))
 ·refine s_vn [] 1 ⟨[(2,vi 3)],[]⟩ ?_;obtain rfl:=oi hm;exact q_rt q_rm
 ·refine q_sk (q_sq ?_);refine s_vv [] 1 [13] [(17,vb (decide ((a1.Rings.length:Int)>24)))] (q_cq hm (λhm=>?_) (λhm=>?_))
  ·refine s_vn [] 1 ⟨[(2,vi 4)],[]⟩ ?_;obtain rfl:=oi hm;exact q_rt q_rm
  ·refine q_sk (q_sq ?_);refine s_vv [] 1 [17] [(19,vc (tl qX dd a1.Rings)),(20,vi (a1.Rings.length:Int)),(21,vi 0)] ?_;obtain⟨u22,h21,hm⟩:=qC hm;refine zO (nd f37 244) 0 (by kernel_rfl) FUEL (λo=>qGA a1) (λv st=>RetQ Tryz.prog f37 (LR v) (LS v) .ret st) u22 (q_hl (qAU a1 0) (qM6 E a1 FUEL 0 u22 h21)) ?_ ?_
   ·rintro v23 rfl st hr;obtain rfl:=oi hm;exact hr
   ·rintro o20 rfl;replace hm:_=some r:=hm;refine q_sq ?_;obtain⟨v24,h25,hm⟩:=qC hm;refine s_vv [qc 2 [66] 1 (WY a1.Defects v24 h25)] 1 [] [(6,vi v24)] (s_va 1 [(69,vb (v24 !=0))] ?_);refine q_cq hm (λhm=>?_) (λhm=>?_)
    ·refine s_vn [] 1 ⟨[(2,vi v24)],[]⟩ ?_;obtain rfl:=oi hm;exact q_rt q_rm
    ·refine q_sk ?_;obtain⟨g27,hm⟩:=qJ hm;refine s_vv [qi 6 g27] 1 [6,69] [(7,vi ((a1.Rings.getD (w64 ((a1.Rings.length:Int)-1)).toNat dd).Z))] (q_sq ?_);refine s_vu [] 1 [1] [(81,vc (tl qM dd a1.Defects)),(82,vi (a1.Defects.length:Int)),(83,vi 0)] [0] [] ?_;obtain⟨u34,h33,hm⟩:=qC hm;refine zO (nd f37 2036) 2 (by kernel_rfl) FUEL (λo=>qGu) (λv st=>RetQ Tryz.prog f37 (LR v) (LS v) .ret st) u34 (q_hl (CZ a1 0) (qNj E a1 FUEL 0 u34 h33)) ?_ ?_
     ·rintro v35 rfl st hr;obtain rfl:=oi hm;exact hr
     ·rintro o32 rfl;replace hm:_=some r:=hm;refine s_vn [] 1 ⟨[(2,vi 0)],[]⟩ ?_;obtain rfl:=oi hm;exact q_rt q_rm
end Saw
end Go.SL

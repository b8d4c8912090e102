import Derived.Test.YtigmogcdifllhaaGreatDoorEBase
import Derived.Test.YtigmogcdifllhaaGreatDoorEFa12
set_option linter.unusedVariables false
set_option linter.unusedSimpArgs false
namespace Go.SL
namespace Saw
open Go.Proofs Go.Proofs.Tryz
set_option maxHeartbeats 4000000
set_option maxRecDepth 100000
def qWN (r:qP×Int):V:= .tup [.agg [ci r.1.Quarters,ci r.1.Pattern.Frame.X.A,ci r.1.Pattern.Frame.X.B,ci r.1.Pattern.Frame.Y.A,ci r.1.Pattern.Frame.Y.B,tl qN dd r.1.Pattern.Nodes,ci r.1.Value],.one (ci r.2)]
def qXm (r:qP×Int):List (Nat×(Nat×O)):=[]
def qEd (v7:(List qP)×Int) (x12:Int):St:=
 ⟨[(12,vp 3 0),(16,vp 5 0),(37,vc (.sub 4 0 7 ((1:Int).toNat) (v7.1.length-(1:Int).toNat))),(38,vi (((v7.1.length-(1:Int).toNat):Nat):Int)),(39,vi x12)],[(3,bx 60 [ci 0,ci 0,ci 0,ci 0,ci 0,.emp,ci 0]),(4,ro 0 60 7 v7.1.length (rf zR v7.1))]⟩
def qHI (v7:(List qP)×Int) (x12:Int) (x18:Int) (x19:Int) (x20:Int) (x21:Int) (x22:Int) (l23:List Node) (x24:Int):St:=
 (qEd v7 x12).up [] [] [] [(5,bx 60 [ci x18,ci x19,ci x20,ci x21,ci x22,tl qN dd l23,ci x24])]
def CT (v7:(List qP)×Int) (x12:Int) (x13:qP):St:=
 (qEd v7 x12).up [] [] [] [(5,bx 60 (zR x13))]
def qGO (x25:Int) (x26:Int) (x27:Int) (x28:Int) (x29:Int) (l30:List Node) (x31:Int):St:=
 ⟨[(12,vp 3 0),(16,vp 5 0)],[(3,bx 60 [ci 0,ci 0,ci 0,ci 0,ci 0,.emp,ci 0]),(5,bx 60 [ci x25,ci x26,ci x27,ci x28,ci x29,tl qN dd l30,ci x31])]⟩
theorem qOV (E:Env 0) (v7:(List qP)×Int):∀(n:Nat) (x12:Int) (x13:qP) (res:Int×Int×Int×Int×Int×(List Node)×Int),GY v7 n x12 x13=some res->HL (kx E 51 0) (nd f20 500) (zF 0 (λo=>qGO o.1 o.2.1 o.2.2.1 o.2.2.2.1 o.2.2.2.2.1 o.2.2.2.2.2.1 o.2.2.2.2.2.2) res) n (CT v7 x12 x13):=by
 intro n
 induction n with
 |zero=>
  intro x12 x13 res hm;cases hm
 |succ n ih=>
  intro x12 x13 res hm;refine qR (s_va 6 [(40,vb (decide (x12<(((v7.1.length-(1:Int).toNat):Nat):Int))))] ?_);refine q_sq (q_cq hm (λhm=>?_) (λhm=>?_))
  ·refine q_sk (q_jn (ι:=Int×Int×Int×Int×Int×(List Node)×Int) (λp=>qHI v7 x12 p.1 p.2.1 p.2.2.1 p.2.2.2.1 p.2.2.2.2.1 p.2.2.2.2.2.1 p.2.2.2.2.2.2) (λp=>qDP x12 (GY v7 n) p.1 p.2.1 p.2.2.1 p.2.2.2.1 p.2.2.2.2.1 p.2.2.2.2.2.1 p.2.2.2.2.2.2=some res) ?_ ?_)
   ·rintro⟨x18,x19,x20,x21,x22,l23,x24⟩ hm;show H _ (qHI v7 x12 x18 x19 x20 x21 x22 l23 x24) _ _;exact q_vv [] 7 [39] [(39,vi (w64 (x12+1)))] (q_hl (CT v7 (w64 (x12+1)) (qP.mk x18 (Pattern.mk (Rect.mk (Span.mk x19 x20) (Span.mk x21 x22)) l23) x24)) (ih (w64 (x12+1)) (qP.mk x18 (Pattern.mk (Rect.mk (Span.mk x19 x20) (Span.mk x21 x22)) l23) x24) _ hm))
   ·refine q_bk 1 ?_;obtain⟨g15,hm⟩:=qI hm;obtain⟨g16,hm⟩:=qI hm;refine s_vu [qi 0 g15,qd 1 dN (uc (uQ (qW (zD g15)) ((1:Int).toNat)) (kJ g16))] 6 [40] [(18,vp 6 0)] [] [(6,bx 60 (zR (v7.1.getD (((1:Int).toNat)+x12.toNat) dd)))] (s_va 7 [(47,vb (decide (((v7.1.getD (((1:Int).toNat)+x12.toNat) dd).Value)>x13.Value)))] ?_);refine q_cq hm (λhm=>?_) (λhm=>?_)
    ·exact q_vu [] 7 [18,47] [] [5,6] [(5,bx 60 (zR (v7.1.getD (((1:Int).toNat)+x12.toNat) dd)))] (q_J ((v7.1.getD (((1:Int).toNat)+x12.toNat) dd).Quarters,((((v7.1.getD (((1:Int).toNat)+x12.toNat) dd).Pattern).Frame).X).A,((((v7.1.getD (((1:Int).toNat)+x12.toNat) dd).Pattern).Frame).X).B,((((v7.1.getD (((1:Int).toNat)+x12.toNat) dd).Pattern).Frame).Y).A,((((v7.1.getD (((1:Int).toNat)+x12.toNat) dd).Pattern).Frame).Y).B,((v7.1.getD (((1:Int).toNat)+x12.toNat) dd).Pattern).Nodes,(v7.1.getD (((1:Int).toNat)+x12.toNat) dd).Value) hm)
    ·exact q_sk (q_J (x13.Quarters,x13.Pattern.Frame.X.A,x13.Pattern.Frame.X.B,x13.Pattern.Frame.Y.A,x13.Pattern.Frame.Y.B,x13.Pattern.Nodes,x13.Value) hm)
  ·refine q_ex 0 ?_;obtain rfl:=oi hm;exact q_l0
theorem qKu (a1:Scan) (a2:List qK) (a3:Saw) (a4:Rates) (a5:Int) (a6:Int) (r:qP×Int) (hm:RD a1 a2 a3 a4 a5 a6=some r):CtX Tryz.prog globs 20 0 0 [.agg (zS a1),.one (tl qT dd a2),.agg (yL a3),.agg (wG a4),.one (ci a5),.one (ci a6)] [] (qWN r) (qXm r):=by
 unfold RD at hm;refine q_E f20 51 λE=>?_;refine s_vn [] 0 ⟨[(1,vc (tl qT dd a2)),(4,vi a5),(5,vi a6),(6,vp 0 0),(8,vp 1 0),(9,vp 2 0),(12,vp 3 0)],[(0,bx 25 (zS a1)),(1,bx 39 (yL a3)),(2,bx 41 (wG a4)),(3,bx 60 [ci 0,ci 0,ci 0,ci 0,ci 0,.emp,ci 0])]⟩ ?_;obtain⟨v7,h8,hm⟩:=qC hm;refine s_vu [qc 6 [20,21,22,23,24,25] 4 (qLk a1 a2 a3 a4 a5 a6 v7 h8)] 4 [1,4,5,6,8,9] [(14,vo 4 0 7 v7.1.length),(15,vi v7.2)] [0,1,2] [(4,ro 0 60 7 v7.1.length (rf zR v7.1))] (q_sq ?_);refine s_va 5 [(30,vb (v7.2 !=0))] (q_cq hm (λhm=>?_) (λhm=>?_))
 ·refine s_vu [] 5 [14,15,30] [(13,vi v7.2)] [4] [] (q_fu [.ownB 3 5 5 156 2 (rf qN [])] [] [] [3] [(3,bx 60 [ci 0,ci 0,ci 0,ci 0,ci 0,.own 5 0 2 0,ci 0]),(5,ro 0 156 2 0 (rf qN []))] o0 ?_);refine q_fu [.len 5 (([]:List Node).length),.frz 5] [] [] [3,5] [(3,bx 60 [ci 0,ci 0,ci 0,ci 0,ci 0,tl qN dd ([]:List Node),ci 0])] (o1 (And.intro (And.intro (show 0=([]:List Node).length from rfl) (show 0=([]:List Node).length from rfl)) (kd (([]:List Node).length)))) ?_;obtain rfl:=oi hm;exact q_rt q_rm
 ·refine q_sk ?_;obtain⟨g10,hm⟩:=qI hm;refine s_vu [qi 1 g10,qd 2 dN (qW (zD g10))] 5 [15,30] [(16,vp 5 0)] [] [(5,bx 60 (zR (v7.1.getD ((0:Int).toNat) dd)))] (q_sq ?_);obtain⟨g11,hm⟩:=qI hm;refine s_vv [qd 1 dN (And.intro (zG g11).1 (zG g11).2.1)] 6 [14] [(37,vc (.sub 4 0 7 ((1:Int).toNat) (v7.1.length-(1:Int).toNat))),(38,vi (((v7.1.length-(1:Int).toNat):Nat):Int)),(39,vi 0)] ?_;obtain⟨o32,h33,hm⟩:=qC hm
  refine zB (nd f20 500) 0 (by kernel_rfl) FUEL (λo=>qGO o.1 o.2.1 o.2.2.1 o.2.2.2.1 o.2.2.2.2.1 o.2.2.2.2.2.1 o.2.2.2.2.2.2) o32 (q_hl (CT v7 0 (v7.1.getD ((0:Int).toNat) dd)) (qOV E v7 FUEL 0 (v7.1.getD ((0:Int).toNat) dd) o32 h33)) (s_vu [] 6 [16] [(13,vi 0)] [3,5] [(3,bx 60 [ci o32.1,ci o32.2.1,ci o32.2.2.1,ci o32.2.2.2.1,ci o32.2.2.2.2.1,tl qN dd o32.2.2.2.2.2.1,ci o32.2.2.2.2.2.2])] ?_);obtain rfl:=oi hm;exact q_rt q_rm
def qOU (r:Int):V:=vi r
def qPI (r:Int):List (Nat×(Nat×O)):=[]
theorem qEp (a1:Int) (r:Int) (hm:JI a1=some r):CtX Tryz.prog globs 98 0 0 [.one (ci a1)] [] (qOU r) (qPI r):=by
 unfold JI at hm;refine q_E f98 7 λE=>?_;refine s_vn [] 0 ⟨[(0,vi a1)],[]⟩ (s_vn [qd 1 dN (show(4:Int)≠0 by decide),qd 3 dN (show(4:Int)≠0 by decide)] 0 ⟨[(2,vi (Int.tmod (w64 ((Int.tmod a1 4)+4)) 4))],[]⟩ ?_);obtain rfl:=oi hm;exact q_rt q_rm
def qTt (r:qA):V:=va (qB r)
def qSu (r:qA):List (Nat×(Nat×O)):=[]
def SF (a2:Int) (x3:Int) (x4:qA):St:=
 ⟨[(1,vi a2),(2,vp 0 0),(4,vp 1 0),(5,vi x3)],[(0,bx 93 (qB x4)),(1,bx 93 [ci 0,ci 0])]⟩
def qEF (x6:qA):St:=
 ⟨[(2,vp 0 0),(4,vp 1 0)],[(0,bx 93 (qB x6)),(1,bx 93 [ci 0,ci 0])]⟩
theorem qLS (E:Env 0) (a2:Int):∀(n:Nat) (x3:Int) (x4:qA) (res:qA),QP a2 n x3 x4=some res->HL (kx E 18 0) (nd f97 52) (zF 0 qEF res) n (SF a2 x3 x4):=by
 intro n
 induction n with
 |zero=>
  intro x3 x4 res hm;cases hm
 |succ n ih=>
  intro x3 x4 res hm;refine qR (q_sq ?_);refine s_va 2 [(8,vb (decide (x3<a2)))] (q_cq hm (λhm=>?_) (λhm=>?_))
  ·refine q_sk (q_sq ?_);refine q_bk 1 (q_vu [] 2 [8] [] [0] [(0,bx 93 [ci (w64 (0-x4.Y)),ci x4.X])] ?_);exact q_vv [] 2 [5] [(5,vi (w64 (x3+1)))] (q_hl (SF a2 (w64 (x3+1)) (qA.mk (w64 (0-x4.Y)) x4.X)) (ih (w64 (x3+1)) (qA.mk (w64 (0-x4.Y)) x4.X) _ hm))
  ·refine q_ex 0 ?_;obtain rfl:=oi hm;exact q_l0
theorem qQy (a1:qA) (a2:Int) (r:qA) (hm:NW a1 a2=some r):CtX Tryz.prog globs 97 0 0 [.agg (qB a1),.one (ci a2)] [] (qTt r) (qSu r):=by
 unfold NW at hm;refine q_E f97 18 λE=>?_;refine s_vn [] 0 ⟨[(1,vi a2),(2,vp 0 0),(4,vp 1 0)],[(0,bx 93 (qB a1)),(1,bx 93 [ci 0,ci 0])]⟩ (q_sq ?_);refine s_va 2 [(5,vi 0)] ?_;obtain⟨o7,h8,hm⟩:=qC hm;refine zB (nd f97 52) 0 (by kernel_rfl) FUEL qEF o7 (q_hl (SF a2 0 a1) (qLS E a2 FUEL 0 a1 o7 h8)) (s_vu [] 2 [2] [] [0,1] [(1,bx 93 (qB o7))] ?_);obtain rfl:=oi hm;exact q_rt q_rm
open Go.Proofs Go.Proofs.Tryz
def qTd (r:Ring):V:=va [ci r.Z,.own 0 0 3 r.Read.length]
def qTs (r:Ring):List (Nat×(Nat×O)):=[(0,ro 0 95 3 r.Read.length (rf qQ r.Read))]
theorem qGY (a1:Ring) (r:Ring) (hm:TN a1=some r):CtX Tryz.prog globs 96 0 0 [.agg (qU a1)] [] (qTd r) (qTs r):=by
 unfold TN at hm;refine q_E f96 10 λE=>?_;refine s_vn [] 0 ⟨[(1,vp 0 0),(2,vp 1 0)],[(0,bx 71 (qU a1)),(1,bx 71 [ci 0,.emp])]⟩ ?_;obtain⟨g2,hm⟩:=qI hm;refine s_du [qd 2 (drw 2 0 (rf qQ [])) (litP qQ dd 3 (λ_=>rfl) ([]:List qL) 0 rfl),qd 5 (drw 2 1 (rf qQ (([]:List qL)++a1.Read))) (apP qQ dd ([]:List qL) a1.Read 0 a1.Read.length 3 24 (True) trivial rfl rfl (λ_=>rfl) (zN g2))] [0,1,0,0,8,28,63,127] 2 [1] [] [0,1] [(1,bx 71 [ci a1.Z,.own 2 1 3 (0+a1.Read.length)]),(2,ro 1 95 3 (0+a1.Read.length) (rf qQ (([]:List qL)++a1.Read)))] ?_
 refine q_fu [.len 2 ((([]:List qL)++a1.Read).length)] [] [] [1,2] [(1,bx 71 [ci a1.Z,.own 2 1 3 ((([]:List qL)++a1.Read).length)]),(2,ro 1 95 3 ((([]:List qL)++a1.Read).length) (rf qQ (([]:List qL)++a1.Read)))] (o1 (And.intro (Eq.symm (show(([]:List qL)++a1.Read).length=(0+a1.Read.length) from(zH rfl rfl))) (Eq.symm (show(([]:List qL)++a1.Read).length=(0+a1.Read.length) from(zH rfl rfl))))) ?_;obtain rfl:=oi hm;exact q_sw 2 0 (q_rt q_rm)
def HB (r:Bool):V:=vb r
def XX (r:Bool):List (Nat×(Nat×O)):=[]
theorem qSp (r:Bool):wQ (XX r):=by
 intro i k o h;unfold XX at h;cases h
def qM5 (a1:List qA) (x2:Int) (x8:Bool):St:=
 ⟨[(0,vc (tl qB dd a1)),(3,vi x2),(39,vb x8)],[]⟩
def SS (a1:List qA) (x2:Int):St:=
 ⟨[(0,vc (tl qB dd a1)),(3,vi x2)],[]⟩
def qEJ :St:=
 ⟨[],[]⟩
theorem qL1 (E:Env 0) (a1:List qA):∀(n:Nat) (x2:Int) (res:Bool⊕Unit),wM a1 n x2=some res->HL (kx E 40 0) (nd f72 52) (wC 0 (λo=>qEJ) (λv st=>RetQ Tryz.prog f72 (HB v) (XX v) .ret st) res) n (SS a1 x2):=by
 intro n
 induction n with
 |zero=>
  intro x2 res hm;cases hm
 |succ n ih=>
  intro x2 res hm;refine qR (q_sq ?_);refine s_va 0 [(7,vb (decide (x2<(a1.length:Int))))] (q_cq hm (λhm=>?_) (λhm=>?_))
  ·refine q_sk (q_sq ?_);refine q_bk 1 (q_jn (qM5 a1 x2) (λp=>WC x2 (wM a1 n) p=some res) ?_ ?_)
   ·rintro x8 hm;refine q_cq hm (λhm=>?_) (λhm=>?_)
    ·refine s_vn [] 0 ⟨[(2,vb false)],[]⟩ ?_;obtain rfl:=oi hm;refine q_rt (zJ false ?_);exact q_rm
    ·refine q_sk (q_vv [] 0 [3,39] [(3,vi (w64 (x2+1)))] ?_);exact q_hl (SS a1 (w64 (x2+1))) (ih (w64 (x2+1)) _ hm)
   ·obtain⟨g4,hm⟩:=qI hm;rcases bif_c hm with⟨b5,hm⟩|⟨b5,hm⟩
    ·exact q_vv [qi 2 g4,qf 6 b5] 0 [7] [(39,vb true)] (q_J (true) hm)
    ·rcases bif_c hm with⟨b6,hm⟩|⟨b6,hm⟩
     ·exact q_vv [qi 2 g4,qf 6 b5,qi 9 g4,qf 14 b6] 0 [7] [(39,vb true)] (q_J (true) hm)
     ·rcases bif_c hm with⟨b7,hm⟩|⟨b7,hm⟩
      ·exact q_vv [qi 2 g4,qf 6 b5,qi 9 g4,qf 14 b6,qi 17 g4,qf 22 b7] 0 [7] [(39,vb true)] (q_J (true) hm)
      ·exact q_vv [qi 2 g4,qf 6 b5,qi 9 g4,qf 14 b6,qi 17 g4,qf 22 b7,qi 25 g4] 0 [7] [(39,vb (decide (((a1.getD x2.toNat dd).Y)>600)))] (q_J (decide (((a1.getD x2.toNat dd).Y)>600)) hm)
  ·refine q_ex 0 ?_;obtain rfl:=oi hm;exact q_l1 ()
theorem ND (a1:List qA) (r:Bool) (hm:QQ a1=some r):CtX Tryz.prog globs 72 0 0 [.one (tl qB dd a1)] [] (HB r) (XX r):=by
 unfold QQ at hm;refine q_E f72 40 λE=>?_;refine s_vn [] 0 ⟨[(0,vc (tl qB dd a1))],[]⟩ (q_sq ?_);refine s_va 0 [(3,vi 0)] ?_;obtain⟨u12,h11,hm⟩:=qC hm;refine zQ (nd f72 52) 0 (by kernel_rfl) FUEL (λo=>qEJ) (λv st=>RetQ Tryz.prog f72 (HB v) (XX v) .ret st) u12 (q_hl (SS a1 0) (qL1 E a1 FUEL 0 u12 h11)) ?_ ?_
 ·rintro v13 rfl st hr;obtain rfl:=oi hm;exact hr
 ·rintro o10 rfl;replace hm:_=some r:=hm;refine s_vn [] 0 ⟨[(2,vb true)],[]⟩ ?_;obtain rfl:=oi hm;exact q_rt q_rm
def qDE (r:Int):V:=vi r
def qDU (r:Int):List (Nat×(Nat×O)):=[]
def qOK (a1:Ring) (x7:Int) (x16:Bool):St:=
 ⟨[(1,vp 0 0),(3,vi x7),(53,vb x16)],[(0,bx 71 (qU a1))]⟩
def qPZ (a1:Ring) (x7:Int) (x13:Bool):St:=
 ⟨[(1,vp 0 0),(3,vi x7),(4,vp 1 0),(44,vb x13)],[(0,bx 71 (qU a1)),(1,bx 95 (qQ (a1.Read.getD x7.toNat dd)))]⟩
def II (a1:Ring) (x7:Int):St:=
 ⟨[(1,vp 0 0),(3,vi x7)],[(0,bx 71 (qU a1))]⟩
def qFP :St:=
 ⟨[],[]⟩
def qOF (a1:Ring) (x5:Bool):St:=
 ⟨[(1,vp 0 0),(15,vb x5)],[(0,bx 71 (qU a1))]⟩
theorem qM2 (E:Env 0) (a1:Ring):∀(n:Nat) (x7:Int) (res:Int⊕Unit),yY a1 n x7=some res->HL (kx E 54 0) (nd f35 116) (wC 1 (λo=>qFP) (λv st=>RetQ Tryz.prog f35 (qDE v) (qDU v) .ret st) res) n (II a1 x7):=by
 intro n
 induction n with
 |zero=>
  intro x7 res hm;cases hm
 |succ n ih=>
  intro x7 res hm;refine qR (q_sq ?_);refine s_va 1 [(28,vb (decide (x7<(a1.Read.length:Int))))] (q_cq hm (λhm=>?_) (λhm=>?_))
  ·refine q_sk (q_sq ?_);refine q_bk 2 ?_;obtain⟨g9,hm⟩:=qI hm;refine s_vu [qi 3 g9] 1 [28] [(4,vp 1 0)] [] [(1,bx 95 (qQ (a1.Read.getD x7.toNat dd)))] (q_sq ?_);refine q_jn (qPZ a1 x7) (λp=>MW a1 x7 (yY a1 n) p=some res) ?_ ?_
   ·rintro x13 hm;refine q_cq hm (λhm=>?_) (λhm=>?_)
    ·refine s_vn [] 3 ⟨[(2,vi 9)],[]⟩ ?_;obtain rfl:=oi hm;refine q_rt (zJ 9 ?_);exact q_rm
    ·refine q_sk (q_jn (qOK a1 x7) (λp=>MY x7 (yY a1 n) p=some res) ?_ ?_)
     ·rintro x16 hm;refine q_cq hm (λhm=>?_) (λhm=>?_)
      ·refine s_vn [] 3 ⟨[(2,vi 19)],[]⟩ ?_;obtain rfl:=oi hm;refine q_rt (zJ 19 ?_);exact q_rm
      ·refine q_sk (q_vv [] 3 [3,53] [(3,vi (w64 (x7+1)))] ?_);exact q_hl (II a1 (w64 (x7+1))) (ih (w64 (x7+1)) _ hm)
     ·rcases bif_c hm with⟨b15,hm⟩|⟨b15,hm⟩
      ·exact q_vu [qf 3 b15] 3 [4,44] [(53,vb (!(((((a1.Read.getD x7.toNat dd).P).X)==0)&&(((((a1.Read.getD x7.toNat dd).P).Y)==0)&&true))))] [1] [] (q_J (!(((((a1.Read.getD x7.toNat dd).P).X)==0)&&(((((a1.Read.getD x7.toNat dd).P).Y)==0)&&true))) hm)
      ·exact q_vu [qf 3 b15] 3 [4,44] [(53,vb false)] [1] [] (q_J (false) hm)
   ·rcases bif_c hm with⟨b10,hm⟩|⟨b10,hm⟩
    ·obtain⟨v11,h12,hm⟩:=qC hm
     exact q_vv [qf 2 b10,qd 5 (drw 2 0 (rf qB [(a1.Read.getD x7.toNat dd).P])) (litP qB dd 2 (λ_=>rfl) ([(a1.Read.getD x7.toNat dd).P]:List qA) 1 rfl),qd 6 (dex (cen [] [] 3 0 (HB v11) (XX v11) [38,41] [2])) (zW (K:=(kx E 54 0)) (xs':=[.one (.lst 1 (rf qB [(a1.Read.getD x7.toNat dd).P]))]) (b:=false) ⟨[(38,vb true),(41,vo 2 0 2 1)],[(2,ro 0 93 2 1 (rf qB [(a1.Read.getD x7.toNat dd).P]))]⟩ (opAt (rg f35 7460) 6) [] [] 3 (o1 (kd 1)) (by simp only[tl,rf,show([(a1.Read.getD x7.toNat dd).P]:List qA).length=1 from rfl]) (ND ([(a1.Read.getD x7.toNat dd).P]:List qA) v11 h12) (.inr ⟨(by kernel_rfl),qSp v11⟩) (by kernel_rfl))] 2 [] [(44,vb (!v11))] (q_J (!v11) hm)
    ·exact q_vv [qf 2 b10] 2 [] [(44,vb false)] (q_J (false) hm)
  ·refine q_ex 1 ?_;obtain rfl:=oi hm;exact q_l1 ()
theorem LY (a1:Ring) (r:Int) (hm:XR a1=some r):CtX Tryz.prog globs 35 0 0 [.agg (qU a1)] [] (qDE r) (qDU r):=by
 unfold XR at hm;refine q_E f35 54 λE=>?_;refine s_vn [] 0 ⟨[(1,vp 0 0)],[(0,bx 71 (qU a1))]⟩ (q_sq ?_);refine q_bk 0 (s_va 1 [(5,vb (decide ((a1.Read.length:Int)<8)))] ?_);refine q_cq hm (λhm=>?_) (λhm=>?_)
 ·refine s_vn [] 1 ⟨[(2,vi 3)],[]⟩ ?_;obtain rfl:=oi hm;exact q_rt q_rm
 ·refine s_vv [] 1 [5] [(10,vb (decide ((a1.Read.length:Int)>32)))] (q_cq hm (λhm=>?_) (λhm=>?_))
  ·refine s_vn [] 1 ⟨[(2,vi 4)],[]⟩ ?_;obtain rfl:=oi hm;exact q_rt q_rm
  ·refine q_jn (qOF a1) (λp=>MH a1 p=some r) ?_ ?_
   ·rintro x5 hm;refine q_cq hm (λhm=>?_) (λhm=>?_)
    ·refine s_vn [] 1 ⟨[(2,vi 9)],[]⟩ ?_;obtain rfl:=oi hm;exact q_rt q_rm
    ·refine q_sk (q_sq ?_);refine s_vv [] 1 [15] [(3,vi 0)] ?_;obtain⟨u20,h19,hm⟩:=qC hm;refine zQ (nd f35 116) 1 (by kernel_rfl) FUEL (λo=>qFP) (λv st=>RetQ Tryz.prog f35 (qDE v) (qDU v) .ret st) u20 (q_hl (II a1 0) (qM2 E a1 FUEL 0 u20 h19)) ?_ ?_
     ·rintro v21 rfl st hr;obtain rfl:=oi hm;exact hr
     ·rintro o18 rfl;replace hm:_=some r:=hm;refine s_vn [] 1 ⟨[(2,vi 0)],[]⟩ ?_;obtain rfl:=oi hm;exact q_rt q_rm
   ·rcases bif_c hm with⟨b4,hm⟩|⟨b4,hm⟩
    ·exact q_vv [qf 3 b4] 1 [10] [(15,vb true)] (q_J (true) hm)
    ·exact q_vv [qf 3 b4] 1 [10] [(15,vb (decide (a1.Z>20000)))] (q_J (decide (a1.Z>20000)) hm)
open Go.Proofs Go.Proofs.Tryz
def qWm (r:Ring):V:=va [ci r.Z,.own 0 0 3 r.Read.length]
def qYu (r:Ring):List (Nat×(Nat×O)):=[(0,ro 0 95 3 r.Read.length (rf qQ r.Read))]
def qHp (a2:Int) (v3:Ring) (x8:Int) (l17:List qL) (l17n:Nat):St:=
 ⟨[(1,vi a2),(4,vp 1 0),(5,vp 3 0),(6,vi x8)],[(1,bx 71 [ci 0,.emp]),(2,ro 0 95 3 l17n (rf qQ l17)),(3,bx 71 [ci v3.Z,.own 2 0 3 l17n])]⟩
def CM (a2:Int) (v3:Ring) (x8:Int) (l9:List qL) (l9n:Nat):St:=
 ⟨[(1,vi a2),(4,vp 1 0),(5,vp 3 0),(6,vi x8)],[(1,bx 71 [ci 0,.emp]),(2,ro 0 95 3 l9n (rf qQ l9)),(3,bx 71 [ci v3.Z,.own 2 0 3 l9n])]⟩
def qGD (v3:Ring) (l18:List qL):St:=
 ⟨[(4,vp 1 0),(5,vp 3 0)],[(1,bx 71 [ci 0,.emp]),(2,ro 0 95 3 l18.length (rf qQ l18)),(3,bx 71 [ci v3.Z,.own 2 0 3 l18.length])]⟩
theorem qOC (E:Env 0) (a2:Int) (v3:Ring):∀(n:Nat) (x8:Int) (l9:List qL) (l9n:Nat) (res:(List qL)),l9.length=l9n->WM a2 n x8 l9=some res->HL (kx E 41 0) (nd f47 244) (zF 0 (λo=>qGD v3 o) res) n (CM a2 v3 x8 l9 l9n):=by
 intro n
 induction n with
 |zero=>
  intro x8 l9 l9n res hl0 hm;cases hm
 |succ n ih=>
  intro x8 l9 l9n res hl0 hm;subst hl0;refine qR (q_sq ?_);refine s_va 4 [(17,vb (decide (x8<(l9.length:Int))))] (q_cq hm (λhm=>?_) (λhm=>?_))
  ·refine q_sk (q_jn (ι:=(List qL)×Nat) (λp=>qHp a2 v3 x8 p.1 p.2) (λp=>p.1.length=p.2/\AV x8 (WM a2 n) p.1=some res) ?_ ?_)
   ·rintro⟨l17,l17n⟩ ⟨el17,hm⟩;replace el17:l17.length=l17n:=el17;subst el17;show H _ (qHp a2 v3 x8 l17 l17.length) _ _;exact q_vv [] 4 [6] [(6,vi (w64 (x8+1)))] (q_hl (CM a2 v3 (w64 (x8+1)) l17 l17.length) (ih (w64 (x8+1)) l17 l17.length _ rfl hm))
   ·refine q_bk 1 ?_;obtain⟨g11,hm⟩:=qI hm;refine s_vv [qi 3 g11,qd 5 dN (qW (zD g11))] 4 [17] [(25,vb ((l9.getD x8.toNat dd).Ok))] (q_cq hm (λhm=>?_) (λhm=>?_))
    ·obtain⟨v13,h14,hm⟩:=qC hm;obtain⟨v15,h16,hm⟩:=qC hm
     exact q_du [qi 6 g11,qd 8 dN (qW (zD g11)),qc 10 [35] 4 (qEp a2 v13 h14),qc 11 [34,36] 4 (qQy ((l9.getD x8.toNat dd).P) v13 v15 h16),qi 12 g11,qd 14 (drw 0 0 (rf qQ (l9.set x8.toNat (qL.mk v15 ((l9.getD x8.toNat dd).Ok))))) (stP qQ dd (qL.mk v15 ((l9.getD x8.toNat dd).Ok)) l9 l9.length x8.toNat 0 (qB v15) rfl (qW (zD g11)) rfl)] [0,1,0,0,8,0,56,120,248,0,512,2040,4095,8191,16383] 4 [25] [] [2] [(2,ro 0 95 3 l9.length (rf qQ (l9.set x8.toNat (qL.mk v15 ((l9.getD x8.toNat dd).Ok)))))] (q_J ((l9.set x8.toNat (qL.mk v15 ((l9.getD x8.toNat dd).Ok))),l9.length) ⟨(jI rfl),hm⟩)
    ·exact q_sk (q_J (l9,l9.length) ⟨rfl,hm⟩)
  ·refine q_ex 0 ?_;obtain rfl:=oi hm;exact q_l0
theorem qUU (a1:Ring) (a2:Int) (r:Ring) (hm:XJ a1 a2=some r):CtX Tryz.prog globs 47 0 0 [.agg (qU a1),.one (ci a2)] [] (qWm r) (qYu r):=by
 unfold XJ at hm;refine q_E f47 41 λE=>?_;refine s_vn [] 0 ⟨[(1,vi a2),(2,vp 0 0),(4,vp 1 0)],[(0,bx 71 (qU a1)),(1,bx 71 [ci 0,.emp])]⟩ ?_;obtain⟨v3,h4,hm⟩:=qC hm;refine s_vu [qc 1 [7] 2 (qGY a1 v3 h4)] 2 [] [(5,vp 3 0)] [] [(2,ro 0 95 3 v3.Read.length (rf qQ v3.Read)),(3,bx 71 [ci v3.Z,.own 2 0 3 v3.Read.length])] (q_sq ?_);obtain⟨v5,h6,hm⟩:=qC hm;refine s_vu [qc 1 [9] 4 (LY a1 v5 h6)] 4 [2] [(11,vb (v5 !=0))] [0] [] (q_cq hm (λhm=>?_) (λhm=>?_))
 ·refine s_vu [] 4 [1,5,11] [] [1,3] [(1,bx 71 [ci v3.Z,.own 2 0 3 v3.Read.length])] ?_;obtain rfl:=oi hm;exact q_sw 2 0 (q_rt q_rm)
 ·refine q_sk (q_sq ?_);refine s_vv [] 4 [11] [(6,vi 0)] ?_;obtain⟨o19,h20,hm⟩:=qC hm;refine zB (nd f47 244) 0 (by kernel_rfl) FUEL (λo=>qGD v3 o) o19 (q_hl (CM a2 v3 0 v3.Read v3.Read.length) (qOC E a2 v3 FUEL 0 v3.Read v3.Read.length o19 rfl h20)) (s_vu [] 4 [5] [] [1,3] [(1,bx 71 [ci v3.Z,.own 2 0 3 o19.length])] ?_);obtain rfl:=oi hm;exact q_sw 2 0 (q_rt q_rm)
def qU5 (r:Bool):V:=vb r
def qUE (r:Bool):List (Nat×(Nat×O)):=[]
def qOb (x4:Bool):St:=
 ⟨[(2,vb x4)],[]⟩
theorem qTw (a1:Box) (r:Bool) (hm:AB a1=some r):CtX Tryz.prog globs 73 0 0 [.agg (yC a1)] [] (qU5 r) (qUE r):=by
 unfold AB at hm;refine q_E f73 28 λE=>?_;refine s_vn [] 0 ⟨[(1,vp 0 0)],[(0,bx 85 (yC a1))]⟩ (q_jn (qOb) (λp=>UF p=some r) ?_ ?_)
 ·rintro x4 hm;obtain rfl:=oi hm;exact q_rt q_rm
 ·rcases bif_c hm with⟨b2,hm⟩|⟨b2,hm⟩
  ·exact q_vn [qf 7 b2] 1 ⟨[(2,vb true)],[]⟩ (q_J (true) hm)
  ·rcases bif_c hm with⟨b3,hm⟩|⟨b3,hm⟩
   ·exact q_vn [qf 7 b2,qf 16 b3] 1 ⟨[(2,vb true)],[]⟩ (q_J (true) hm)
   ·exact q_vn [qf 7 b2,qf 16 b3] 1 ⟨[(2,vb (decide (a1.Z.A≥a1.Z.B)))],[]⟩ (q_J (decide (a1.Z.A≥a1.Z.B)) hm)
def q0u (r:Bool):V:=vb r
def q0x (r:Bool):List (Nat×(Nat×O)):=[]
def qUW (x5:Bool):St:=
 ⟨[(6,vb x5)],[]⟩
theorem DZ (a1:Span) (a2:Int) (a3:Int) (r:Bool) (hm:OM a1 a2 a3=some r):CtX Tryz.prog globs 140 0 0 [.agg (qE a1),.one (ci a2),.one (ci a3)] [] (q0u r) (q0x r):=by
 unfold OM at hm;refine q_E f140 17 λE=>?_;refine s_vn [] 0 ⟨[(1,vi a2),(2,vi a3),(3,vp 0 0)],[(0,bx 53 (qE a1))]⟩ (q_jn (qUW) (λp=>qCN p=some r) ?_ ?_)
 ·rintro x5 hm;obtain rfl:=oi hm;exact q_rt q_rm
 ·rcases bif_c hm with⟨b4,hm⟩|⟨b4,hm⟩
  ·exact q_vn [qf 4 b4] 1 ⟨[(6,vb (decide (a1.B<=a3)))],[]⟩ (q_J (decide (a1.B<=a3)) hm)
  ·exact q_vn [qf 4 b4] 1 ⟨[(6,vb false)],[]⟩ (q_J (false) hm)
open Go.Proofs Go.Proofs.Tryz
def qSJ (r:Bool):V:=vb r
def qSi (r:Bool):List (Nat×(Nat×O)):=[]
def qNh (x10:Bool):St:=
 ⟨[(2,vb x10)],[]⟩
theorem qRl (a1:Box) (r:Bool) (hm:NM a1=some r):CtX Tryz.prog globs 74 0 0 [.agg (yC a1)] [] (qSJ r) (qSi r):=by
 unfold NM at hm;refine q_E f74 16 λE=>?_;refine s_vn [] 0 ⟨[(1,vp 0 0)],[(0,bx 85 (yC a1))]⟩ (q_jn (qNh) (λp=>PV p=some r) ?_ ?_)
 ·rintro x10 hm;obtain rfl:=oi hm;exact q_rt q_rm
 ·obtain⟨v2,h3,hm⟩:=qC hm;rcases bif_c hm with⟨b4,hm⟩|⟨b4,hm⟩
  ·obtain⟨v5,h6,hm⟩:=qC hm;rcases bif_c hm with⟨b7,hm⟩|⟨b7,hm⟩
   ·obtain⟨v8,h9,hm⟩:=qC hm;exact q_vn [qk 2 [4] 1 ⟨[(4,va (qE a1.X))],[]⟩ (DZ a1.X (-600) 600 v2 h3),qf 3 b4,qk 6 [6,8] 1 ⟨[(6,vb true),(8,va (qE a1.Y))],[]⟩ (DZ a1.Y (-600) 600 v5 h6),qf 8 b7,qk 11 [11,13] 1 ⟨[(11,vb true),(13,va (qE a1.Z))],[]⟩ (DZ a1.Z 0 20000 v8 h9)] 1 ⟨[(2,vb v8)],[]⟩ (q_J (v8) hm)
   ·exact q_vn [qk 2 [4] 1 ⟨[(4,va (qE a1.X))],[]⟩ (DZ a1.X (-600) 600 v2 h3),qf 3 b4,qk 6 [6,8] 1 ⟨[(6,vb true),(8,va (qE a1.Y))],[]⟩ (DZ a1.Y (-600) 600 v5 h6),qf 8 b7] 1 ⟨[(2,vb false)],[]⟩ (q_J (false) hm)
  ·exact q_vn [qk 2 [4] 1 ⟨[(4,va (qE a1.X))],[]⟩ (DZ a1.X (-600) 600 v2 h3),qf 3 b4] 1 ⟨[(2,vb false)],[]⟩ (q_J (false) hm)
def qD2 (r:Int):V:=vi r
def qDS (r:Int):List (Nat×(Nat×O)):=[]
def qPw (a1:List qH) (x3:Int) (x7:Bool):St:=
 ⟨[(0,vc (tl qJ dd a1)),(3,vi x3),(13,vb x7)],[]⟩
def IE (a1:List qH) (x3:Int):St:=
 ⟨[(0,vc (tl qJ dd a1)),(3,vi x3)],[]⟩
def qGl :St:=
 ⟨[],[]⟩
theorem qNq (E:Env 0) (a1:List qH):∀(n:Nat) (x3:Int) (res:Int⊕Unit),yW a1 n x3=some res->HL (kx E 43 0) (nd f36 116) (wC 0 (λo=>qGl) (λv st=>RetQ Tryz.prog f36 (qD2 v) (qDS v) .ret st) res) n (IE a1 x3):=by
 intro n
 induction n with
 |zero=>
  intro x3 res hm;cases hm
 |succ n ih=>
  intro x3 res hm;refine qR (q_sq ?_);refine s_va 0 [(10,vb (decide (x3<(a1.length:Int))))] (q_cq hm (λhm=>?_) (λhm=>?_))
  ·refine q_sk (q_sq ?_);refine q_bk 1 (q_bk 2 ?_);refine q_jn (qPw a1 x3) (λp=>MB a1 x3 (yW a1 n) p=some res) ?_ ?_
   ·rintro x7 hm;refine q_cq hm (λhm=>?_) (λhm=>?_)
    ·refine s_vn [] 0 ⟨[(2,vi 10)],[]⟩ ?_;obtain rfl:=oi hm;refine q_rt (zJ 10 ?_);exact q_rm
    ·obtain⟨g9,hm⟩:=qI hm;obtain⟨v10,h11,hm⟩:=qC hm;refine s_vv [qi 2 g9,qc 5 [33] 0 (qTw ((a1.getD x3.toNat dd).Box) v10 h11)] 0 [13] [(28,vb v10)] (q_cq hm (λhm=>?_) (λhm=>?_))
     ·refine s_vn [] 0 ⟨[(2,vi 19)],[]⟩ ?_;obtain rfl:=oi hm;refine q_rt (zJ 19 ?_);exact q_rm
     ·obtain⟨v13,h14,hm⟩:=qC hm;refine s_vv [qi 2 g9,qc 5 [40] 0 (qRl ((a1.getD x3.toNat dd).Box) v13 h14)] 0 [28] [(35,vb (!v13))] (q_cq hm (λhm=>?_) (λhm=>?_))
      ·refine s_vn [] 0 ⟨[(2,vi 9)],[]⟩ ?_;obtain rfl:=oi hm;refine q_rt (zJ 9 ?_);exact q_rm
      ·refine q_sk (q_vv [] 0 [3,35] [(3,vi (w64 (x3+1)))] ?_);exact q_hl (IE a1 (w64 (x3+1))) (ih (w64 (x3+1)) _ hm)
   ·obtain⟨g5,hm⟩:=qI hm;rcases bif_c hm with⟨b6,hm⟩|⟨b6,hm⟩
    ·exact q_vv [qi 2 g5,qf 6 b6] 0 [10] [(13,vb true)] (q_J (true) hm)
    ·exact q_vv [qi 2 g5,qf 6 b6,qi 9 g5] 0 [10] [(13,vb (decide (((a1.getD x3.toNat dd).Kind)>6)))] (q_J (decide (((a1.getD x3.toNat dd).Kind)>6)) hm)
  ·refine q_ex 0 ?_;obtain rfl:=oi hm;exact q_l1 ()
theorem qIN (a1:List qH) (r:Int) (hm:DR a1=some r):CtX Tryz.prog globs 36 0 0 [.one (tl qJ dd a1)] [] (qD2 r) (qDS r):=by
 unfold DR at hm;refine q_E f36 43 λE=>?_;refine s_vn [] 0 ⟨[(0,vc (tl qJ dd a1))],[]⟩ (q_sq ?_);refine s_va 0 [(6,vb (decide ((a1.length:Int)>64)))] (q_cq hm (λhm=>?_) (λhm=>?_))
 ·refine s_vn [] 0 ⟨[(2,vi 4)],[]⟩ ?_;obtain rfl:=oi hm;exact q_rt q_rm
 ·refine q_sk (q_sq ?_);refine s_vv [] 0 [6] [(3,vi 0)] ?_;obtain⟨u18,h17,hm⟩:=qC hm;refine zQ (nd f36 116) 0 (by kernel_rfl) FUEL (λo=>qGl) (λv st=>RetQ Tryz.prog f36 (qD2 v) (qDS v) .ret st) u18 (q_hl (IE a1 0) (qNq E a1 FUEL 0 u18 h17)) ?_ ?_
  ·rintro v19 rfl st hr;obtain rfl:=oi hm;exact hr
  ·rintro o16 rfl;replace hm:_=some r:=hm;refine s_vn [] 0 ⟨[(2,vi 0)],[]⟩ ?_;obtain rfl:=oi hm;exact q_rt q_rm
def GR (r:Int):V:=vi r
def DG (r:Int):List (Nat×(Nat×O)):=[]
def qPT (a1:Scan) (x5:Int) (x15:Bool):St:=
 ⟨[(1,vp 0 0),(4,vi x5),(5,vp 1 0),(50,vb x15)],[(0,bx 25 (zS a1)),(1,bx 71 (qU (a1.Rings.getD x5.toNat dd)))]⟩
def IF (a1:Scan) (x4:Int) (x5:Int):St:=
 ⟨[(1,vp 0 0),(3,vi x4),(4,vi x5)],[(0,bx 25 (zS a1))]⟩
def qGf (a1:Scan) (x19:Int):St:=
 ⟨[(1,vp 0 0),(3,vi x19)],[(0,bx 25 (zS a1))]⟩
def OJ (a1:Scan) (o20:Int) (x27:Int):St:=
 ⟨[(1,vp 0 0),(3,vi o20),(8,vi x27)],[(0,bx 25 (zS a1))]⟩
def qFi :St:=
 ⟨[],[]⟩
theorem qNb (E:Env 0) (a1:Scan):∀(n:Nat) (x4:Int) (x5:Int) (res:Int⊕Int),wH a1 n x4 x5=some res->HL (kx E 86 0) (nd f18 500) (wC 0 (λo=>qGf a1 o) (λv st=>RetQ Tryz.prog f18 (GR v) (DG v) .ret st) res) n (IF a1 x4 x5):=by
 intro n
 induction n with
 |zero=>
  intro x4 x5 res hm;cases hm
 |succ n ih=>
  intro x4 x5 res hm;refine qR (q_sq ?_);refine s_va 1 [(21,vb (decide (x5<(a1.Rings.length:Int))))] (q_cq hm (λhm=>?_) (λhm=>?_))
  ·refine q_sk (q_sq ?_);refine q_bk 1 ?_;obtain⟨g7,hm⟩:=qI hm;refine s_vu [qi 3 g7] 1 [21] [(5,vp 1 0)] [] [(1,bx 71 (qU (a1.Rings.getD x5.toNat dd)))] (q_sq ?_);obtain⟨v8,h9,hm⟩:=qC hm;refine s_vv [qc 1 [29] 2 (LY (a1.Rings.getD x5.toNat dd) v8 h9)] 2 [] [(6,vi v8)] (s_va 2 [(32,vb (v8 !=0))] ?_);refine q_cq hm (λhm=>?_) (λhm=>?_)
   ·refine s_vn [] 2 ⟨[(2,vi v8)],[]⟩ ?_;obtain rfl:=oi hm;refine q_rt (zJ v8 ?_);exact q_rm
   ·refine q_sk (q_sq ?_);refine q_jn (qPT a1 x5) (λp=>JH a1 x5 (wH a1 n) p=some res) ?_ ?_
    ·rintro x15 hm;refine q_cq hm (λhm=>?_) (λhm=>?_)
     ·refine s_vn [] 2 ⟨[(2,vi 11)],[]⟩ ?_;obtain rfl:=oi hm;refine q_rt (zJ 11 ?_);exact q_rm
     ·refine q_sk (q_sq ?_);obtain⟨g17,hm⟩:=qI hm;refine s_du [qi 5 g17] [0,1,3,0,8,24,56,120,248,511] 2 [50] [(60,vb (((((a1.Rings.getD x5.toNat dd).Read).length:Nat):Int) !=((((a1.Rings.getD (0:Int).toNat dd).Read).length:Nat):Int)))] [] [] (q_cq hm (λhm=>?_) (λhm=>?_))
      ·refine s_vn [] 2 ⟨[(2,vi 19)],[]⟩ ?_;obtain rfl:=oi hm;refine q_rt (zJ 19 ?_);exact q_rm
      ·refine q_sk (q_vu [] 2 [5,60] [(3,vi ((a1.Rings.getD x5.toNat dd).Z))] [1] [] ?_);exact q_vv [] 2 [4] [(4,vi (w64 (x5+1)))] (q_hl (IF a1 ((a1.Rings.getD x5.toNat dd).Z) (w64 (x5+1))) (ih ((a1.Rings.getD x5.toNat dd).Z) (w64 (x5+1)) _ hm))
    ·rcases bif_c hm with⟨b11,hm⟩|⟨b11,hm⟩
     ·rcases bif_c hm with⟨b12,hm⟩|⟨b12,hm⟩
      ·exact q_vv [qf 2 b11,qf 7 b12] 2 [3,6,32] [(50,vb true)] (q_J (true) hm)
      ·rcases bif_c hm with⟨b13,hm⟩|⟨b13,hm⟩
       ·exact q_vv [qf 2 b11,qf 7 b12,qf 10 b13] 2 [3,6,32] [(50,vb (decide (((a1.Rings.getD x5.toNat dd).Z)<=x4)))] (q_J (decide (((a1.Rings.getD x5.toNat dd).Z)<=x4)) hm)
       ·exact q_vv [qf 2 b11,qf 7 b12,qf 10 b13] 2 [3,6,32] [(50,vb false)] (q_J (false) hm)
     ·rcases bif_c hm with⟨b14,hm⟩|⟨b14,hm⟩
      ·exact q_vv [qf 2 b11,qf 10 b14] 2 [3,6,32] [(50,vb (decide (((a1.Rings.getD x5.toNat dd).Z)<=x4)))] (q_J (decide (((a1.Rings.getD x5.toNat dd).Z)<=x4)) hm)
      ·exact q_vv [qf 2 b11,qf 10 b14] 2 [3,6,32] [(50,vb false)] (q_J (false) hm)
  ·refine q_ex 0 ?_;obtain rfl:=oi hm;exact q_l1 x4
theorem qNs (E:Env 0) (a1:Scan) (o20:Int):∀(n:Nat) (x27:Int) (res:Int⊕Unit),KA a1 o20 n x27=some res->HL (kx E 86 0) (nd f18 2036) (wC 2 (λo=>qFi) (λv st=>RetQ Tryz.prog f18 (GR v) (DG v) .ret st) res) n (OJ a1 o20 x27):=by
 intro n
 induction n with
 |zero=>
  intro x27 res hm;cases hm
 |succ n ih=>
  intro x27 res hm;refine qR (q_sq ?_);refine s_va 1 [(73,vb (decide (x27<(a1.Defects.length:Int))))] (q_cq hm (λhm=>?_) (λhm=>?_))
  ·refine q_sk (q_sq ?_);refine q_bk 3 ?_;obtain⟨g29,hm⟩:=qI hm;refine s_vv [qi 3 g29] 1 [73] [(85,vb (decide (((((a1.Defects.getD x27.toNat dd).Box).Z).B)>o20)))] (q_cq hm (λhm=>?_) (λhm=>?_))
   ·refine s_vn [] 1 ⟨[(2,vi 9)],[]⟩ ?_;obtain rfl:=oi hm;refine q_rt (zJ 9 ?_);exact q_rm
   ·refine q_sk (q_vv [] 1 [8,85] [(8,vi (w64 (x27+1)))] ?_);exact q_hl (OJ a1 o20 (w64 (x27+1))) (ih (w64 (x27+1)) _ hm)
  ·refine q_ex 2 ?_;obtain rfl:=oi hm;exact q_l1 ()
theorem qIB (a1:Scan) (r:Int) (hm:DV a1=some r):CtX Tryz.prog globs 18 0 0 [.agg (zS a1)] [] (GR r) (DG r):=by
 unfold DV at hm;refine q_E f18 86 λE=>?_;refine s_vn [] 0 ⟨[(1,vp 0 0)],[(0,bx 25 (zS a1))]⟩ (q_sq ?_);refine s_va 1 [(12,vb (decide ((a1.Rings.length:Int)<2)))] (q_cq hm (λhm=>?_) (λhm=>?_))
 ·refine s_vn [] 1 ⟨[(2,vi 3)],[]⟩ ?_;obtain rfl:=oi hm;exact q_rt q_rm
 ·refine q_sk (q_sq ?_);refine s_vv [] 1 [12] [(16,vb (decide ((a1.Rings.length:Int)>24)))] (q_cq hm (λhm=>?_) (λhm=>?_))
  ·refine s_vn [] 1 ⟨[(2,vi 4)],[]⟩ ?_;obtain rfl:=oi hm;exact q_rt q_rm
  ·refine q_sk (s_vv [] 1 [16] [(3,vi 0)] ?_);refine q_sq (s_va 1 [(4,vi 0)] ?_);obtain⟨u22,h21,hm⟩:=qC hm;refine zQ (nd f18 500) 0 (by kernel_rfl) FUEL (λo=>qGf a1 o) (λv st=>RetQ Tryz.prog f18 (GR v) (DG v) .ret st) u22 (q_hl (IF a1 0 0) (qNb E a1 FUEL 0 0 u22 h21)) ?_ ?_
   ·rintro v23 rfl st hr;obtain rfl:=oi hm;exact hr
   ·rintro o20 rfl;replace hm:_=some r:=hm;refine q_sq ?_;obtain⟨v24,h25,hm⟩:=qC hm;refine s_vv [qc 2 [64] 1 (qIN a1.Defects v24 h25)] 1 [] [(7,vi v24)] (s_va 1 [(67,vb (v24 !=0))] ?_);refine q_cq hm (λhm=>?_) (λhm=>?_)
    ·refine s_vn [] 1 ⟨[(2,vi v24)],[]⟩ ?_;obtain rfl:=oi hm;exact q_rt q_rm
    ·refine q_sk (q_sq ?_);refine s_vv [] 1 [7,67] [(8,vi 0)] ?_;obtain⟨u33,h32,hm⟩:=qC hm;refine zQ (nd f18 2036) 2 (by kernel_rfl) FUEL (λo=>qFi) (λv st=>RetQ Tryz.prog f18 (GR v) (DG v) .ret st) u33 (q_hl (OJ a1 o20 0) (qNs E a1 o20 FUEL 0 u33 h32)) ?_ ?_
     ·rintro v34 rfl st hr;obtain rfl:=oi hm;exact hr
     ·rintro o31 rfl;replace hm:_=some r:=hm;refine s_vn [] 1 ⟨[(2,vi 0)],[]⟩ ?_;obtain rfl:=oi hm;exact q_rt q_rm
open Go.Proofs Go.Proofs.Tryz
def qQe (r:Box):V:=va (yC r)
def qQ9 (r:Box):List (Nat×(Nat×O)):=[]
theorem qPi (a1:Box) (r:Box) (hm:qDV a1=some r):CtX Tryz.prog globs 99 0 0 [.agg (yC a1)] [] (qQe r) (qQ9 r):=by
 unfold qDV at hm;refine q_E f99 17 λE=>?_;refine s_vn [] 0 ⟨[(1,vp 0 0),(2,vp 1 0)],[(0,bx 85 (yC a1)),(1,bx 85 [ci 0,ci 0,ci 0,ci 0,ci 0,ci 0])]⟩ (s_vu [] 2 [1] [] [0,1] [(1,bx 85 [ci (w64 (0-a1.Y.B)),ci (w64 (0-a1.Y.A)),ci a1.X.A,ci a1.X.B,ci a1.Z.A,ci a1.Z.B])] ?_);obtain rfl:=oi hm;exact q_rt q_rm
def qW4 (r:(List qH)):V:=vo 0 0 7 r.length
def qXS (r:(List qH)):List (Nat×(Nat×O)):=[(0,ro 0 87 7 r.length (rf qJ r))]
def qA3 (a1:List qH) (a2:Int) (l6:List qH) (x7:Int) (x10:Int) (x11:Int) (x12:Int) (x13:Int) (x14:Int) (x15:Int) (x16:Int):St:=
 ⟨[(0,vc (tl qJ dd a1)),(1,vi a2),(5,vo 0 0 7 l6.length),(6,vi x7),(7,vp 1 0),(8,vi x10)],[(0,ro 0 87 7 l6.length (rf qJ l6)),(1,bx 87 [ci ((a1.getD x7.toNat dd).Kind),ci x11,ci x12,ci x13,ci x14,ci x15,ci x16])]⟩
def qHA (a1:List qH) (a2:Int) (l6:List qH) (x7:Int) (x22:qH):St:=
 ⟨[(0,vc (tl qJ dd a1)),(1,vi a2),(5,vo 0 0 7 l6.length),(6,vi x7),(7,vp 1 0)],[(0,ro 0 87 7 l6.length (rf qJ l6)),(1,bx 87 (qJ x22))]⟩
def qAb (a1:List qH) (a2:Int) (l6:List qH) (l6n:Nat) (x7:Int):St:=
 ⟨[(0,vc (tl qJ dd a1)),(1,vi a2),(5,vo 0 0 7 l6n),(6,vi x7)],[(0,ro 0 87 7 l6n (rf qJ l6))]⟩
def qGA (l26:List qH):St:=
 ⟨[(5,vo 0 0 7 l26.length)],[(0,ro 0 87 7 l26.length (rf qJ l26))]⟩
theorem qPf (E:Env 0) (a1:List qH) (a2:Int) (l6:List qH) (x7:Int):∀(n:Nat) (x10:Int) (x11:Int) (x12:Int) (x13:Int) (x14:Int) (x15:Int) (x16:Int) (res:qH),QZ a1 a2 x7 n x10 x11 x12 x13 x14 x15 x16=some res->HL (kx E 37 0) (nd f48 62612) (zF 2 (λo=>qHA a1 a2 l6 x7 o) res) n (qA3 a1 a2 l6 x7 x10 x11 x12 x13 x14 x15 x16):=by
 intro n
 induction n with
 |zero=>
  intro x10 x11 x12 x13 x14 x15 x16 res hm;cases hm
 |succ n ih=>
  intro x10 x11 x12 x13 x14 x15 x16 res hm;refine qR (q_sq ?_);obtain⟨v17,h18,hm⟩:=qC hm;refine s_vv [qc 2 [23] 2 (qEp a2 v17 h18)] 2 [] [(25,vb (decide (x10<v17)))] (q_cq hm (λhm=>?_) (λhm=>?_))
  ·refine q_sk (q_sq ?_);refine q_bk 3 ?_;obtain⟨v20,h21,hm⟩:=qC hm;refine q_vu [qc 2 [29] 2 (qPi (Box.mk (Span.mk x11 x12) (Span.mk x13 x14) (Span.mk x15 x16)) v20 h21)] 2 [25] [] [1] [(1,bx 87 [ci ((a1.getD x7.toNat dd).Kind),ci v20.X.A,ci v20.X.B,ci v20.Y.A,ci v20.Y.B,ci v20.Z.A,ci v20.Z.B])] (q_vv [] 2 [8] [(8,vi (w64 (x10+1)))] ?_);exact q_hl (qA3 a1 a2 l6 x7 (w64 (x10+1)) v20.X.A v20.X.B v20.Y.A v20.Y.B v20.Z.A v20.Z.B) (ih (w64 (x10+1)) v20.X.A v20.X.B v20.Y.A v20.Y.B v20.Z.A v20.Z.B _ hm)
  ·refine q_ex 2 ?_;obtain rfl:=oi hm;exact q_l0
theorem qPN (E:Env 0) (a1:List qH) (a2:Int):∀(n:Nat) (l6:List qH) (l6n:Nat) (x7:Int) (res:(List qH)),l6.length=l6n->WJ a1 a2 n l6 x7=some res->HL (kx E 37 0) (nd f48 244) (zF 0 qGA res) n (qAb a1 a2 l6 l6n x7):=by
 intro n
 induction n with
 |zero=>
  intro l6 l6n x7 res hl0 hm;cases hm
 |succ n ih=>
  intro l6 l6n x7 res hl0 hm;subst hl0;refine qR (q_sq ?_);refine s_va 1 [(15,vb (decide (x7<(a1.length:Int))))] (q_cq hm (λhm=>?_) (λhm=>?_))
  ·refine q_sk (q_sq ?_);refine q_bk 1 ?_;obtain⟨g9,hm⟩:=qI hm;refine s_vu [qi 2 g9] 1 [15] [(7,vp 1 0)] [] [(1,bx 87 (qJ (a1.getD x7.toNat dd)))] (q_sq ?_);refine s_va 2 [(8,vi 0)] ?_;obtain⟨o23,h24,hm⟩:=qC hm
   refine zB (nd f48 62612) 2 (by kernel_rfl) FUEL (λo=>qHA a1 a2 l6 x7 o) o23 (q_hl (qA3 a1 a2 l6 x7 0 ((((a1.getD x7.toNat dd).Box).X).A) ((((a1.getD x7.toNat dd).Box).X).B) ((((a1.getD x7.toNat dd).Box).Y).A) ((((a1.getD x7.toNat dd).Box).Y).B) ((((a1.getD x7.toNat dd).Box).Z).A) ((((a1.getD x7.toNat dd).Box).Z).B)) (qPf E a1 a2 l6 x7 FUEL 0 ((((a1.getD x7.toNat dd).Box).X).A) ((((a1.getD x7.toNat dd).Box).X).B) ((((a1.getD x7.toNat dd).Box).Y).A) ((((a1.getD x7.toNat dd).Box).Y).B) ((((a1.getD x7.toNat dd).Box).Z).A) ((((a1.getD x7.toNat dd).Box).Z).B) o23 h24)) ?_;obtain⟨g25,hm⟩:=qI hm
   refine q_vu [qd 2 (drw 2 0 (rf qJ [o23])) (litP qJ dd 7 (λ_=>rfl) ([o23]:List qH) 1 rfl),qd 3 (drw 0 1 (rf qJ (l6++[o23]))) (apP qJ dd l6 ([o23]:List qH) l6.length 1 7 56 (1<=1) (kd _) rfl rfl (λ_=>rfl) (zN g25))] 2 [5,7] [(5,vo 0 1 7 (l6.length+1))] [0,1] [(0,ro 1 87 7 (l6.length+1) (rf qJ (l6++[o23])))] (q_vv [] 3 [6] [(6,vi (w64 (x7+1)))] ?_);exact q_hl (qAb a1 a2 (l6++[o23]) (l6.length+1) (w64 (x7+1))) (ih (l6++[o23]) (l6.length+1) (w64 (x7+1)) _ (zH rfl rfl) hm)
  ·refine q_ex 0 ?_;obtain rfl:=oi hm;exact q_l0
theorem qUH (a1:List qH) (a2:Int) (r:(List qH)) (hm:CX a1 a2=some r):CtX Tryz.prog globs 48 0 0 [.one (tl qJ dd a1),.one (ci a2)] [] (qW4 r) (qXS r):=by
 unfold CX at hm;refine q_E f48 37 λE=>?_;refine s_vn [] 0 ⟨[(0,vc (tl qJ dd a1)),(1,vi a2)],[]⟩ (q_sq ?_);obtain⟨v3,h4,hm⟩:=qC hm;refine s_vv [qc 1 [9] 0 (qIN a1 v3 h4)] 0 [] [(11,vb (v3 !=0))] (q_cq hm (λhm=>?_) (λhm=>?_))
 ·refine s_vn [] 0 ⟨[(4,vc (.emp))],[]⟩ (q_fn [.own 4 0 87 7 (rf qJ [])] ⟨[(4,vo 0 0 7 0)],[(0,ro 0 87 7 0 (rf qJ []))]⟩ o0 ?_);refine q_fn [.len 0 (([]:List qH).length)] ⟨[(4,vo 0 0 7 (([]:List qH).length))],[(0,ro 0 87 7 (([]:List qH).length) (rf qJ []))]⟩ (o1 (And.intro (show 0=([]:List qH).length from rfl) (show 0=([]:List qH).length from rfl))) ?_;obtain rfl:=oi hm;exact q_rt q_rm
 ·refine q_sk (s_vv [] 0 [11] [(5,vc (.emp))] ?_);refine q_sq (s_va 0 [(6,vi 0)] ?_);refine q_fo 5 0 87 7 qJ ?_;obtain⟨o27,h28,hm⟩:=qC hm;refine zB (nd f48 244) 0 (by kernel_rfl) FUEL qGA o27 (q_hl (qAb a1 a2 ([]:List qH) 0 0) (qPN E a1 a2 FUEL ([]:List qH) 0 0 o27 rfl h28)) (s_vv [] 1 [5] [(4,vo 0 0 7 o27.length)] ?_);obtain rfl:=oi hm;exact q_rt q_rm
end Saw
end Go.SL

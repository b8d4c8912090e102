import Derived.Test.YtigmogcdifllhaaGreatDoorEBase
import Derived.Test.YtigmogcdifllhaaGreatDoorEFa12
set_option linter.unusedVariables false
set_option linter.unusedSimpArgs false
namespace Go.SL
namespace Saw
open Go.Proofs Go.Proofs.Tryz
set_option maxHeartbeats 4000000
set_option maxRecDepth 100000
def qVH (r:qI×Int):V:= .tup [.agg [ci r.1.Quarters,ci r.1.Pattern.Frame.X.A,ci r.1.Pattern.Frame.X.B,ci r.1.Pattern.Frame.Y.A,ci r.1.Pattern.Frame.Y.B,tl qL dd r.1.Pattern.Nodes,ci r.1.Value],.one (ci r.2)]
def qVa (r:qI×Int):List (Nat×(Nat×O)):=[]
def qD6 (v7:(List qI)×Int) (x12:Int):St:=
 ⟨[(12,vp 3 0),(16,vp 5 0),(37,vc (.sub 4 0 7 ((1:Int).toNat) (v7.1.length-(1:Int).toNat))),(38,vi (((v7.1.length-(1:Int).toNat):Nat):Int)),(39,vi x12)],[(3,bx 60 [ci 0,ci 0,ci 0,ci 0,ci 0,.emp,ci 0]),(4,ro 0 60 7 v7.1.length (rf zB v7.1))]⟩
def qF2 (v7:(List qI)×Int) (x12:Int) (x18:Int) (x19:Int) (x20:Int) (x21:Int) (x22:Int) (l23:List Node) (x24:Int):St:=
 (qD6 v7 x12).up [] [] [] [(5,bx 60 [ci x18,ci x19,ci x20,ci x21,ci x22,tl qL dd l23,ci x24])]
def qAK (v7:(List qI)×Int) (x12:Int) (x13:qI):St:=
 (qD6 v7 x12).up [] [] [] [(5,bx 60 (zB x13))]
def qFU (x25:Int) (x26:Int) (x27:Int) (x28:Int) (x29:Int) (l30:List Node) (x31:Int):St:=
 ⟨[(12,vp 3 0),(16,vp 5 0)],[(3,bx 60 [ci 0,ci 0,ci 0,ci 0,ci 0,.emp,ci 0]),(5,bx 60 [ci x25,ci x26,ci x27,ci x28,ci x29,tl qL dd l30,ci x31])]⟩
theorem qMO (E:Env 0) (v7:(List qI)×Int):∀(n:Nat) (x12:Int) (x13:qI) (res:Int×Int×Int×Int×Int×(List Node)×Int),JN v7 n x12 x13=some res->HL (kx E 51 0) (nd f20 500) (zL 0 (λo=>qFU o.1 o.2.1 o.2.2.1 o.2.2.2.1 o.2.2.2.2.1 o.2.2.2.2.2.1 o.2.2.2.2.2.2) res) n (qAK v7 x12 x13):=by
 intro n
 induction n with
 |zero=>
  intro x12 x13 res hm;cases hm
 |succ n ih=>
  intro x12 x13 res hm;refine qS (s_va 6 [(40,vb (decide (x12<(((v7.1.length-(1:Int).toNat):Nat):Int))))] ?_);refine q_sq (q_cq hm (λhm=>?_) (λhm=>?_))
  ·refine q_sk (q_jn (ι:=Int×Int×Int×Int×Int×(List Node)×Int) (λp=>qF2 v7 x12 p.1 p.2.1 p.2.2.1 p.2.2.2.1 p.2.2.2.2.1 p.2.2.2.2.2.1 p.2.2.2.2.2.2) (λp=>qDs x12 (JN v7 n) p.1 p.2.1 p.2.2.1 p.2.2.2.1 p.2.2.2.2.1 p.2.2.2.2.2.1 p.2.2.2.2.2.2=some res) ?_ ?_)
   ·rintro⟨x18,x19,x20,x21,x22,l23,x24⟩ hm;show H _ (qF2 v7 x12 x18 x19 x20 x21 x22 l23 x24) _ _;exact q_vv [] 7 [39] [(39,vi (w64 (x12+1)))] (q_hl (qAK v7 (w64 (x12+1)) (qI.mk x18 (Pattern.mk (Rect.mk (Span.mk x19 x20) (Span.mk x21 x22)) l23) x24)) (ih (w64 (x12+1)) (qI.mk x18 (Pattern.mk (Rect.mk (Span.mk x19 x20) (Span.mk x21 x22)) l23) x24) _ hm))
   ·refine q_bk 1 ?_;obtain⟨g15,hm⟩:=qJ hm;obtain⟨g16,hm⟩:=qJ hm;refine s_vu [qi 0 g15,qd 1 dN (uh (uP (qW (zC g15)) ((1:Int).toNat)) (kK g16))] 6 [40] [(18,vp 6 0)] [] [(6,bx 60 (zB (v7.1.getD (((1:Int).toNat)+x12.toNat) dd)))] (s_va 7 [(47,vb (decide (((v7.1.getD (((1:Int).toNat)+x12.toNat) dd).Value)>x13.Value)))] ?_);refine q_cq hm (λhm=>?_) (λhm=>?_)
    ·exact q_vu [] 7 [18,47] [] [5,6] [(5,bx 60 (zB (v7.1.getD (((1:Int).toNat)+x12.toNat) dd)))] (q_J ((v7.1.getD (((1:Int).toNat)+x12.toNat) dd).Quarters,((((v7.1.getD (((1:Int).toNat)+x12.toNat) dd).Pattern).Frame).X).A,((((v7.1.getD (((1:Int).toNat)+x12.toNat) dd).Pattern).Frame).X).B,((((v7.1.getD (((1:Int).toNat)+x12.toNat) dd).Pattern).Frame).Y).A,((((v7.1.getD (((1:Int).toNat)+x12.toNat) dd).Pattern).Frame).Y).B,((v7.1.getD (((1:Int).toNat)+x12.toNat) dd).Pattern).Nodes,(v7.1.getD (((1:Int).toNat)+x12.toNat) dd).Value) hm)
    ·exact q_sk (q_J (x13.Quarters,x13.Pattern.Frame.X.A,x13.Pattern.Frame.X.B,x13.Pattern.Frame.Y.A,x13.Pattern.Frame.Y.B,x13.Pattern.Nodes,x13.Value) hm)
  ·refine q_ex 0 ?_;obtain rfl:=oi hm;exact q_l0
theorem AX (a1:Scan) (a2:List qE) (a3:Saw) (a4:Rates) (a5:Int) (a6:Int) (r:qI×Int) (hm:yY a1 a2 a3 a4 a5 a6=some r):CtX Tryz.prog globs 20 0 0 [.agg (wE a1),.one (tl qP dd a2),.agg (jY a3),.agg (wC a4),.one (ci a5),.one (ci a6)] [] (qVH r) (qVa r):=by
 unfold yY at hm;refine q_E f20 51 λE=>?_;refine s_vn [] 0 ⟨[(1,vc (tl qP dd a2)),(4,vi a5),(5,vi a6),(6,vp 0 0),(8,vp 1 0),(9,vp 2 0),(12,vp 3 0)],[(0,bx 25 (wE a1)),(1,bx 39 (jY a3)),(2,bx 41 (wC a4)),(3,bx 60 [ci 0,ci 0,ci 0,ci 0,ci 0,.emp,ci 0])]⟩ ?_;obtain⟨v7,h8,hm⟩:=qC hm;refine s_vu [qc 6 [20,21,22,23,24,25] 4 (qAa a1 a2 a3 a4 a5 a6 v7 h8)] 4 [1,4,5,6,8,9] [(14,vo 4 0 7 v7.1.length),(15,vi v7.2)] [0,1,2] [(4,ro 0 60 7 v7.1.length (rf zB v7.1))] (q_sq ?_);refine s_va 5 [(30,vb (v7.2 !=0))] (q_cq hm (λhm=>?_) (λhm=>?_))
 ·refine s_vu [] 5 [14,15,30] [(13,vi v7.2)] [4] [] (q_fu [.ownB 3 5 5 156 2 (rf qL [])] [] [] [3] [(3,bx 60 [ci 0,ci 0,ci 0,ci 0,ci 0,.own 5 0 2 0,ci 0]),(5,ro 0 156 2 0 (rf qL []))] o0 ?_);refine q_fu [.len 5 (([]:List Node).length),.frz 5] [] [] [3,5] [(3,bx 60 [ci 0,ci 0,ci 0,ci 0,ci 0,tl qL dd ([]:List Node),ci 0])] (o1 (And.intro (And.intro (show 0=([]:List Node).length from rfl) (show 0=([]:List Node).length from rfl)) (ke (([]:List Node).length)))) ?_;obtain rfl:=oi hm;exact q_rt q_rm
 ·refine q_sk ?_;obtain⟨g10,hm⟩:=qJ hm;refine s_vu [qi 1 g10,qd 2 dN (qW (zC g10))] 5 [15,30] [(16,vp 5 0)] [] [(5,bx 60 (zB (v7.1.getD ((0:Int).toNat) dd)))] (q_sq ?_);obtain⟨g11,hm⟩:=qJ hm;refine s_vv [qd 1 dN (And.intro (zU g11).1 (zU g11).2.1)] 6 [14] [(37,vc (.sub 4 0 7 ((1:Int).toNat) (v7.1.length-(1:Int).toNat))),(38,vi (((v7.1.length-(1:Int).toNat):Nat):Int)),(39,vi 0)] ?_;obtain⟨o32,h33,hm⟩:=qC hm
  refine zG (nd f20 500) 0 (by kernel_rfl) FUEL (λo=>qFU o.1 o.2.1 o.2.2.1 o.2.2.2.1 o.2.2.2.2.1 o.2.2.2.2.2.1 o.2.2.2.2.2.2) o32 (q_hl (qAK v7 0 (v7.1.getD ((0:Int).toNat) dd)) (qMO E v7 FUEL 0 (v7.1.getD ((0:Int).toNat) dd) o32 h33)) (s_vu [] 6 [16] [(13,vi 0)] [3,5] [(3,bx 60 [ci o32.1,ci o32.2.1,ci o32.2.2.1,ci o32.2.2.2.1,ci o32.2.2.2.2.1,tl qL dd o32.2.2.2.2.2.1,ci o32.2.2.2.2.2.2])] ?_);obtain rfl:=oi hm;exact q_rt q_rm
def qT1 (r:Bool):V:=vb r
def qUD (r:Bool):List (Nat×(Nat×O)):=[]
def qPa (x5:Bool):St:=
 ⟨[(6,vb x5)],[]⟩
theorem wN (a1:Int) (a2:Int) (a3:Int) (r:Bool) (hm:WQ a1 a2 a3=some r):CtX Tryz.prog globs 52 0 0 [.one (ci a1),.one (ci a2),.one (ci a3)] [] (qT1 r) (qUD r):=by
 unfold WQ at hm;refine q_E f52 15 λE=>?_;refine s_vn [] 0 ⟨[(0,vi a1),(1,vi a2),(2,vi a3)],[]⟩ (q_jn (qPa) (λp=>qDr p=some r) ?_ ?_)
 ·rintro x5 hm;obtain rfl:=oi hm;exact q_rt q_rm
 ·rcases bif_c hm with⟨b4,hm⟩|⟨b4,hm⟩
  ·exact q_vn [qf 3 b4] 0 ⟨[(6,vb (decide (a1<=a3)))],[]⟩ (q_J (decide (a1<=a3)) hm)
  ·exact q_vn [qf 3 b4] 0 ⟨[(6,vb false)],[]⟩ (q_J (false) hm)
def qSC (r:Int):V:=vi r
def qTh (r:Int):List (Nat×(Nat×O)):=[]
def qOc (x24:Bool):St:=
 ⟨[(42,vb x24)],[]⟩
def qNo (a2:Rates) (x14:Bool):St:=
 ⟨[(3,vp 1 0),(26,vb x14)],[(1,bx 41 (wC a2))]⟩
theorem qBG (a1:Saw) (a2:Rates) (r:Int) (hm:AQ a1 a2=some r):CtX Tryz.prog globs 29 0 0 [.agg (jY a1),.agg (wC a2)] [] (qSC r) (qTh r):=by
 unfold AQ at hm;refine q_E f29 43 λE=>?_;refine s_vn [] 0 ⟨[(2,vp 0 0),(3,vp 1 0)],[(0,bx 39 (jY a1)),(1,bx 41 (wC a2))]⟩ (q_sq ?_);refine q_jn (qNo a2) (λp=>PM a2 p=some r) ?_ ?_
 ·rintro x14 hm;refine q_cq hm (λhm=>?_) (λhm=>?_)
  ·refine s_vn [] 2 ⟨[(4,vi 9)],[]⟩ ?_;obtain rfl:=oi hm;exact q_rt q_rm
  ·refine q_sk (q_sq ?_);refine q_jn (qOc) (λp=>VT p=some r) ?_ ?_
   ·rintro x24 hm;refine q_cq hm (λhm=>?_) (λhm=>?_)
    ·refine s_vn [] 2 ⟨[(4,vi 9)],[]⟩ ?_;obtain rfl:=oi hm;exact q_rt q_rm
    ·refine q_sk (s_vn [] 2 ⟨[(4,vi 0)],[]⟩ ?_);obtain rfl:=oi hm;exact q_rt q_rm
   ·obtain⟨v16,h17,hm⟩:=qC hm;rcases bif_c hm with⟨b18,hm⟩|⟨b18,hm⟩
    ·exact q_vn [qk 2 [28] 2 ⟨[(28,vi a2.Chip)],[]⟩ (wN a2.Chip 0 1000 v16 h17),qf 4 b18] 2 ⟨[(42,vb true)],[]⟩ (q_J (true) hm)
    ·obtain⟨v19,h20,hm⟩:=qC hm;rcases bif_c hm with⟨b21,hm⟩|⟨b21,hm⟩
     ·exact q_vn [qk 2 [28] 2 ⟨[(28,vi a2.Chip)],[]⟩ (wN a2.Chip 0 1000 v16 h17),qf 4 b18,qk 7 [31,33] 2 ⟨[(31,vb false),(33,vi a2.Dust)],[]⟩ (wN a2.Dust 0 1000 v19 h20),qf 10 b21] 2 ⟨[(42,vb true)],[]⟩ (q_J (true) hm)
     ·obtain⟨v22,h23,hm⟩:=qC hm;exact q_vn [qk 2 [28] 2 ⟨[(28,vi a2.Chip)],[]⟩ (wN a2.Chip 0 1000 v16 h17),qf 4 b18,qk 7 [31,33] 2 ⟨[(31,vb false),(33,vi a2.Dust)],[]⟩ (wN a2.Dust 0 1000 v19 h20),qf 10 b21,qk 13 [37,39] 2 ⟨[(37,vb false),(39,vi a2.Fine)],[]⟩ (wN a2.Fine 0 1000000 v22 h23)] 2 ⟨[(42,vb (!v22))],[]⟩ (q_J (!v22) hm)
 ·obtain⟨v3,h4,hm⟩:=qC hm;rcases bif_c hm with⟨b5,hm⟩|⟨b5,hm⟩
  ·exact q_vu [qk 2 [6] 2 ⟨[(6,vi a1.Kerf)],[]⟩ (wN a1.Kerf 0 20 v3 h4),qf 4 b5] 2 [2] [(26,vb true)] [0] [] (q_J (true) hm)
  ·obtain⟨v6,h7,hm⟩:=qC hm;rcases bif_c hm with⟨b8,hm⟩|⟨b8,hm⟩
   ·exact q_vu [qk 2 [6] 2 ⟨[(6,vi a1.Kerf)],[]⟩ (wN a1.Kerf 0 20 v3 h4),qf 4 b5,qk 7 [9,11] 2 ⟨[(9,vb false),(11,vi a1.Trim)],[]⟩ (wN a1.Trim 0 20 v6 h7),qf 10 b8] 2 [2] [(26,vb true)] [0] [] (q_J (true) hm)
   ·obtain⟨v9,h10,hm⟩:=qC hm;rcases bif_c hm with⟨b11,hm⟩|⟨b11,hm⟩
    ·exact q_vu [qk 2 [6] 2 ⟨[(6,vi a1.Kerf)],[]⟩ (wN a1.Kerf 0 20 v3 h4),qf 4 b5,qk 7 [9,11] 2 ⟨[(9,vb false),(11,vi a1.Trim)],[]⟩ (wN a1.Trim 0 20 v6 h7),qf 10 b8,qk 13 [15,17] 2 ⟨[(15,vb false),(17,vi a1.Pitch)],[]⟩ (wN a1.Pitch 1 2000 v9 h10),qf 16 b11] 2 [2] [(26,vb true)] [0] [] (q_J (true) hm)
    ·obtain⟨v12,h13,hm⟩:=qC hm;exact q_vu [qk 2 [6] 2 ⟨[(6,vi a1.Kerf)],[]⟩ (wN a1.Kerf 0 20 v3 h4),qf 4 b5,qk 7 [9,11] 2 ⟨[(9,vb false),(11,vi a1.Trim)],[]⟩ (wN a1.Trim 0 20 v6 h7),qf 10 b8,qk 13 [15,17] 2 ⟨[(15,vb false),(17,vi a1.Pitch)],[]⟩ (wN a1.Pitch 1 2000 v9 h10),qf 16 b11,qk 19 [21,23] 2 ⟨[(21,vb false),(23,vi a1.Step)],[]⟩ (wN a1.Step 1 20000 v12 h13)] 2 [2] [(26,vb (!v12))] [0] [] (q_J (!v12) hm)
open Go.Proofs Go.Proofs.Tryz
def HO (r:Bool):V:=vb r
def PK (r:Bool):List (Nat×(Nat×O)):=[]
theorem qRC (r:Bool):ZE (PK r):=by
 intro i k o h;unfold PK at h;cases h
def qLP (a1:List qA) (x2:Int) (x8:Bool):St:=
 ⟨[(0,vc (tl qF dd a1)),(3,vi x2),(39,vb x8)],[]⟩
def EG (a1:List qA) (x2:Int):St:=
 ⟨[(0,vc (tl qF dd a1)),(3,vi x2)],[]⟩
def qDY :St:=
 ⟨[],[]⟩
theorem qJ7 (E:Env 0) (a1:List qA):∀(n:Nat) (x2:Int) (res:Bool⊕Unit),jC a1 n x2=some res->HL (kx E 40 0) (nd f72 52) (wL 0 (λo=>qDY) (λv st=>RetQ Tryz.prog f72 (HO v) (PK v) .ret st) res) n (EG a1 x2):=by
 intro n
 induction n with
 |zero=>
  intro x2 res hm;cases hm
 |succ n ih=>
  intro x2 res hm;refine qS (q_sq ?_);refine s_va 0 [(7,vb (decide (x2<(a1.length:Int))))] (q_cq hm (λhm=>?_) (λhm=>?_))
  ·refine q_sk (q_sq ?_);refine q_bk 1 (q_jn (qLP a1 x2) (λp=>WN x2 (jC a1 n) p=some res) ?_ ?_)
   ·rintro x8 hm;refine q_cq hm (λhm=>?_) (λhm=>?_)
    ·refine s_vn [] 0 ⟨[(2,vb false)],[]⟩ ?_;obtain rfl:=oi hm;refine q_rt (zJ false ?_);exact q_rm
    ·refine q_sk (q_vv [] 0 [3,39] [(3,vi (w64 (x2+1)))] ?_);exact q_hl (EG a1 (w64 (x2+1))) (ih (w64 (x2+1)) _ hm)
   ·obtain⟨g4,hm⟩:=qJ hm;rcases bif_c hm with⟨b5,hm⟩|⟨b5,hm⟩
    ·exact q_vv [qi 2 g4,qf 6 b5] 0 [7] [(39,vb true)] (q_J (true) hm)
    ·rcases bif_c hm with⟨b6,hm⟩|⟨b6,hm⟩
     ·exact q_vv [qi 2 g4,qf 6 b5,qi 9 g4,qf 14 b6] 0 [7] [(39,vb true)] (q_J (true) hm)
     ·rcases bif_c hm with⟨b7,hm⟩|⟨b7,hm⟩
      ·exact q_vv [qi 2 g4,qf 6 b5,qi 9 g4,qf 14 b6,qi 17 g4,qf 22 b7] 0 [7] [(39,vb true)] (q_J (true) hm)
      ·exact q_vv [qi 2 g4,qf 6 b5,qi 9 g4,qf 14 b6,qi 17 g4,qf 22 b7,qi 25 g4] 0 [7] [(39,vb (decide (((a1.getD x2.toNat dd).Y)>600)))] (q_J (decide (((a1.getD x2.toNat dd).Y)>600)) hm)
  ·refine q_ex 0 ?_;obtain rfl:=oi hm;exact q_l1 ()
theorem qPi (a1:List qA) (r:Bool) (hm:ZT a1=some r):CtX Tryz.prog globs 72 0 0 [.one (tl qF dd a1)] [] (HO r) (PK r):=by
 unfold ZT at hm;refine q_E f72 40 λE=>?_;refine s_vn [] 0 ⟨[(0,vc (tl qF dd a1))],[]⟩ (q_sq ?_);refine s_va 0 [(3,vi 0)] ?_;obtain⟨u12,h11,hm⟩:=qC hm;refine zO (nd f72 52) 0 (by kernel_rfl) FUEL (λo=>qDY) (λv st=>RetQ Tryz.prog f72 (HO v) (PK v) .ret st) u12 (q_hl (EG a1 0) (qJ7 E a1 FUEL 0 u12 h11)) ?_ ?_
 ·rintro v13 rfl st hr;obtain rfl:=oi hm;exact hr
 ·rintro o10 rfl;replace hm:_=some r:=hm;refine s_vn [] 0 ⟨[(2,vb true)],[]⟩ ?_;obtain rfl:=oi hm;exact q_rt q_rm
def qDG (r:Int):V:=vi r
def qDo (r:Int):List (Nat×(Nat×O)):=[]
def qNx (a1:Ring) (x7:Int) (x16:Bool):St:=
 ⟨[(1,vp 0 0),(3,vi x7),(53,vb x16)],[(0,bx 71 (qX a1))]⟩
def qMR (a1:Ring) (x7:Int) (x13:Bool):St:=
 ⟨[(1,vp 0 0),(3,vi x7),(4,vp 1 0),(44,vb x13)],[(0,bx 71 (qX a1)),(1,bx 95 (qV (a1.Read.getD x7.toNat dd)))]⟩
def OE (a1:Ring) (x7:Int):St:=
 ⟨[(1,vp 0 0),(3,vi x7)],[(0,bx 71 (qX a1))]⟩
def qFA :St:=
 ⟨[],[]⟩
def qNs (a1:Ring) (x5:Bool):St:=
 ⟨[(1,vp 0 0),(15,vb x5)],[(0,bx 71 (qX a1))]⟩
theorem qL4 (E:Env 0) (a1:Ring):∀(n:Nat) (x7:Int) (res:Int⊕Unit),ZD a1 n x7=some res->HL (kx E 54 0) (nd f35 116) (wL 1 (λo=>qFA) (λv st=>RetQ Tryz.prog f35 (qDG v) (qDo v) .ret st) res) n (OE a1 x7):=by
 intro n
 induction n with
 |zero=>
  intro x7 res hm;cases hm
 |succ n ih=>
  intro x7 res hm;refine qS (q_sq ?_);refine s_va 1 [(28,vb (decide (x7<(a1.Read.length:Int))))] (q_cq hm (λhm=>?_) (λhm=>?_))
  ·refine q_sk (q_sq ?_);refine q_bk 2 ?_;obtain⟨g9,hm⟩:=qJ hm;refine s_vu [qi 3 g9] 1 [28] [(4,vp 1 0)] [] [(1,bx 95 (qV (a1.Read.getD x7.toNat dd)))] (q_sq ?_);refine q_jn (qMR a1 x7) (λp=>SH a1 x7 (ZD a1 n) p=some res) ?_ ?_
   ·rintro x13 hm;refine q_cq hm (λhm=>?_) (λhm=>?_)
    ·refine s_vn [] 3 ⟨[(2,vi 9)],[]⟩ ?_;obtain rfl:=oi hm;refine q_rt (zJ 9 ?_);exact q_rm
    ·refine q_sk (q_jn (qNx a1 x7) (λp=>HR x7 (ZD a1 n) p=some res) ?_ ?_)
     ·rintro x16 hm;refine q_cq hm (λhm=>?_) (λhm=>?_)
      ·refine s_vn [] 3 ⟨[(2,vi 19)],[]⟩ ?_;obtain rfl:=oi hm;refine q_rt (zJ 19 ?_);exact q_rm
      ·refine q_sk (q_vv [] 3 [3,53] [(3,vi (w64 (x7+1)))] ?_);exact q_hl (OE a1 (w64 (x7+1))) (ih (w64 (x7+1)) _ hm)
     ·rcases bif_c hm with⟨b15,hm⟩|⟨b15,hm⟩
      ·exact q_vu [qf 3 b15] 3 [4,44] [(53,vb (!(((((a1.Read.getD x7.toNat dd).P).X)==0)&&(((((a1.Read.getD x7.toNat dd).P).Y)==0)&&true))))] [1] [] (q_J (!(((((a1.Read.getD x7.toNat dd).P).X)==0)&&(((((a1.Read.getD x7.toNat dd).P).Y)==0)&&true))) hm)
      ·exact q_vu [qf 3 b15] 3 [4,44] [(53,vb false)] [1] [] (q_J (false) hm)
   ·rcases bif_c hm with⟨b10,hm⟩|⟨b10,hm⟩
    ·obtain⟨v11,h12,hm⟩:=qC hm
     exact q_vv [qf 2 b10,qd 5 (drw 2 0 (rf qF [(a1.Read.getD x7.toNat dd).P])) (litP qF dd 2 (λ_=>rfl) ([(a1.Read.getD x7.toNat dd).P]:List qA) 1 rfl),qd 6 (dex (cen [] [] 3 0 (HO v11) (PK v11) [38,41] [2])) (wK (K:=(kx E 54 0)) (xs':=[.one (.lst 1 (rf qF [(a1.Read.getD x7.toNat dd).P]))]) (b:=false) ⟨[(38,vb true),(41,vo 2 0 2 1)],[(2,ro 0 93 2 1 (rf qF [(a1.Read.getD x7.toNat dd).P]))]⟩ (opAt (rg f35 7460) 6) [] [] 3 (o1 (ke 1)) (by simp only[tl,rf,show([(a1.Read.getD x7.toNat dd).P]:List qA).length=1 from rfl]) (qPi ([(a1.Read.getD x7.toNat dd).P]:List qA) v11 h12) (.inr ⟨(by kernel_rfl),qRC v11⟩) (by kernel_rfl))] 2 [] [(44,vb (!v11))] (q_J (!v11) hm)
    ·exact q_vv [qf 2 b10] 2 [] [(44,vb false)] (q_J (false) hm)
  ·refine q_ex 1 ?_;obtain rfl:=oi hm;exact q_l1 ()
theorem qQ3 (a1:Ring) (r:Int) (hm:VF a1=some r):CtX Tryz.prog globs 35 0 0 [.agg (qX a1)] [] (qDG r) (qDo r):=by
 unfold VF at hm;refine q_E f35 54 λE=>?_;refine s_vn [] 0 ⟨[(1,vp 0 0)],[(0,bx 71 (qX a1))]⟩ (q_sq ?_);refine q_bk 0 (s_va 1 [(5,vb (decide ((a1.Read.length:Int)<8)))] ?_);refine q_cq hm (λhm=>?_) (λhm=>?_)
 ·refine s_vn [] 1 ⟨[(2,vi 3)],[]⟩ ?_;obtain rfl:=oi hm;exact q_rt q_rm
 ·refine s_vv [] 1 [5] [(10,vb (decide ((a1.Read.length:Int)>32)))] (q_cq hm (λhm=>?_) (λhm=>?_))
  ·refine s_vn [] 1 ⟨[(2,vi 4)],[]⟩ ?_;obtain rfl:=oi hm;exact q_rt q_rm
  ·refine q_jn (qNs a1) (λp=>SW a1 p=some r) ?_ ?_
   ·rintro x5 hm;refine q_cq hm (λhm=>?_) (λhm=>?_)
    ·refine s_vn [] 1 ⟨[(2,vi 9)],[]⟩ ?_;obtain rfl:=oi hm;exact q_rt q_rm
    ·refine q_sk (q_sq ?_);refine s_vv [] 1 [15] [(3,vi 0)] ?_;obtain⟨u20,h19,hm⟩:=qC hm;refine zO (nd f35 116) 1 (by kernel_rfl) FUEL (λo=>qFA) (λv st=>RetQ Tryz.prog f35 (qDG v) (qDo v) .ret st) u20 (q_hl (OE a1 0) (qL4 E a1 FUEL 0 u20 h19)) ?_ ?_
     ·rintro v21 rfl st hr;obtain rfl:=oi hm;exact hr
     ·rintro o18 rfl;replace hm:_=some r:=hm;refine s_vn [] 1 ⟨[(2,vi 0)],[]⟩ ?_;obtain rfl:=oi hm;exact q_rt q_rm
   ·rcases bif_c hm with⟨b4,hm⟩|⟨b4,hm⟩
    ·exact q_vv [qf 3 b4] 1 [10] [(15,vb true)] (q_J (true) hm)
    ·exact q_vv [qf 3 b4] 1 [10] [(15,vb (decide (a1.Z>20000)))] (q_J (decide (a1.Z>20000)) hm)
def qSK (r:Bool):V:=vb r
def qSq (r:Bool):List (Nat×(Nat×O)):=[]
def qNK (x4:Bool):St:=
 ⟨[(2,vb x4)],[]⟩
theorem qQR (a1:Box) (r:Bool) (hm:AN a1=some r):CtX Tryz.prog globs 73 0 0 [.agg (ZJ a1)] [] (qSK r) (qSq r):=by
 unfold AN at hm;refine q_E f73 28 λE=>?_;refine s_vn [] 0 ⟨[(1,vp 0 0)],[(0,bx 85 (ZJ a1))]⟩ (q_jn (qNK) (λp=>GR p=some r) ?_ ?_)
 ·rintro x4 hm;obtain rfl:=oi hm;exact q_rt q_rm
 ·rcases bif_c hm with⟨b2,hm⟩|⟨b2,hm⟩
  ·exact q_vn [qf 7 b2] 1 ⟨[(2,vb true)],[]⟩ (q_J (true) hm)
  ·rcases bif_c hm with⟨b3,hm⟩|⟨b3,hm⟩
   ·exact q_vn [qf 7 b2,qf 16 b3] 1 ⟨[(2,vb true)],[]⟩ (q_J (true) hm)
   ·exact q_vn [qf 7 b2,qf 16 b3] 1 ⟨[(2,vb (decide (a1.Z.A≥a1.Z.B)))],[]⟩ (q_J (decide (a1.Z.A≥a1.Z.B)) hm)
open Go.Proofs Go.Proofs.Tryz
def qXC (r:Bool):V:=vb r
def qXq (r:Bool):List (Nat×(Nat×O)):=[]
def qTd (x5:Bool):St:=
 ⟨[(6,vb x5)],[]⟩
theorem NV (a1:Span) (a2:Int) (a3:Int) (r:Bool) (hm:OT a1 a2 a3=some r):CtX Tryz.prog globs 140 0 0 [.agg (qK a1),.one (ci a2),.one (ci a3)] [] (qXC r) (qXq r):=by
 unfold OT at hm;refine q_E f140 17 λE=>?_;refine s_vn [] 0 ⟨[(1,vi a2),(2,vi a3),(3,vp 0 0)],[(0,bx 53 (qK a1))]⟩ (q_jn (qTd) (λp=>qCv p=some r) ?_ ?_)
 ·rintro x5 hm;obtain rfl:=oi hm;exact q_rt q_rm
 ·rcases bif_c hm with⟨b4,hm⟩|⟨b4,hm⟩
  ·exact q_vn [qf 4 b4] 1 ⟨[(6,vb (decide (a1.B<=a3)))],[]⟩ (q_J (decide (a1.B<=a3)) hm)
  ·exact q_vn [qf 4 b4] 1 ⟨[(6,vb false)],[]⟩ (q_J (false) hm)
def qQS (r:Bool):V:=vb r
def qQA (r:Bool):List (Nat×(Nat×O)):=[]
def qLx (x10:Bool):St:=
 ⟨[(2,vb x10)],[]⟩
theorem qPH (a1:Box) (r:Bool) (hm:LL a1=some r):CtX Tryz.prog globs 74 0 0 [.agg (ZJ a1)] [] (qQS r) (qQA r):=by
 unfold LL at hm;refine q_E f74 16 λE=>?_;refine s_vn [] 0 ⟨[(1,vp 0 0)],[(0,bx 85 (ZJ a1))]⟩ (q_jn (qLx) (λp=>TU p=some r) ?_ ?_)
 ·rintro x10 hm;obtain rfl:=oi hm;exact q_rt q_rm
 ·obtain⟨v2,h3,hm⟩:=qC hm;rcases bif_c hm with⟨b4,hm⟩|⟨b4,hm⟩
  ·obtain⟨v5,h6,hm⟩:=qC hm;rcases bif_c hm with⟨b7,hm⟩|⟨b7,hm⟩
   ·obtain⟨v8,h9,hm⟩:=qC hm;exact q_vn [qk 2 [4] 1 ⟨[(4,va (qK a1.X))],[]⟩ (NV a1.X (-600) 600 v2 h3),qf 3 b4,qk 6 [6,8] 1 ⟨[(6,vb true),(8,va (qK a1.Y))],[]⟩ (NV a1.Y (-600) 600 v5 h6),qf 8 b7,qk 11 [11,13] 1 ⟨[(11,vb true),(13,va (qK a1.Z))],[]⟩ (NV a1.Z 0 20000 v8 h9)] 1 ⟨[(2,vb v8)],[]⟩ (q_J (v8) hm)
   ·exact q_vn [qk 2 [4] 1 ⟨[(4,va (qK a1.X))],[]⟩ (NV a1.X (-600) 600 v2 h3),qf 3 b4,qk 6 [6,8] 1 ⟨[(6,vb true),(8,va (qK a1.Y))],[]⟩ (NV a1.Y (-600) 600 v5 h6),qf 8 b7] 1 ⟨[(2,vb false)],[]⟩ (q_J (false) hm)
  ·exact q_vn [qk 2 [4] 1 ⟨[(4,va (qK a1.X))],[]⟩ (NV a1.X (-600) 600 v2 h3),qf 3 b4] 1 ⟨[(2,vb false)],[]⟩ (q_J (false) hm)
def qDw (r:Int):V:=vi r
def qDj (r:Int):List (Nat×(Nat×O)):=[]
def qNB (a1:List qG) (x3:Int) (x7:Bool):St:=
 ⟨[(0,vc (tl qM dd a1)),(3,vi x3),(13,vb x7)],[]⟩
def CB (a1:List qG) (x3:Int):St:=
 ⟨[(0,vc (tl qM dd a1)),(3,vi x3)],[]⟩
def qEE :St:=
 ⟨[],[]⟩
theorem qL9 (E:Env 0) (a1:List qG):∀(n:Nat) (x3:Int) (res:Int⊕Unit),QZ a1 n x3=some res->HL (kx E 43 0) (nd f36 116) (wL 0 (λo=>qEE) (λv st=>RetQ Tryz.prog f36 (qDw v) (qDj v) .ret st) res) n (CB a1 x3):=by
 intro n
 induction n with
 |zero=>
  intro x3 res hm;cases hm
 |succ n ih=>
  intro x3 res hm;refine qS (q_sq ?_);refine s_va 0 [(10,vb (decide (x3<(a1.length:Int))))] (q_cq hm (λhm=>?_) (λhm=>?_))
  ·refine q_sk (q_sq ?_);refine q_bk 1 (q_bk 2 ?_);refine q_jn (qNB a1 x3) (λp=>SB a1 x3 (QZ a1 n) p=some res) ?_ ?_
   ·rintro x7 hm;refine q_cq hm (λhm=>?_) (λhm=>?_)
    ·refine s_vn [] 0 ⟨[(2,vi 10)],[]⟩ ?_;obtain rfl:=oi hm;refine q_rt (zJ 10 ?_);exact q_rm
    ·obtain⟨g9,hm⟩:=qJ hm;obtain⟨v10,h11,hm⟩:=qC hm;refine s_vv [qi 2 g9,qc 5 [33] 0 (qQR ((a1.getD x3.toNat dd).Box) v10 h11)] 0 [13] [(28,vb v10)] (q_cq hm (λhm=>?_) (λhm=>?_))
     ·refine s_vn [] 0 ⟨[(2,vi 19)],[]⟩ ?_;obtain rfl:=oi hm;refine q_rt (zJ 19 ?_);exact q_rm
     ·obtain⟨v13,h14,hm⟩:=qC hm;refine s_vv [qi 2 g9,qc 5 [40] 0 (qPH ((a1.getD x3.toNat dd).Box) v13 h14)] 0 [28] [(35,vb (!v13))] (q_cq hm (λhm=>?_) (λhm=>?_))
      ·refine s_vn [] 0 ⟨[(2,vi 9)],[]⟩ ?_;obtain rfl:=oi hm;refine q_rt (zJ 9 ?_);exact q_rm
      ·refine q_sk (q_vv [] 0 [3,35] [(3,vi (w64 (x3+1)))] ?_);exact q_hl (CB a1 (w64 (x3+1))) (ih (w64 (x3+1)) _ hm)
   ·obtain⟨g5,hm⟩:=qJ hm;rcases bif_c hm with⟨b6,hm⟩|⟨b6,hm⟩
    ·exact q_vv [qi 2 g5,qf 6 b6] 0 [10] [(13,vb true)] (q_J (true) hm)
    ·exact q_vv [qi 2 g5,qf 6 b6,qi 9 g5] 0 [10] [(13,vb (decide (((a1.getD x3.toNat dd).Kind)>6)))] (q_J (decide (((a1.getD x3.toNat dd).Kind)>6)) hm)
  ·refine q_ex 0 ?_;obtain rfl:=oi hm;exact q_l1 ()
theorem qRp (a1:List qG) (r:Int) (hm:NO a1=some r):CtX Tryz.prog globs 36 0 0 [.one (tl qM dd a1)] [] (qDw r) (qDj r):=by
 unfold NO at hm;refine q_E f36 43 λE=>?_;refine s_vn [] 0 ⟨[(0,vc (tl qM dd a1))],[]⟩ (q_sq ?_);refine s_va 0 [(6,vb (decide ((a1.length:Int)>64)))] (q_cq hm (λhm=>?_) (λhm=>?_))
 ·refine s_vn [] 0 ⟨[(2,vi 4)],[]⟩ ?_;obtain rfl:=oi hm;exact q_rt q_rm
 ·refine q_sk (q_sq ?_);refine s_vv [] 0 [6] [(3,vi 0)] ?_;obtain⟨u18,h17,hm⟩:=qC hm;refine zO (nd f36 116) 0 (by kernel_rfl) FUEL (λo=>qEE) (λv st=>RetQ Tryz.prog f36 (qDw v) (qDj v) .ret st) u18 (q_hl (CB a1 0) (qL9 E a1 FUEL 0 u18 h17)) ?_ ?_
  ·rintro v19 rfl st hr;obtain rfl:=oi hm;exact hr
  ·rintro o16 rfl;replace hm:_=some r:=hm;refine s_vn [] 0 ⟨[(2,vi 0)],[]⟩ ?_;obtain rfl:=oi hm;exact q_rt q_rm
open Go.Proofs Go.Proofs.Tryz
def NJ (r:Int):V:=vi r
def NM (r:Int):List (Nat×(Nat×O)):=[]
def qOj (a1:Scan) (x5:Int) (x15:Bool):St:=
 ⟨[(1,vp 0 0),(4,vi x5),(5,vp 1 0),(50,vb x15)],[(0,bx 25 (wE a1)),(1,bx 71 (qX (a1.Rings.getD x5.toNat dd)))]⟩
def OV (a1:Scan) (x4:Int) (x5:Int):St:=
 ⟨[(1,vp 0 0),(3,vi x4),(4,vi x5)],[(0,bx 25 (wE a1))]⟩
def qEZ (a1:Scan) (x19:Int):St:=
 ⟨[(1,vp 0 0),(3,vi x19)],[(0,bx 25 (wE a1))]⟩
def OA (a1:Scan) (o20:Int) (x27:Int):St:=
 ⟨[(1,vp 0 0),(3,vi o20),(8,vi x27)],[(0,bx 25 (wE a1))]⟩
def qED :St:=
 ⟨[],[]⟩
theorem qLY (E:Env 0) (a1:Scan):∀(n:Nat) (x4:Int) (x5:Int) (res:Int⊕Int),wM a1 n x4 x5=some res->HL (kx E 86 0) (nd f18 500) (wL 0 (λo=>qEZ a1 o) (λv st=>RetQ Tryz.prog f18 (NJ v) (NM v) .ret st) res) n (OV a1 x4 x5):=by
 intro n
 induction n with
 |zero=>
  intro x4 x5 res hm;cases hm
 |succ n ih=>
  intro x4 x5 res hm;refine qS (q_sq ?_);refine s_va 1 [(21,vb (decide (x5<(a1.Rings.length:Int))))] (q_cq hm (λhm=>?_) (λhm=>?_))
  ·refine q_sk (q_sq ?_);refine q_bk 1 ?_;obtain⟨g7,hm⟩:=qJ hm;refine s_vu [qi 3 g7] 1 [21] [(5,vp 1 0)] [] [(1,bx 71 (qX (a1.Rings.getD x5.toNat dd)))] (q_sq ?_);obtain⟨v8,h9,hm⟩:=qC hm;refine s_vv [qc 1 [29] 2 (qQ3 (a1.Rings.getD x5.toNat dd) v8 h9)] 2 [] [(6,vi v8)] (s_va 2 [(32,vb (v8 !=0))] ?_);refine q_cq hm (λhm=>?_) (λhm=>?_)
   ·refine s_vn [] 2 ⟨[(2,vi v8)],[]⟩ ?_;obtain rfl:=oi hm;refine q_rt (zJ v8 ?_);exact q_rm
   ·refine q_sk (q_sq ?_);refine q_jn (qOj a1 x5) (λp=>JZ a1 x5 (wM a1 n) p=some res) ?_ ?_
    ·rintro x15 hm;refine q_cq hm (λhm=>?_) (λhm=>?_)
     ·refine s_vn [] 2 ⟨[(2,vi 11)],[]⟩ ?_;obtain rfl:=oi hm;refine q_rt (zJ 11 ?_);exact q_rm
     ·refine q_sk (q_sq ?_);obtain⟨g17,hm⟩:=qJ hm;refine s_du [qi 5 g17] [0,1,3,0,8,24,56,120,248,511] 2 [50] [(60,vb (((((a1.Rings.getD x5.toNat dd).Read).length:Nat):Int) !=((((a1.Rings.getD (0:Int).toNat dd).Read).length:Nat):Int)))] [] [] (q_cq hm (λhm=>?_) (λhm=>?_))
      ·refine s_vn [] 2 ⟨[(2,vi 19)],[]⟩ ?_;obtain rfl:=oi hm;refine q_rt (zJ 19 ?_);exact q_rm
      ·refine q_sk (q_vu [] 2 [5,60] [(3,vi ((a1.Rings.getD x5.toNat dd).Z))] [1] [] ?_);exact q_vv [] 2 [4] [(4,vi (w64 (x5+1)))] (q_hl (OV a1 ((a1.Rings.getD x5.toNat dd).Z) (w64 (x5+1))) (ih ((a1.Rings.getD x5.toNat dd).Z) (w64 (x5+1)) _ hm))
    ·rcases bif_c hm with⟨b11,hm⟩|⟨b11,hm⟩
     ·rcases bif_c hm with⟨b12,hm⟩|⟨b12,hm⟩
      ·exact q_vv [qf 2 b11,qf 7 b12] 2 [3,6,32] [(50,vb true)] (q_J (true) hm)
      ·rcases bif_c hm with⟨b13,hm⟩|⟨b13,hm⟩
       ·exact q_vv [qf 2 b11,qf 7 b12,qf 10 b13] 2 [3,6,32] [(50,vb (decide (((a1.Rings.getD x5.toNat dd).Z)<=x4)))] (q_J (decide (((a1.Rings.getD x5.toNat dd).Z)<=x4)) hm)
       ·exact q_vv [qf 2 b11,qf 7 b12,qf 10 b13] 2 [3,6,32] [(50,vb false)] (q_J (false) hm)
     ·rcases bif_c hm with⟨b14,hm⟩|⟨b14,hm⟩
      ·exact q_vv [qf 2 b11,qf 10 b14] 2 [3,6,32] [(50,vb (decide (((a1.Rings.getD x5.toNat dd).Z)<=x4)))] (q_J (decide (((a1.Rings.getD x5.toNat dd).Z)<=x4)) hm)
      ·exact q_vv [qf 2 b11,qf 10 b14] 2 [3,6,32] [(50,vb false)] (q_J (false) hm)
  ·refine q_ex 0 ?_;obtain rfl:=oi hm;exact q_l1 x4
theorem qMh (E:Env 0) (a1:Scan) (o20:Int):∀(n:Nat) (x27:Int) (res:Int⊕Unit),PL a1 o20 n x27=some res->HL (kx E 86 0) (nd f18 2036) (wL 2 (λo=>qED) (λv st=>RetQ Tryz.prog f18 (NJ v) (NM v) .ret st) res) n (OA a1 o20 x27):=by
 intro n
 induction n with
 |zero=>
  intro x27 res hm;cases hm
 |succ n ih=>
  intro x27 res hm;refine qS (q_sq ?_);refine s_va 1 [(73,vb (decide (x27<(a1.Defects.length:Int))))] (q_cq hm (λhm=>?_) (λhm=>?_))
  ·refine q_sk (q_sq ?_);refine q_bk 3 ?_;obtain⟨g29,hm⟩:=qJ hm;refine s_vv [qi 3 g29] 1 [73] [(85,vb (decide (((((a1.Defects.getD x27.toNat dd).Box).Z).B)>o20)))] (q_cq hm (λhm=>?_) (λhm=>?_))
   ·refine s_vn [] 1 ⟨[(2,vi 9)],[]⟩ ?_;obtain rfl:=oi hm;refine q_rt (zJ 9 ?_);exact q_rm
   ·refine q_sk (q_vv [] 1 [8,85] [(8,vi (w64 (x27+1)))] ?_);exact q_hl (OA a1 o20 (w64 (x27+1))) (ih (w64 (x27+1)) _ hm)
  ·refine q_ex 2 ?_;obtain rfl:=oi hm;exact q_l1 ()
theorem qRA (a1:Scan) (r:Int) (hm:AM a1=some r):CtX Tryz.prog globs 18 0 0 [.agg (wE a1)] [] (NJ r) (NM r):=by
 unfold AM at hm;refine q_E f18 86 λE=>?_;refine s_vn [] 0 ⟨[(1,vp 0 0)],[(0,bx 25 (wE a1))]⟩ (q_sq ?_);refine s_va 1 [(12,vb (decide ((a1.Rings.length:Int)<2)))] (q_cq hm (λhm=>?_) (λhm=>?_))
 ·refine s_vn [] 1 ⟨[(2,vi 3)],[]⟩ ?_;obtain rfl:=oi hm;exact q_rt q_rm
 ·refine q_sk (q_sq ?_);refine s_vv [] 1 [12] [(16,vb (decide ((a1.Rings.length:Int)>24)))] (q_cq hm (λhm=>?_) (λhm=>?_))
  ·refine s_vn [] 1 ⟨[(2,vi 4)],[]⟩ ?_;obtain rfl:=oi hm;exact q_rt q_rm
  ·refine q_sk (s_vv [] 1 [16] [(3,vi 0)] ?_);refine q_sq (s_va 1 [(4,vi 0)] ?_);obtain⟨u22,h21,hm⟩:=qC hm;refine zO (nd f18 500) 0 (by kernel_rfl) FUEL (λo=>qEZ a1 o) (λv st=>RetQ Tryz.prog f18 (NJ v) (NM v) .ret st) u22 (q_hl (OV a1 0 0) (qLY E a1 FUEL 0 0 u22 h21)) ?_ ?_
   ·rintro v23 rfl st hr;obtain rfl:=oi hm;exact hr
   ·rintro o20 rfl;replace hm:_=some r:=hm;refine q_sq ?_;obtain⟨v24,h25,hm⟩:=qC hm;refine s_vv [qc 2 [64] 1 (qRp a1.Defects v24 h25)] 1 [] [(7,vi v24)] (s_va 1 [(67,vb (v24 !=0))] ?_);refine q_cq hm (λhm=>?_) (λhm=>?_)
    ·refine s_vn [] 1 ⟨[(2,vi v24)],[]⟩ ?_;obtain rfl:=oi hm;exact q_rt q_rm
    ·refine q_sk (q_sq ?_);refine s_vv [] 1 [7,67] [(8,vi 0)] ?_;obtain⟨u33,h32,hm⟩:=qC hm;refine zO (nd f18 2036) 2 (by kernel_rfl) FUEL (λo=>qED) (λv st=>RetQ Tryz.prog f18 (NJ v) (NM v) .ret st) u33 (q_hl (OA a1 o20 0) (qMh E a1 o20 FUEL 0 u33 h32)) ?_ ?_
     ·rintro v34 rfl st hr;obtain rfl:=oi hm;exact hr
     ·rintro o31 rfl;replace hm:_=some r:=hm;refine s_vn [] 1 ⟨[(2,vi 0)],[]⟩ ?_;obtain rfl:=oi hm;exact q_rt q_rm
end Saw
end Go.SL

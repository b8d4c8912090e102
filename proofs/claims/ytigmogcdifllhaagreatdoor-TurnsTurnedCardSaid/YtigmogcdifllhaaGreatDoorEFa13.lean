import Derived.Test.YtigmogcdifllhaaGreatDoorEBase
import Derived.Test.YtigmogcdifllhaaGreatDoorEFa12
set_option linter.unusedVariables false
set_option linter.unusedSimpArgs false
namespace Go.SL
namespace Saw
open Go.Proofs Go.Proofs.Tryz
set_option maxHeartbeats 4000000
set_option maxRecDepth 100000
def qUb (r:qI×Int):V:= .tup [.agg [ci r.1.Quarters,ci r.1.Pattern.Frame.X.A,ci r.1.Pattern.Frame.X.B,ci r.1.Pattern.Frame.Y.A,ci r.1.Pattern.Frame.Y.B,tl qL dd r.1.Pattern.Nodes,ci r.1.Value],.one (ci r.2)]
def qUg (r:qI×Int):List (Nat×(Nat×O)):=[]
def qDw (v7:(List qI)×Int) (x12:Int):St:=
 ⟨[(12,vp 3 0),(16,vp 5 0),(37,vc (.sub 4 0 7 ((1:Int).toNat) (v7.1.length-(1:Int).toNat))),(38,vi (((v7.1.length-(1:Int).toNat):Nat):Int)),(39,vi x12)],[(3,bx 60 [ci 0,ci 0,ci 0,ci 0,ci 0,.emp,ci 0]),(4,ro 0 60 7 v7.1.length (rf zC v7.1))]⟩
def qFI (v7:(List qI)×Int) (x12:Int) (x18:Int) (x19:Int) (x20:Int) (x21:Int) (x22:Int) (l23:List Node) (x24:Int):St:=
 (qDw v7 x12).up [] [] [] [(5,bx 60 [ci x18,ci x19,ci x20,ci x21,ci x22,tl qL dd l23,ci x24])]
def qAq (v7:(List qI)×Int) (x12:Int) (x13:qI):St:=
 (qDw v7 x12).up [] [] [] [(5,bx 60 (zC x13))]
def qFu (x25:Int) (x26:Int) (x27:Int) (x28:Int) (x29:Int) (l30:List Node) (x31:Int):St:=
 ⟨[(12,vp 3 0),(16,vp 5 0)],[(3,bx 60 [ci 0,ci 0,ci 0,ci 0,ci 0,.emp,ci 0]),(5,bx 60 [ci x25,ci x26,ci x27,ci x28,ci x29,tl qL dd l30,ci x31])]⟩
theorem qMF (E:Env 0) (v7:(List qI)×Int):∀(n:Nat) (x12:Int) (x13:qI) (res:Int×Int×Int×Int×Int×(List Node)×Int),JG v7 n x12 x13=some res->HL (kx E 51 0) (nd f20 500) (zM 0 (λo=>qFu o.1 o.2.1 o.2.2.1 o.2.2.2.1 o.2.2.2.2.1 o.2.2.2.2.2.1 o.2.2.2.2.2.2) res) n (qAq v7 x12 x13):=by
 intro n
 induction n with
 |zero=>
  intro x12 x13 res hm;cases hm
 |succ n ih=>
  intro x12 x13 res hm;refine qS (s_va 6 [(40,vb (decide (x12<(((v7.1.length-(1:Int).toNat):Nat):Int))))] ?_);refine q_sq (q_cq hm (λhm=>?_) (λhm=>?_))
  ·refine q_sk (q_jn (ι:=Int×Int×Int×Int×Int×(List Node)×Int) (λp=>qFI v7 x12 p.1 p.2.1 p.2.2.1 p.2.2.2.1 p.2.2.2.2.1 p.2.2.2.2.2.1 p.2.2.2.2.2.2) (λp=>qDj x12 (JG v7 n) p.1 p.2.1 p.2.2.1 p.2.2.2.1 p.2.2.2.2.1 p.2.2.2.2.2.1 p.2.2.2.2.2.2=some res) ?_ ?_)
   ·rintro⟨x18,x19,x20,x21,x22,l23,x24⟩ hm;show H _ (qFI v7 x12 x18 x19 x20 x21 x22 l23 x24) _ _;exact q_vv [] 7 [39] [(39,vi (w64 (x12+1)))] (q_hl (qAq v7 (w64 (x12+1)) (qI.mk x18 (Pattern.mk (Rect.mk (Span.mk x19 x20) (Span.mk x21 x22)) l23) x24)) (ih (w64 (x12+1)) (qI.mk x18 (Pattern.mk (Rect.mk (Span.mk x19 x20) (Span.mk x21 x22)) l23) x24) _ hm))
   ·refine q_bk 1 ?_;obtain⟨g15,hm⟩:=qK hm;obtain⟨g16,hm⟩:=qK hm;refine s_vu [qi 0 g15,qd 1 dN (uh (uN (qW (zD g15)) ((1:Int).toNat)) (kK g16))] 6 [40] [(18,vp 6 0)] [] [(6,bx 60 (zC (v7.1.getD (((1:Int).toNat)+x12.toNat) dd)))] (s_va 7 [(47,vb (decide (((v7.1.getD (((1:Int).toNat)+x12.toNat) dd).Value)>x13.Value)))] ?_);refine q_cq hm (λhm=>?_) (λhm=>?_)
    ·exact q_vu [] 7 [18,47] [] [5,6] [(5,bx 60 (zC (v7.1.getD (((1:Int).toNat)+x12.toNat) dd)))] (q_J ((v7.1.getD (((1:Int).toNat)+x12.toNat) dd).Quarters,((((v7.1.getD (((1:Int).toNat)+x12.toNat) dd).Pattern).Frame).X).A,((((v7.1.getD (((1:Int).toNat)+x12.toNat) dd).Pattern).Frame).X).B,((((v7.1.getD (((1:Int).toNat)+x12.toNat) dd).Pattern).Frame).Y).A,((((v7.1.getD (((1:Int).toNat)+x12.toNat) dd).Pattern).Frame).Y).B,((v7.1.getD (((1:Int).toNat)+x12.toNat) dd).Pattern).Nodes,(v7.1.getD (((1:Int).toNat)+x12.toNat) dd).Value) hm)
    ·exact q_sk (q_J (x13.Quarters,x13.Pattern.Frame.X.A,x13.Pattern.Frame.X.B,x13.Pattern.Frame.Y.A,x13.Pattern.Frame.Y.B,x13.Pattern.Nodes,x13.Value) hm)
  ·refine q_ex 0 ?_;obtain rfl:=oi hm;exact q_l0
theorem AP (a1:Scan) (a2:List qF) (a3:Saw) (a4:Rates) (a5:Int) (a6:Int) (r:qI×Int) (hm:yW a1 a2 a3 a4 a5 a6=some r):CtX Tryz.prog globs 20 0 0 [.agg (wF a1),.one (tl qP dd a2),.agg (jW a3),.agg (wC a4),.one (ci a5),.one (ci a6)] [] (qUb r) (qUg r):=by
 unfold yW at hm;refine q_E f20 51 λE=>?_;refine s_vn [] 0 ⟨[(1,vc (tl qP dd a2)),(4,vi a5),(5,vi a6),(6,vp 0 0),(8,vp 1 0),(9,vp 2 0),(12,vp 3 0)],[(0,bx 25 (wF a1)),(1,bx 39 (jW a3)),(2,bx 41 (wC a4)),(3,bx 60 [ci 0,ci 0,ci 0,ci 0,ci 0,.emp,ci 0])]⟩ ?_;obtain⟨v7,h8,hm⟩:=qC hm;refine s_vu [qc 6 [20,21,22,23,24,25] 4 (qAA a1 a2 a3 a4 a5 a6 v7 h8)] 4 [1,4,5,6,8,9] [(14,vo 4 0 7 v7.1.length),(15,vi v7.2)] [0,1,2] [(4,ro 0 60 7 v7.1.length (rf zC v7.1))] (q_sq ?_);refine s_va 5 [(30,vb (v7.2 !=0))] (q_cq hm (λhm=>?_) (λhm=>?_))
 ·refine s_vu [] 5 [14,15,30] [(13,vi v7.2)] [4] [] (q_fu [.ownB 3 5 5 156 2 (rf qL [])] [] [] [3] [(3,bx 60 [ci 0,ci 0,ci 0,ci 0,ci 0,.own 5 0 2 0,ci 0]),(5,ro 0 156 2 0 (rf qL []))] o0 ?_);refine q_fu [.len 5 (([]:List Node).length),.frz 5] [] [] [3,5] [(3,bx 60 [ci 0,ci 0,ci 0,ci 0,ci 0,tl qL dd ([]:List Node),ci 0])] (o1 (And.intro (And.intro (show 0=([]:List Node).length from rfl) (show 0=([]:List Node).length from rfl)) (ke (([]:List Node).length)))) ?_;obtain rfl:=oi hm;exact q_rt q_rm
 ·refine q_sk ?_;obtain⟨g10,hm⟩:=qK hm;refine s_vu [qi 1 g10,qd 2 dN (qW (zD g10))] 5 [15,30] [(16,vp 5 0)] [] [(5,bx 60 (zC (v7.1.getD ((0:Int).toNat) dd)))] (q_sq ?_);obtain⟨g11,hm⟩:=qK hm;refine s_vv [qd 1 dN (And.intro (zT g11).1 (zT g11).2.1)] 6 [14] [(37,vc (.sub 4 0 7 ((1:Int).toNat) (v7.1.length-(1:Int).toNat))),(38,vi (((v7.1.length-(1:Int).toNat):Nat):Int)),(39,vi 0)] ?_;obtain⟨o32,h33,hm⟩:=qC hm
  refine zH (nd f20 500) 0 (by kernel_rfl) FUEL (λo=>qFu o.1 o.2.1 o.2.2.1 o.2.2.2.1 o.2.2.2.2.1 o.2.2.2.2.2.1 o.2.2.2.2.2.2) o32 (q_hl (qAq v7 0 (v7.1.getD ((0:Int).toNat) dd)) (qMF E v7 FUEL 0 (v7.1.getD ((0:Int).toNat) dd) o32 h33)) (s_vu [] 6 [16] [(13,vi 0)] [3,5] [(3,bx 60 [ci o32.1,ci o32.2.1,ci o32.2.2.1,ci o32.2.2.2.1,ci o32.2.2.2.2.1,tl qL dd o32.2.2.2.2.2.1,ci o32.2.2.2.2.2.2])] ?_);obtain rfl:=oi hm;exact q_rt q_rm
def qUG (r:Bool):V:=vb r
def qUs (r:Bool):List (Nat×(Nat×O)):=[]
def qPX (x5:Bool):St:=
 ⟨[(6,vb x5)],[]⟩
theorem wM (a1:Int) (a2:Int) (a3:Int) (r:Bool) (hm:WO a1 a2 a3=some r):CtX Tryz.prog globs 52 0 0 [.one (ci a1),.one (ci a2),.one (ci a3)] [] (qUG r) (qUs r):=by
 unfold WO at hm;refine q_E f52 15 λE=>?_;refine s_vn [] 0 ⟨[(0,vi a1),(1,vi a2),(2,vi a3)],[]⟩ (q_jn (qPX) (λp=>qC9 p=some r) ?_ ?_)
 ·rintro x5 hm;obtain rfl:=oi hm;exact q_rt q_rm
 ·rcases bif_c hm with⟨b4,hm⟩|⟨b4,hm⟩
  ·exact q_vn [qf 3 b4] 0 ⟨[(6,vb (decide (a1<=a3)))],[]⟩ (q_J (decide (a1<=a3)) hm)
  ·exact q_vn [qf 3 b4] 0 ⟨[(6,vb false)],[]⟩ (q_J (false) hm)
def qR4 (r:Int):V:=vi r
def qSL (r:Int):List (Nat×(Nat×O)):=[]
def qNQ (x24:Bool):St:=
 ⟨[(42,vb x24)],[]⟩
def qNj (a2:Rates) (x14:Bool):St:=
 ⟨[(3,vp 1 0),(26,vb x14)],[(1,bx 41 (wC a2))]⟩
theorem qBu (a1:Saw) (a2:Rates) (r:Int) (hm:ET a1 a2=some r):CtX Tryz.prog globs 29 0 0 [.agg (jW a1),.agg (wC a2)] [] (qR4 r) (qSL r):=by
 unfold ET at hm;refine q_E f29 43 λE=>?_;refine s_vn [] 0 ⟨[(2,vp 0 0),(3,vp 1 0)],[(0,bx 39 (jW a1)),(1,bx 41 (wC a2))]⟩ (q_sq ?_);refine q_jn (qNj a2) (λp=>KZ a2 p=some r) ?_ ?_
 ·rintro x14 hm;refine q_cq hm (λhm=>?_) (λhm=>?_)
  ·refine s_vn [] 2 ⟨[(4,vi 9)],[]⟩ ?_;obtain rfl:=oi hm;exact q_rt q_rm
  ·refine q_sk (q_sq ?_);refine q_jn (qNQ) (λp=>VY p=some r) ?_ ?_
   ·rintro x24 hm;refine q_cq hm (λhm=>?_) (λhm=>?_)
    ·refine s_vn [] 2 ⟨[(4,vi 9)],[]⟩ ?_;obtain rfl:=oi hm;exact q_rt q_rm
    ·refine q_sk (s_vn [] 2 ⟨[(4,vi 0)],[]⟩ ?_);obtain rfl:=oi hm;exact q_rt q_rm
   ·obtain⟨v16,h17,hm⟩:=qC hm;rcases bif_c hm with⟨b18,hm⟩|⟨b18,hm⟩
    ·exact q_vn [qk 2 [28] 2 ⟨[(28,vi a2.Chip)],[]⟩ (wM a2.Chip 0 1000 v16 h17),qf 4 b18] 2 ⟨[(42,vb true)],[]⟩ (q_J (true) hm)
    ·obtain⟨v19,h20,hm⟩:=qC hm;rcases bif_c hm with⟨b21,hm⟩|⟨b21,hm⟩
     ·exact q_vn [qk 2 [28] 2 ⟨[(28,vi a2.Chip)],[]⟩ (wM a2.Chip 0 1000 v16 h17),qf 4 b18,qk 7 [31,33] 2 ⟨[(31,vb false),(33,vi a2.Dust)],[]⟩ (wM a2.Dust 0 1000 v19 h20),qf 10 b21] 2 ⟨[(42,vb true)],[]⟩ (q_J (true) hm)
     ·obtain⟨v22,h23,hm⟩:=qC hm;exact q_vn [qk 2 [28] 2 ⟨[(28,vi a2.Chip)],[]⟩ (wM a2.Chip 0 1000 v16 h17),qf 4 b18,qk 7 [31,33] 2 ⟨[(31,vb false),(33,vi a2.Dust)],[]⟩ (wM a2.Dust 0 1000 v19 h20),qf 10 b21,qk 13 [37,39] 2 ⟨[(37,vb false),(39,vi a2.Fine)],[]⟩ (wM a2.Fine 0 1000000 v22 h23)] 2 ⟨[(42,vb (!v22))],[]⟩ (q_J (!v22) hm)
 ·obtain⟨v3,h4,hm⟩:=qC hm;rcases bif_c hm with⟨b5,hm⟩|⟨b5,hm⟩
  ·exact q_vu [qk 2 [6] 2 ⟨[(6,vi a1.Kerf)],[]⟩ (wM a1.Kerf 0 20 v3 h4),qf 4 b5] 2 [2] [(26,vb true)] [0] [] (q_J (true) hm)
  ·obtain⟨v6,h7,hm⟩:=qC hm;rcases bif_c hm with⟨b8,hm⟩|⟨b8,hm⟩
   ·exact q_vu [qk 2 [6] 2 ⟨[(6,vi a1.Kerf)],[]⟩ (wM a1.Kerf 0 20 v3 h4),qf 4 b5,qk 7 [9,11] 2 ⟨[(9,vb false),(11,vi a1.Trim)],[]⟩ (wM a1.Trim 0 20 v6 h7),qf 10 b8] 2 [2] [(26,vb true)] [0] [] (q_J (true) hm)
   ·obtain⟨v9,h10,hm⟩:=qC hm;rcases bif_c hm with⟨b11,hm⟩|⟨b11,hm⟩
    ·exact q_vu [qk 2 [6] 2 ⟨[(6,vi a1.Kerf)],[]⟩ (wM a1.Kerf 0 20 v3 h4),qf 4 b5,qk 7 [9,11] 2 ⟨[(9,vb false),(11,vi a1.Trim)],[]⟩ (wM a1.Trim 0 20 v6 h7),qf 10 b8,qk 13 [15,17] 2 ⟨[(15,vb false),(17,vi a1.Pitch)],[]⟩ (wM a1.Pitch 1 2000 v9 h10),qf 16 b11] 2 [2] [(26,vb true)] [0] [] (q_J (true) hm)
    ·obtain⟨v12,h13,hm⟩:=qC hm;exact q_vu [qk 2 [6] 2 ⟨[(6,vi a1.Kerf)],[]⟩ (wM a1.Kerf 0 20 v3 h4),qf 4 b5,qk 7 [9,11] 2 ⟨[(9,vb false),(11,vi a1.Trim)],[]⟩ (wM a1.Trim 0 20 v6 h7),qf 10 b8,qk 13 [15,17] 2 ⟨[(15,vb false),(17,vi a1.Pitch)],[]⟩ (wM a1.Pitch 1 2000 v9 h10),qf 16 b11,qk 19 [21,23] 2 ⟨[(21,vb false),(23,vi a1.Step)],[]⟩ (wM a1.Step 1 20000 v12 h13)] 2 [2] [(26,vb (!v12))] [0] [] (q_J (!v12) hm)
open Go.Proofs Go.Proofs.Tryz
def HN (r:Bool):V:=vb r
def PN (r:Bool):List (Nat×(Nat×O)):=[]
theorem qQQ (r:Bool):ZA (PN r):=by
 intro i k o h;unfold PN at h;cases h
def qLI (a1:List qA) (x2:Int) (x8:Bool):St:=
 ⟨[(0,vc (tl qE dd a1)),(3,vi x2),(39,vb x8)],[]⟩
def EB (a1:List qA) (x2:Int):St:=
 ⟨[(0,vc (tl qE dd a1)),(3,vi x2)],[]⟩
def qDv :St:=
 ⟨[],[]⟩
theorem qJI (E:Env 0) (a1:List qA):∀(n:Nat) (x2:Int) (res:Bool⊕Unit),jA a1 n x2=some res->HL (kx E 40 0) (nd f72 52) (wJ 0 (λo=>qDv) (λv st=>RetQ Tryz.prog f72 (HN v) (PN v) .ret st) res) n (EB a1 x2):=by
 intro n
 induction n with
 |zero=>
  intro x2 res hm;cases hm
 |succ n ih=>
  intro x2 res hm;refine qS (q_sq ?_);refine s_va 0 [(7,vb (decide (x2<(a1.length:Int))))] (q_cq hm (λhm=>?_) (λhm=>?_))
  ·refine q_sk (q_sq ?_);refine q_bk 1 (q_jn (qLI a1 x2) (λp=>WL x2 (jA a1 n) p=some res) ?_ ?_)
   ·rintro x8 hm;refine q_cq hm (λhm=>?_) (λhm=>?_)
    ·refine s_vn [] 0 ⟨[(2,vb false)],[]⟩ ?_;obtain rfl:=oi hm;refine q_rt (zK false ?_);exact q_rm
    ·refine q_sk (q_vv [] 0 [3,39] [(3,vi (w64 (x2+1)))] ?_);exact q_hl (EB a1 (w64 (x2+1))) (ih (w64 (x2+1)) _ hm)
   ·obtain⟨g4,hm⟩:=qK hm;rcases bif_c hm with⟨b5,hm⟩|⟨b5,hm⟩
    ·exact q_vv [qi 2 g4,qf 6 b5] 0 [7] [(39,vb true)] (q_J (true) hm)
    ·rcases bif_c hm with⟨b6,hm⟩|⟨b6,hm⟩
     ·exact q_vv [qi 2 g4,qf 6 b5,qi 9 g4,qf 14 b6] 0 [7] [(39,vb true)] (q_J (true) hm)
     ·rcases bif_c hm with⟨b7,hm⟩|⟨b7,hm⟩
      ·exact q_vv [qi 2 g4,qf 6 b5,qi 9 g4,qf 14 b6,qi 17 g4,qf 22 b7] 0 [7] [(39,vb true)] (q_J (true) hm)
      ·exact q_vv [qi 2 g4,qf 6 b5,qi 9 g4,qf 14 b6,qi 17 g4,qf 22 b7,qi 25 g4] 0 [7] [(39,vb (decide (((a1.getD x2.toNat dd).Y)>600)))] (q_J (decide (((a1.getD x2.toNat dd).Y)>600)) hm)
  ·refine q_ex 0 ?_;obtain rfl:=oi hm;exact q_l1 ()
theorem qOt (a1:List qA) (r:Bool) (hm:ZO a1=some r):CtX Tryz.prog globs 72 0 0 [.one (tl qE dd a1)] [] (HN r) (PN r):=by
 unfold ZO at hm;refine q_E f72 40 λE=>?_;refine s_vn [] 0 ⟨[(0,vc (tl qE dd a1))],[]⟩ (q_sq ?_);refine s_va 0 [(3,vi 0)] ?_;obtain⟨u12,h11,hm⟩:=qC hm;refine zP (nd f72 52) 0 (by kernel_rfl) FUEL (λo=>qDv) (λv st=>RetQ Tryz.prog f72 (HN v) (PN v) .ret st) u12 (q_hl (EB a1 0) (qJI E a1 FUEL 0 u12 h11)) ?_ ?_
 ·rintro v13 rfl st hr;obtain rfl:=oi hm;exact hr
 ·rintro o10 rfl;replace hm:_=some r:=hm;refine s_vn [] 0 ⟨[(2,vb true)],[]⟩ ?_;obtain rfl:=oi hm;exact q_rt q_rm
def qDb (r:Int):V:=vi r
def qC5 (r:Int):List (Nat×(Nat×O)):=[]
def qMG (a1:Ring) (x7:Int) (x16:Bool):St:=
 ⟨[(1,vp 0 0),(3,vi x7),(53,vb x16)],[(0,bx 71 (qY a1))]⟩
def qMz (a1:Ring) (x7:Int) (x13:Bool):St:=
 ⟨[(1,vp 0 0),(3,vi x7),(4,vp 1 0),(44,vb x13)],[(0,bx 71 (qY a1)),(1,bx 95 (qV (a1.Read.getD x7.toNat dd)))]⟩
def OD (a1:Ring) (x7:Int):St:=
 ⟨[(1,vp 0 0),(3,vi x7)],[(0,bx 71 (qY a1))]⟩
def qEt :St:=
 ⟨[],[]⟩
def qNv (a1:Ring) (x5:Bool):St:=
 ⟨[(1,vp 0 0),(15,vb x5)],[(0,bx 71 (qY a1))]⟩
theorem qLj (E:Env 0) (a1:Ring):∀(n:Nat) (x7:Int) (res:Int⊕Unit),QQ a1 n x7=some res->HL (kx E 54 0) (nd f35 116) (wJ 1 (λo=>qEt) (λv st=>RetQ Tryz.prog f35 (qDb v) (qC5 v) .ret st) res) n (OD a1 x7):=by
 intro n
 induction n with
 |zero=>
  intro x7 res hm;cases hm
 |succ n ih=>
  intro x7 res hm;refine qS (q_sq ?_);refine s_va 1 [(28,vb (decide (x7<(a1.Read.length:Int))))] (q_cq hm (λhm=>?_) (λhm=>?_))
  ·refine q_sk (q_sq ?_);refine q_bk 2 ?_;obtain⟨g9,hm⟩:=qK hm;refine s_vu [qi 3 g9] 1 [28] [(4,vp 1 0)] [] [(1,bx 95 (qV (a1.Read.getD x7.toNat dd)))] (q_sq ?_);refine q_jn (qMz a1 x7) (λp=>HB a1 x7 (QQ a1 n) p=some res) ?_ ?_
   ·rintro x13 hm;refine q_cq hm (λhm=>?_) (λhm=>?_)
    ·refine s_vn [] 3 ⟨[(2,vi 9)],[]⟩ ?_;obtain rfl:=oi hm;refine q_rt (zK 9 ?_);exact q_rm
    ·refine q_sk (q_jn (qMG a1 x7) (λp=>HC x7 (QQ a1 n) p=some res) ?_ ?_)
     ·rintro x16 hm;refine q_cq hm (λhm=>?_) (λhm=>?_)
      ·refine s_vn [] 3 ⟨[(2,vi 19)],[]⟩ ?_;obtain rfl:=oi hm;refine q_rt (zK 19 ?_);exact q_rm
      ·refine q_sk (q_vv [] 3 [3,53] [(3,vi (w64 (x7+1)))] ?_);exact q_hl (OD a1 (w64 (x7+1))) (ih (w64 (x7+1)) _ hm)
     ·rcases bif_c hm with⟨b15,hm⟩|⟨b15,hm⟩
      ·exact q_vu [qf 3 b15] 3 [4,44] [(53,vb (!(((((a1.Read.getD x7.toNat dd).P).X)==0)&&(((((a1.Read.getD x7.toNat dd).P).Y)==0)&&true))))] [1] [] (q_J (!(((((a1.Read.getD x7.toNat dd).P).X)==0)&&(((((a1.Read.getD x7.toNat dd).P).Y)==0)&&true))) hm)
      ·exact q_vu [qf 3 b15] 3 [4,44] [(53,vb false)] [1] [] (q_J (false) hm)
   ·rcases bif_c hm with⟨b10,hm⟩|⟨b10,hm⟩
    ·obtain⟨v11,h12,hm⟩:=qC hm
     exact q_vv [qf 2 b10,qd 5 (drw 2 0 (rf qE [(a1.Read.getD x7.toNat dd).P])) (litP qE dd 2 (λ_=>rfl) ([(a1.Read.getD x7.toNat dd).P]:List qA) 1 rfl),qd 6 (dex (cen [] [] 3 0 (HN v11) (PN v11) [38,41] [2])) (wK (K:=(kx E 54 0)) (xs':=[.one (.lst 1 (rf qE [(a1.Read.getD x7.toNat dd).P]))]) (b:=false) ⟨[(38,vb true),(41,vo 2 0 2 1)],[(2,ro 0 93 2 1 (rf qE [(a1.Read.getD x7.toNat dd).P]))]⟩ (opAt (rg f35 7460) 6) [] [] 3 (o1 (ke 1)) (by simp only[tl,rf,show([(a1.Read.getD x7.toNat dd).P]:List qA).length=1 from rfl]) (qOt ([(a1.Read.getD x7.toNat dd).P]:List qA) v11 h12) (.inr ⟨(by kernel_rfl),qQQ v11⟩) (by kernel_rfl))] 2 [] [(44,vb (!v11))] (q_J (!v11) hm)
    ·exact q_vv [qf 2 b10] 2 [] [(44,vb false)] (q_J (false) hm)
  ·refine q_ex 1 ?_;obtain rfl:=oi hm;exact q_l1 ()
theorem qQ9 (a1:Ring) (r:Int) (hm:UV a1=some r):CtX Tryz.prog globs 35 0 0 [.agg (qY a1)] [] (qDb r) (qC5 r):=by
 unfold UV at hm;refine q_E f35 54 λE=>?_;refine s_vn [] 0 ⟨[(1,vp 0 0)],[(0,bx 71 (qY a1))]⟩ (q_sq ?_);refine q_bk 0 (s_va 1 [(5,vb (decide ((a1.Read.length:Int)<8)))] ?_);refine q_cq hm (λhm=>?_) (λhm=>?_)
 ·refine s_vn [] 1 ⟨[(2,vi 3)],[]⟩ ?_;obtain rfl:=oi hm;exact q_rt q_rm
 ·refine s_vv [] 1 [5] [(10,vb (decide ((a1.Read.length:Int)>32)))] (q_cq hm (λhm=>?_) (λhm=>?_))
  ·refine s_vn [] 1 ⟨[(2,vi 4)],[]⟩ ?_;obtain rfl:=oi hm;exact q_rt q_rm
  ·refine q_jn (qNv a1) (λp=>HX a1 p=some r) ?_ ?_
   ·rintro x5 hm;refine q_cq hm (λhm=>?_) (λhm=>?_)
    ·refine s_vn [] 1 ⟨[(2,vi 9)],[]⟩ ?_;obtain rfl:=oi hm;exact q_rt q_rm
    ·refine q_sk (q_sq ?_);refine s_vv [] 1 [15] [(3,vi 0)] ?_;obtain⟨u20,h19,hm⟩:=qC hm;refine zP (nd f35 116) 1 (by kernel_rfl) FUEL (λo=>qEt) (λv st=>RetQ Tryz.prog f35 (qDb v) (qC5 v) .ret st) u20 (q_hl (OD a1 0) (qLj E a1 FUEL 0 u20 h19)) ?_ ?_
     ·rintro v21 rfl st hr;obtain rfl:=oi hm;exact hr
     ·rintro o18 rfl;replace hm:_=some r:=hm;refine s_vn [] 1 ⟨[(2,vi 0)],[]⟩ ?_;obtain rfl:=oi hm;exact q_rt q_rm
   ·rcases bif_c hm with⟨b4,hm⟩|⟨b4,hm⟩
    ·exact q_vv [qf 3 b4] 1 [10] [(15,vb true)] (q_J (true) hm)
    ·exact q_vv [qf 3 b4] 1 [10] [(15,vb (decide (a1.Z>20000)))] (q_J (decide (a1.Z>20000)) hm)
def qSj (r:Bool):V:=vb r
def qSk (r:Bool):List (Nat×(Nat×O)):=[]
def qNL (x4:Bool):St:=
 ⟨[(2,vb x4)],[]⟩
theorem qQa (a1:Box) (r:Bool) (hm:EX a1=some r):CtX Tryz.prog globs 73 0 0 [.agg (ZG a1)] [] (qSj r) (qSk r):=by
 unfold EX at hm;refine q_E f73 28 λE=>?_;refine s_vn [] 0 ⟨[(1,vp 0 0)],[(0,bx 85 (ZG a1))]⟩ (q_jn (qNL) (λp=>VK p=some r) ?_ ?_)
 ·rintro x4 hm;obtain rfl:=oi hm;exact q_rt q_rm
 ·rcases bif_c hm with⟨b2,hm⟩|⟨b2,hm⟩
  ·exact q_vn [qf 7 b2] 1 ⟨[(2,vb true)],[]⟩ (q_J (true) hm)
  ·rcases bif_c hm with⟨b3,hm⟩|⟨b3,hm⟩
   ·exact q_vn [qf 7 b2,qf 16 b3] 1 ⟨[(2,vb true)],[]⟩ (q_J (true) hm)
   ·exact q_vn [qf 7 b2,qf 16 b3] 1 ⟨[(2,vb (decide (a1.Z.A≥a1.Z.B)))],[]⟩ (q_J (decide (a1.Z.A≥a1.Z.B)) hm)
open Go.Proofs Go.Proofs.Tryz
def qW2 (r:Bool):V:=vb r
def qXA (r:Bool):List (Nat×(Nat×O)):=[]
def qR3 (x5:Bool):St:=
 ⟨[(6,vb x5)],[]⟩
theorem NK (a1:Span) (a2:Int) (a3:Int) (r:Bool) (hm:OH a1 a2 a3=some r):CtX Tryz.prog globs 140 0 0 [.agg (qJ a1),.one (ci a2),.one (ci a3)] [] (qW2 r) (qXA r):=by
 unfold OH at hm;refine q_E f140 17 λE=>?_;refine s_vn [] 0 ⟨[(1,vi a2),(2,vi a3),(3,vp 0 0)],[(0,bx 53 (qJ a1))]⟩ (q_jn (qR3) (λp=>qCa p=some r) ?_ ?_)
 ·rintro x5 hm;obtain rfl:=oi hm;exact q_rt q_rm
 ·rcases bif_c hm with⟨b4,hm⟩|⟨b4,hm⟩
  ·exact q_vn [qf 4 b4] 1 ⟨[(6,vb (decide (a1.B<=a3)))],[]⟩ (q_J (decide (a1.B<=a3)) hm)
  ·exact q_vn [qf 4 b4] 1 ⟨[(6,vb false)],[]⟩ (q_J (false) hm)
def qQF (r:Bool):V:=vb r
def qQ2 (r:Bool):List (Nat×(Nat×O)):=[]
def qLf (x10:Bool):St:=
 ⟨[(2,vb x10)],[]⟩
theorem qN3 (a1:Box) (r:Bool) (hm:LH a1=some r):CtX Tryz.prog globs 74 0 0 [.agg (ZG a1)] [] (qQF r) (qQ2 r):=by
 unfold LH at hm;refine q_E f74 16 λE=>?_;refine s_vn [] 0 ⟨[(1,vp 0 0)],[(0,bx 85 (ZG a1))]⟩ (q_jn (qLf) (λp=>UA p=some r) ?_ ?_)
 ·rintro x10 hm;obtain rfl:=oi hm;exact q_rt q_rm
 ·obtain⟨v2,h3,hm⟩:=qC hm;rcases bif_c hm with⟨b4,hm⟩|⟨b4,hm⟩
  ·obtain⟨v5,h6,hm⟩:=qC hm;rcases bif_c hm with⟨b7,hm⟩|⟨b7,hm⟩
   ·obtain⟨v8,h9,hm⟩:=qC hm;exact q_vn [qk 2 [4] 1 ⟨[(4,va (qJ a1.X))],[]⟩ (NK a1.X (-600) 600 v2 h3),qf 3 b4,qk 6 [6,8] 1 ⟨[(6,vb true),(8,va (qJ a1.Y))],[]⟩ (NK a1.Y (-600) 600 v5 h6),qf 8 b7,qk 11 [11,13] 1 ⟨[(11,vb true),(13,va (qJ a1.Z))],[]⟩ (NK a1.Z 0 20000 v8 h9)] 1 ⟨[(2,vb v8)],[]⟩ (q_J (v8) hm)
   ·exact q_vn [qk 2 [4] 1 ⟨[(4,va (qJ a1.X))],[]⟩ (NK a1.X (-600) 600 v2 h3),qf 3 b4,qk 6 [6,8] 1 ⟨[(6,vb true),(8,va (qJ a1.Y))],[]⟩ (NK a1.Y (-600) 600 v5 h6),qf 8 b7] 1 ⟨[(2,vb false)],[]⟩ (q_J (false) hm)
  ·exact q_vn [qk 2 [4] 1 ⟨[(4,va (qJ a1.X))],[]⟩ (NK a1.X (-600) 600 v2 h3),qf 3 b4] 1 ⟨[(2,vb false)],[]⟩ (q_J (false) hm)
def qC8 (r:Int):V:=vi r
def qDi (r:Int):List (Nat×(Nat×O)):=[]
def qMn (a1:List qG) (x3:Int) (x7:Bool):St:=
 ⟨[(0,vc (tl qM dd a1)),(3,vi x3),(13,vb x7)],[]⟩
def IN (a1:List qG) (x3:Int):St:=
 ⟨[(0,vc (tl qM dd a1)),(3,vi x3)],[]⟩
def qFd :St:=
 ⟨[],[]⟩
theorem qLz (E:Env 0) (a1:List qG):∀(n:Nat) (x3:Int) (res:Int⊕Unit),QS a1 n x3=some res->HL (kx E 43 0) (nd f36 116) (wJ 0 (λo=>qFd) (λv st=>RetQ Tryz.prog f36 (qC8 v) (qDi v) .ret st) res) n (IN a1 x3):=by
 intro n
 induction n with
 |zero=>
  intro x3 res hm;cases hm
 |succ n ih=>
  intro x3 res hm;refine qS (q_sq ?_);refine s_va 0 [(10,vb (decide (x3<(a1.length:Int))))] (q_cq hm (λhm=>?_) (λhm=>?_))
  ·refine q_sk (q_sq ?_);refine q_bk 1 (q_bk 2 ?_);refine q_jn (qMn a1 x3) (λp=>HF a1 x3 (QS a1 n) p=some res) ?_ ?_
   ·rintro x7 hm;refine q_cq hm (λhm=>?_) (λhm=>?_)
    ·refine s_vn [] 0 ⟨[(2,vi 10)],[]⟩ ?_;obtain rfl:=oi hm;refine q_rt (zK 10 ?_);exact q_rm
    ·obtain⟨g9,hm⟩:=qK hm;obtain⟨v10,h11,hm⟩:=qC hm;refine s_vv [qi 2 g9,qc 5 [33] 0 (qQa ((a1.getD x3.toNat dd).Box) v10 h11)] 0 [13] [(28,vb v10)] (q_cq hm (λhm=>?_) (λhm=>?_))
     ·refine s_vn [] 0 ⟨[(2,vi 19)],[]⟩ ?_;obtain rfl:=oi hm;refine q_rt (zK 19 ?_);exact q_rm
     ·obtain⟨v13,h14,hm⟩:=qC hm;refine s_vv [qi 2 g9,qc 5 [40] 0 (qN3 ((a1.getD x3.toNat dd).Box) v13 h14)] 0 [28] [(35,vb (!v13))] (q_cq hm (λhm=>?_) (λhm=>?_))
      ·refine s_vn [] 0 ⟨[(2,vi 9)],[]⟩ ?_;obtain rfl:=oi hm;refine q_rt (zK 9 ?_);exact q_rm
      ·refine q_sk (q_vv [] 0 [3,35] [(3,vi (w64 (x3+1)))] ?_);exact q_hl (IN a1 (w64 (x3+1))) (ih (w64 (x3+1)) _ hm)
   ·obtain⟨g5,hm⟩:=qK hm;rcases bif_c hm with⟨b6,hm⟩|⟨b6,hm⟩
    ·exact q_vv [qi 2 g5,qf 6 b6] 0 [10] [(13,vb true)] (q_J (true) hm)
    ·exact q_vv [qi 2 g5,qf 6 b6,qi 9 g5] 0 [10] [(13,vb (decide (((a1.getD x3.toNat dd).Kind)>6)))] (q_J (decide (((a1.getD x3.toNat dd).Kind)>6)) hm)
  ·refine q_ex 0 ?_;obtain rfl:=oi hm;exact q_l1 ()
theorem qQy (a1:List qG) (r:Int) (hm:NL a1=some r):CtX Tryz.prog globs 36 0 0 [.one (tl qM dd a1)] [] (qC8 r) (qDi r):=by
 unfold NL at hm;refine q_E f36 43 λE=>?_;refine s_vn [] 0 ⟨[(0,vc (tl qM dd a1))],[]⟩ (q_sq ?_);refine s_va 0 [(6,vb (decide ((a1.length:Int)>64)))] (q_cq hm (λhm=>?_) (λhm=>?_))
 ·refine s_vn [] 0 ⟨[(2,vi 4)],[]⟩ ?_;obtain rfl:=oi hm;exact q_rt q_rm
 ·refine q_sk (q_sq ?_);refine s_vv [] 0 [6] [(3,vi 0)] ?_;obtain⟨u18,h17,hm⟩:=qC hm;refine zP (nd f36 116) 0 (by kernel_rfl) FUEL (λo=>qFd) (λv st=>RetQ Tryz.prog f36 (qC8 v) (qDi v) .ret st) u18 (q_hl (IN a1 0) (qLz E a1 FUEL 0 u18 h17)) ?_ ?_
  ·rintro v19 rfl st hr;obtain rfl:=oi hm;exact hr
  ·rintro o16 rfl;replace hm:_=some r:=hm;refine s_vn [] 0 ⟨[(2,vi 0)],[]⟩ ?_;obtain rfl:=oi hm;exact q_rt q_rm
open Go.Proofs Go.Proofs.Tryz
def BW (r:Int):V:=vi r
def BX (r:Int):List (Nat×(Nat×O)):=[]
def qMH (a1:Scan) (x5:Int) (x15:Bool):St:=
 ⟨[(1,vp 0 0),(4,vi x5),(5,vp 1 0),(50,vb x15)],[(0,bx 25 (wF a1)),(1,bx 71 (qY (a1.Rings.getD x5.toNat dd)))]⟩
def IT (a1:Scan) (x4:Int) (x5:Int):St:=
 ⟨[(1,vp 0 0),(3,vi x4),(4,vi x5)],[(0,bx 25 (wF a1))]⟩
def qEq (a1:Scan) (x19:Int):St:=
 ⟨[(1,vp 0 0),(3,vi x19)],[(0,bx 25 (wF a1))]⟩
def IZ (a1:Scan) (o20:Int) (x27:Int):St:=
 ⟨[(1,vp 0 0),(3,vi o20),(8,vi x27)],[(0,bx 25 (wF a1))]⟩
def qEK :St:=
 ⟨[],[]⟩
theorem qLy (E:Env 0) (a1:Scan):∀(n:Nat) (x4:Int) (x5:Int) (res:Int⊕Int),wL a1 n x4 x5=some res->HL (kx E 86 0) (nd f18 500) (wJ 0 (λo=>qEq a1 o) (λv st=>RetQ Tryz.prog f18 (BW v) (BX v) .ret st) res) n (IT a1 x4 x5):=by
 intro n
 induction n with
 |zero=>
  intro x4 x5 res hm;cases hm
 |succ n ih=>
  intro x4 x5 res hm;refine qS (q_sq ?_);refine s_va 1 [(21,vb (decide (x5<(a1.Rings.length:Int))))] (q_cq hm (λhm=>?_) (λhm=>?_))
  ·refine q_sk (q_sq ?_);refine q_bk 1 ?_;obtain⟨g7,hm⟩:=qK hm;refine s_vu [qi 3 g7] 1 [21] [(5,vp 1 0)] [] [(1,bx 71 (qY (a1.Rings.getD x5.toNat dd)))] (q_sq ?_);obtain⟨v8,h9,hm⟩:=qC hm;refine s_vv [qc 1 [29] 2 (qQ9 (a1.Rings.getD x5.toNat dd) v8 h9)] 2 [] [(6,vi v8)] (s_va 2 [(32,vb (v8 !=0))] ?_);refine q_cq hm (λhm=>?_) (λhm=>?_)
   ·refine s_vn [] 2 ⟨[(2,vi v8)],[]⟩ ?_;obtain rfl:=oi hm;refine q_rt (zK v8 ?_);exact q_rm
   ·refine q_sk (q_sq ?_);refine q_jn (qMH a1 x5) (λp=>YK a1 x5 (wL a1 n) p=some res) ?_ ?_
    ·rintro x15 hm;refine q_cq hm (λhm=>?_) (λhm=>?_)
     ·refine s_vn [] 2 ⟨[(2,vi 11)],[]⟩ ?_;obtain rfl:=oi hm;refine q_rt (zK 11 ?_);exact q_rm
     ·refine q_sk (q_sq ?_);obtain⟨g17,hm⟩:=qK hm;refine s_du [qi 5 g17] [0,1,3,0,8,24,56,120,248,511] 2 [50] [(60,vb (((((a1.Rings.getD x5.toNat dd).Read).length:Nat):Int) !=((((a1.Rings.getD (0:Int).toNat dd).Read).length:Nat):Int)))] [] [] (q_cq hm (λhm=>?_) (λhm=>?_))
      ·refine s_vn [] 2 ⟨[(2,vi 19)],[]⟩ ?_;obtain rfl:=oi hm;refine q_rt (zK 19 ?_);exact q_rm
      ·refine q_sk (q_vu [] 2 [5,60] [(3,vi ((a1.Rings.getD x5.toNat dd).Z))] [1] [] ?_);exact q_vv [] 2 [4] [(4,vi (w64 (x5+1)))] (q_hl (IT a1 ((a1.Rings.getD x5.toNat dd).Z) (w64 (x5+1))) (ih ((a1.Rings.getD x5.toNat dd).Z) (w64 (x5+1)) _ hm))
    ·rcases bif_c hm with⟨b11,hm⟩|⟨b11,hm⟩
     ·rcases bif_c hm with⟨b12,hm⟩|⟨b12,hm⟩
      ·exact q_vv [qf 2 b11,qf 7 b12] 2 [3,6,32] [(50,vb true)] (q_J (true) hm)
      ·rcases bif_c hm with⟨b13,hm⟩|⟨b13,hm⟩
       ·exact q_vv [qf 2 b11,qf 7 b12,qf 10 b13] 2 [3,6,32] [(50,vb (decide (((a1.Rings.getD x5.toNat dd).Z)<=x4)))] (q_J (decide (((a1.Rings.getD x5.toNat dd).Z)<=x4)) hm)
       ·exact q_vv [qf 2 b11,qf 7 b12,qf 10 b13] 2 [3,6,32] [(50,vb false)] (q_J (false) hm)
     ·rcases bif_c hm with⟨b14,hm⟩|⟨b14,hm⟩
      ·exact q_vv [qf 2 b11,qf 10 b14] 2 [3,6,32] [(50,vb (decide (((a1.Rings.getD x5.toNat dd).Z)<=x4)))] (q_J (decide (((a1.Rings.getD x5.toNat dd).Z)<=x4)) hm)
      ·exact q_vv [qf 2 b11,qf 10 b14] 2 [3,6,32] [(50,vb false)] (q_J (false) hm)
  ·refine q_ex 0 ?_;obtain rfl:=oi hm;exact q_l1 x4
theorem qLa (E:Env 0) (a1:Scan) (o20:Int):∀(n:Nat) (x27:Int) (res:Int⊕Unit),PG a1 o20 n x27=some res->HL (kx E 86 0) (nd f18 2036) (wJ 2 (λo=>qEK) (λv st=>RetQ Tryz.prog f18 (BW v) (BX v) .ret st) res) n (IZ a1 o20 x27):=by
 intro n
 induction n with
 |zero=>
  intro x27 res hm;cases hm
 |succ n ih=>
  intro x27 res hm;refine qS (q_sq ?_);refine s_va 1 [(73,vb (decide (x27<(a1.Defects.length:Int))))] (q_cq hm (λhm=>?_) (λhm=>?_))
  ·refine q_sk (q_sq ?_);refine q_bk 3 ?_;obtain⟨g29,hm⟩:=qK hm;refine s_vv [qi 3 g29] 1 [73] [(85,vb (decide (((((a1.Defects.getD x27.toNat dd).Box).Z).B)>o20)))] (q_cq hm (λhm=>?_) (λhm=>?_))
   ·refine s_vn [] 1 ⟨[(2,vi 9)],[]⟩ ?_;obtain rfl:=oi hm;refine q_rt (zK 9 ?_);exact q_rm
   ·refine q_sk (q_vv [] 1 [8,85] [(8,vi (w64 (x27+1)))] ?_);exact q_hl (IZ a1 o20 (w64 (x27+1))) (ih (w64 (x27+1)) _ hm)
  ·refine q_ex 2 ?_;obtain rfl:=oi hm;exact q_l1 ()
theorem qQN (a1:Scan) (r:Int) (hm:EY a1=some r):CtX Tryz.prog globs 18 0 0 [.agg (wF a1)] [] (BW r) (BX r):=by
 unfold EY at hm;refine q_E f18 86 λE=>?_;refine s_vn [] 0 ⟨[(1,vp 0 0)],[(0,bx 25 (wF a1))]⟩ (q_sq ?_);refine s_va 1 [(12,vb (decide ((a1.Rings.length:Int)<2)))] (q_cq hm (λhm=>?_) (λhm=>?_))
 ·refine s_vn [] 1 ⟨[(2,vi 3)],[]⟩ ?_;obtain rfl:=oi hm;exact q_rt q_rm
 ·refine q_sk (q_sq ?_);refine s_vv [] 1 [12] [(16,vb (decide ((a1.Rings.length:Int)>24)))] (q_cq hm (λhm=>?_) (λhm=>?_))
  ·refine s_vn [] 1 ⟨[(2,vi 4)],[]⟩ ?_;obtain rfl:=oi hm;exact q_rt q_rm
  ·refine q_sk (s_vv [] 1 [16] [(3,vi 0)] ?_);refine q_sq (s_va 1 [(4,vi 0)] ?_);obtain⟨u22,h21,hm⟩:=qC hm;refine zP (nd f18 500) 0 (by kernel_rfl) FUEL (λo=>qEq a1 o) (λv st=>RetQ Tryz.prog f18 (BW v) (BX v) .ret st) u22 (q_hl (IT a1 0 0) (qLy E a1 FUEL 0 0 u22 h21)) ?_ ?_
   ·rintro v23 rfl st hr;obtain rfl:=oi hm;exact hr
   ·rintro o20 rfl;replace hm:_=some r:=hm;refine q_sq ?_;obtain⟨v24,h25,hm⟩:=qC hm;refine s_vv [qc 2 [64] 1 (qQy a1.Defects v24 h25)] 1 [] [(7,vi v24)] (s_va 1 [(67,vb (v24 !=0))] ?_);refine q_cq hm (λhm=>?_) (λhm=>?_)
    ·refine s_vn [] 1 ⟨[(2,vi v24)],[]⟩ ?_;obtain rfl:=oi hm;exact q_rt q_rm
    ·refine q_sk (q_sq ?_);refine s_vv [] 1 [7,67] [(8,vi 0)] ?_;obtain⟨u33,h32,hm⟩:=qC hm;refine zP (nd f18 2036) 2 (by kernel_rfl) FUEL (λo=>qEK) (λv st=>RetQ Tryz.prog f18 (BW v) (BX v) .ret st) u33 (q_hl (IZ a1 o20 0) (qLa E a1 o20 FUEL 0 u33 h32)) ?_ ?_
     ·rintro v34 rfl st hr;obtain rfl:=oi hm;exact hr
     ·rintro o31 rfl;replace hm:_=some r:=hm;refine s_vn [] 1 ⟨[(2,vi 0)],[]⟩ ?_;obtain rfl:=oi hm;exact q_rt q_rm
end Saw
end Go.SL

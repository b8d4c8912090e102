import Derived.Test.YtigmogcdifllhaaGreatDoorEBase
import Derived.Test.YtigmogcdifllhaaGreatDoorEFa12
set_option linter.unusedVariables false
set_option linter.unusedSimpArgs false
namespace Go.SL
namespace Saw
open Go.Proofs Go.Proofs.Tryz
set_option maxHeartbeats 4000000
set_option maxRecDepth 100000
def qTO (r:qN×Int):V:= .tup [.agg [ci r.1.Quarters,ci r.1.Pattern.Frame.X.A,ci r.1.Pattern.Frame.X.B,ci r.1.Pattern.Frame.Y.A,ci r.1.Pattern.Frame.Y.B,tl qL dd r.1.Pattern.Nodes,ci r.1.Value],.one (ci r.2)]
def qSz (r:qN×Int):List (Nat×(Nat×O)):=[]
def qDe (v7:(List qN)×Int) (x12:Int):St:=
 ⟨[(12,vp 3 0),(16,vp 5 0),(37,vc (.sub 4 0 7 ((1:Int).toNat) (v7.1.length-(1:Int).toNat))),(38,vi (((v7.1.length-(1:Int).toNat):Nat):Int)),(39,vi x12)],[(3,bx 60 [ci 0,ci 0,ci 0,ci 0,ci 0,.emp,ci 0]),(4,ro 0 60 7 v7.1.length (rf zN v7.1))]⟩
def qFd (v7:(List qN)×Int) (x12:Int) (x18:Int) (x19:Int) (x20:Int) (x21:Int) (x22:Int) (l23:List Node) (x24:Int):St:=
 (qDe v7 x12).up [] [] [] [(5,bx 60 [ci x18,ci x19,ci x20,ci x21,ci x22,tl qL dd l23,ci x24])]
def CR (v7:(List qN)×Int) (x12:Int) (x13:qN):St:=
 (qDe v7 x12).up [] [] [] [(5,bx 60 (zN x13))]
def qFK (x25:Int) (x26:Int) (x27:Int) (x28:Int) (x29:Int) (l30:List Node) (x31:Int):St:=
 ⟨[(12,vp 3 0),(16,vp 5 0)],[(3,bx 60 [ci 0,ci 0,ci 0,ci 0,ci 0,.emp,ci 0]),(5,bx 60 [ci x25,ci x26,ci x27,ci x28,ci x29,tl qL dd l30,ci x31])]⟩
theorem qMX (E:Env 0) (v7:(List qN)×Int):∀(n:Nat) (x12:Int) (x13:qN) (res:Int×Int×Int×Int×Int×(List Node)×Int),VW v7 n x12 x13=some res->HL (kx E 51 0) (nd f20 500) (zM 0 (λo=>qFK o.1 o.2.1 o.2.2.1 o.2.2.2.1 o.2.2.2.2.1 o.2.2.2.2.2.1 o.2.2.2.2.2.2) res) n (CR v7 x12 x13):=by
 intro n
 induction n with
 |zero=>
  intro x12 x13 res hm;cases hm
 |succ n ih=>
  intro x12 x13 res hm;refine qS (s_va 6 [(40,vb (decide (x12<(((v7.1.length-(1:Int).toNat):Nat):Int))))] ?_);refine q_sq (q_cq hm (λhm=>?_) (λhm=>?_))
  ·refine q_sk (q_jn (ι:=Int×Int×Int×Int×Int×(List Node)×Int) (λp=>qFd v7 x12 p.1 p.2.1 p.2.2.1 p.2.2.2.1 p.2.2.2.2.1 p.2.2.2.2.2.1 p.2.2.2.2.2.2) (λp=>qCq x12 (VW v7 n) p.1 p.2.1 p.2.2.1 p.2.2.2.1 p.2.2.2.2.1 p.2.2.2.2.2.1 p.2.2.2.2.2.2=some res) ?_ ?_)
   ·rintro⟨x18,x19,x20,x21,x22,l23,x24⟩ hm;show H _ (qFd v7 x12 x18 x19 x20 x21 x22 l23 x24) _ _;exact q_vv [] 7 [39] [(39,vi (w64 (x12+1)))] (q_hl (CR v7 (w64 (x12+1)) (qN.mk x18 (Pattern.mk (Rect.mk (Span.mk x19 x20) (Span.mk x21 x22)) l23) x24)) (ih (w64 (x12+1)) (qN.mk x18 (Pattern.mk (Rect.mk (Span.mk x19 x20) (Span.mk x21 x22)) l23) x24) _ hm))
   ·refine q_bk 1 ?_;obtain⟨g15,hm⟩:=qJ hm;obtain⟨g16,hm⟩:=qJ hm;refine s_vu [qi 0 g15,qd 1 dN (uc (uO (qW (zC g15)) ((1:Int).toNat)) (kJ g16))] 6 [40] [(18,vp 6 0)] [] [(6,bx 60 (zN (v7.1.getD (((1:Int).toNat)+x12.toNat) dd)))] (s_va 7 [(47,vb (decide (((v7.1.getD (((1:Int).toNat)+x12.toNat) dd).Value)>x13.Value)))] ?_);refine q_cq hm (λhm=>?_) (λhm=>?_)
    ·exact q_vu [] 7 [18,47] [] [5,6] [(5,bx 60 (zN (v7.1.getD (((1:Int).toNat)+x12.toNat) dd)))] (q_J ((v7.1.getD (((1:Int).toNat)+x12.toNat) dd).Quarters,((((v7.1.getD (((1:Int).toNat)+x12.toNat) dd).Pattern).Frame).X).A,((((v7.1.getD (((1:Int).toNat)+x12.toNat) dd).Pattern).Frame).X).B,((((v7.1.getD (((1:Int).toNat)+x12.toNat) dd).Pattern).Frame).Y).A,((((v7.1.getD (((1:Int).toNat)+x12.toNat) dd).Pattern).Frame).Y).B,((v7.1.getD (((1:Int).toNat)+x12.toNat) dd).Pattern).Nodes,(v7.1.getD (((1:Int).toNat)+x12.toNat) dd).Value) hm)
    ·exact q_sk (q_J (x13.Quarters,x13.Pattern.Frame.X.A,x13.Pattern.Frame.X.B,x13.Pattern.Frame.Y.A,x13.Pattern.Frame.Y.B,x13.Pattern.Nodes,x13.Value) hm)
  ·refine q_ex 0 ?_;obtain rfl:=oi hm;exact q_l0
theorem qIs (a1:Scan) (a2:List qK) (a3:Saw) (a4:Rates) (a5:Int) (a6:Int) (r:qN×Int) (hm:PB a1 a2 a3 a4 a5 a6=some r):CtX Tryz.prog globs 20 0 0 [.agg (zZ a1),.one (tl qR dd a2),.agg (jX a3),.agg (wF a4),.one (ci a5),.one (ci a6)] [] (qTO r) (qSz r):=by
 unfold PB at hm;refine q_E f20 51 λE=>?_;refine s_vn [] 0 ⟨[(1,vc (tl qR dd a2)),(4,vi a5),(5,vi a6),(6,vp 0 0),(8,vp 1 0),(9,vp 2 0),(12,vp 3 0)],[(0,bx 25 (zZ a1)),(1,bx 39 (jX a3)),(2,bx 41 (wF a4)),(3,bx 60 [ci 0,ci 0,ci 0,ci 0,ci 0,.emp,ci 0])]⟩ ?_;obtain⟨v7,h8,hm⟩:=qB hm;refine s_vu [qc 6 [20,21,22,23,24,25] 4 (qJH a1 a2 a3 a4 a5 a6 v7 h8)] 4 [1,4,5,6,8,9] [(14,vo 4 0 7 v7.1.length),(15,vi v7.2)] [0,1,2] [(4,ro 0 60 7 v7.1.length (rf zN v7.1))] (q_sq ?_);refine s_va 5 [(30,vb (v7.2 !=0))] (q_cq hm (λhm=>?_) (λhm=>?_))
 ·refine s_vu [] 5 [14,15,30] [(13,vi v7.2)] [4] [] (q_fu [.ownB 3 5 5 156 2 (rf qL [])] [] [] [3] [(3,bx 60 [ci 0,ci 0,ci 0,ci 0,ci 0,.own 5 0 2 0,ci 0]),(5,ro 0 156 2 0 (rf qL []))] o0 ?_);refine q_fu [.len 5 (([]:List Node).length),.frz 5] [] [] [3,5] [(3,bx 60 [ci 0,ci 0,ci 0,ci 0,ci 0,tl qL dd ([]:List Node),ci 0])] (o1 (And.intro (And.intro (show 0=([]:List Node).length from rfl) (show 0=([]:List Node).length from rfl)) (ke (([]:List Node).length)))) ?_;obtain rfl:=oi hm;exact q_rt q_rm
 ·refine q_sk ?_;obtain⟨g10,hm⟩:=qJ hm;refine s_vu [qi 1 g10,qd 2 dN (qW (zC g10))] 5 [15,30] [(16,vp 5 0)] [] [(5,bx 60 (zN (v7.1.getD ((0:Int).toNat) dd)))] (q_sq ?_);obtain⟨g11,hm⟩:=qJ hm;refine s_vv [qd 1 dN (And.intro (zS g11).1 (zS g11).2.1)] 6 [14] [(37,vc (.sub 4 0 7 ((1:Int).toNat) (v7.1.length-(1:Int).toNat))),(38,vi (((v7.1.length-(1:Int).toNat):Nat):Int)),(39,vi 0)] ?_;obtain⟨o32,h33,hm⟩:=qB hm
  refine zG (nd f20 500) 0 (by kernel_rfl) FUEL (λo=>qFK o.1 o.2.1 o.2.2.1 o.2.2.2.1 o.2.2.2.2.1 o.2.2.2.2.2.1 o.2.2.2.2.2.2) o32 (q_hl (CR v7 0 (v7.1.getD ((0:Int).toNat) dd)) (qMX E v7 FUEL 0 (v7.1.getD ((0:Int).toNat) dd) o32 h33)) (s_vu [] 6 [16] [(13,vi 0)] [3,5] [(3,bx 60 [ci o32.1,ci o32.2.1,ci o32.2.2.1,ci o32.2.2.2.1,ci o32.2.2.2.2.1,tl qL dd o32.2.2.2.2.2.1,ci o32.2.2.2.2.2.2])] ?_);obtain rfl:=oi hm;exact q_rt q_rm
def qEx (r:Bool):V:=vb r
def qEM (r:Bool):List (Nat×(Nat×O)):=[]
def CI (a1:List Span) (a2:List Span) (x4:Int):St:=
 ⟨[(0,vc (tl qH dd a1)),(1,vc (tl qH dd a2)),(5,vi x4)],[]⟩
def qFJ :St:=
 ⟨[],[]⟩
theorem qNj (E:Env 0) (a1:List Span) (a2:List Span):∀(n:Nat) (x4:Int) (res:Bool⊕Unit),JT a1 a2 n x4=some res->HL (kx E 26 0) (nd f51 116) (wD 0 (λo=>qFJ) (λv st=>RetQ Tryz.prog f51 (qEx v) (qEM v) .ret st) res) n (CI a1 a2 x4):=by
 intro n
 induction n with
 |zero=>
  intro x4 res hm;cases hm
 |succ n ih=>
  intro x4 res hm;refine qS (q_sq ?_);refine s_va 0 [(14,vb (decide (x4<(a1.length:Int))))] (q_cq hm (λhm=>?_) (λhm=>?_))
  ·refine q_sk (q_sq ?_);refine q_bk 1 ?_;obtain⟨g6,hm⟩:=qJ hm;obtain⟨g7,hm⟩:=qJ hm;refine s_du [qi 2 g6,qi 6 g7] [0,0,3,7,0,0,48,112,255] 0 [14] [(25,vb (!((((a1.getD x4.toNat dd).A)==((a2.getD x4.toNat dd).A))&&((((a1.getD x4.toNat dd).B)==((a2.getD x4.toNat dd).B))&&true))))] [] [] (q_cq hm (λhm=>?_) (λhm=>?_))
   ·refine s_vn [] 0 ⟨[(4,vb false)],[]⟩ ?_;obtain rfl:=oi hm;refine q_rt (zJ false ?_);exact q_rm
   ·refine q_sk (q_vv [] 0 [5,25] [(5,vi (w64 (x4+1)))] ?_);exact q_hl (CI a1 a2 (w64 (x4+1))) (ih (w64 (x4+1)) _ hm)
  ·refine q_ex 0 ?_;obtain rfl:=oi hm;exact q_l1 ()
theorem qRQ (a1:List Span) (a2:List Span) (r:Bool) (hm:zaQ a1 a2=some r):CtX Tryz.prog globs 51 0 0 [.one (tl qH dd a1),.one (tl qH dd a2)] [] (qEx r) (qEM r):=by
 unfold zaQ at hm;refine q_E f51 26 λE=>?_;refine s_vn [] 0 ⟨[(0,vc (tl qH dd a1)),(1,vc (tl qH dd a2))],[]⟩ (q_sq ?_);refine s_va 0 [(10,vb ((a1.length:Int) !=(a2.length:Int)))] (q_cq hm (λhm=>?_) (λhm=>?_))
 ·refine s_vn [] 0 ⟨[(4,vb false)],[]⟩ ?_;obtain rfl:=oi hm;exact q_rt q_rm
 ·refine q_sk (q_sq ?_);refine s_vv [] 0 [10] [(5,vi 0)] ?_;obtain⟨u11,h10,hm⟩:=qB hm;refine zO (nd f51 116) 0 (by kernel_rfl) FUEL (λo=>qFJ) (λv st=>RetQ Tryz.prog f51 (qEx v) (qEM v) .ret st) u11 (q_hl (CI a1 a2 0) (qNj E a1 a2 FUEL 0 u11 h10)) ?_ ?_
  ·rintro v12 rfl st hr;obtain rfl:=oi hm;exact hr
  ·rintro o9 rfl;replace hm:_=some r:=hm;refine s_vn [] 0 ⟨[(4,vb true)],[]⟩ ?_;obtain rfl:=oi hm;exact q_rt q_rm
def qEb (r:Bool):V:=vb r
def qD9 (r:Bool):List (Nat×(Nat×O)):=[]
def IE (a1:List qF) (a2:List qF) (x4:Int):St:=
 ⟨[(0,vc (tl qI dd a1)),(1,vc (tl qI dd a2)),(5,vi x4)],[]⟩
def qFW :St:=
 ⟨[],[]⟩
theorem qMq (E:Env 0) (a1:List qF) (a2:List qF):∀(n:Nat) (x4:Int) (res:Bool⊕Unit),JO a1 a2 n x4=some res->HL (kx E 26 0) (nd f13 116) (wD 0 (λo=>qFW) (λv st=>RetQ Tryz.prog f13 (qEb v) (qD9 v) .ret st) res) n (IE a1 a2 x4):=by
 intro n
 induction n with
 |zero=>
  intro x4 res hm;cases hm
 |succ n ih=>
  intro x4 res hm;refine qS (q_sq ?_);refine s_va 0 [(14,vb (decide (x4<(a1.length:Int))))] (q_cq hm (λhm=>?_) (λhm=>?_))
  ·refine q_sk (q_sq ?_);refine q_bk 1 ?_;obtain⟨g6,hm⟩:=qJ hm;obtain⟨g7,hm⟩:=qJ hm
   refine s_du [qi 2 g6,qi 6 g7] [0,0,3,7,0,0,48,112,255] 0 [14] [(25,vb (!((((a1.getD x4.toNat dd).Kind)==((a2.getD x4.toNat dd).Kind))&&((((((((a1.getD x4.toNat dd).Box).X).A)==((((a2.getD x4.toNat dd).Box).X).A))&&((((((a1.getD x4.toNat dd).Box).X).B)==((((a2.getD x4.toNat dd).Box).X).B))&&true))&&(((((((a1.getD x4.toNat dd).Box).Y).A)==((((a2.getD x4.toNat dd).Box).Y).A))&&((((((a1.getD x4.toNat dd).Box).Y).B)==((((a2.getD x4.toNat dd).Box).Y).B))&&true))&&(((((((a1.getD x4.toNat dd).Box).Z).A)==((((a2.getD x4.toNat dd).Box).Z).A))&&((((((a1.getD x4.toNat dd).Box).Z).B)==((((a2.getD x4.toNat dd).Box).Z).B))&&true))&&true)))&&true))))] [] [] (q_cq hm (λhm=>?_) (λhm=>?_))
   ·refine s_vn [] 0 ⟨[(4,vb false)],[]⟩ ?_;obtain rfl:=oi hm;refine q_rt (zJ false ?_);exact q_rm
   ·refine q_sk (q_vv [] 0 [5,25] [(5,vi (w64 (x4+1)))] ?_);exact q_hl (IE a1 a2 (w64 (x4+1))) (ih (w64 (x4+1)) _ hm)
  ·refine q_ex 0 ?_;obtain rfl:=oi hm;exact q_l1 ()
theorem QG (a1:List qF) (a2:List qF) (r:Bool) (hm:PT a1 a2=some r):CtX Tryz.prog globs 13 0 0 [.one (tl qI dd a1),.one (tl qI dd a2)] [] (qEb r) (qD9 r):=by
 unfold PT at hm;refine q_E f13 26 λE=>?_;refine s_vn [] 0 ⟨[(0,vc (tl qI dd a1)),(1,vc (tl qI dd a2))],[]⟩ (q_sq ?_);refine s_va 0 [(10,vb ((a1.length:Int) !=(a2.length:Int)))] (q_cq hm (λhm=>?_) (λhm=>?_))
 ·refine s_vn [] 0 ⟨[(4,vb false)],[]⟩ ?_;obtain rfl:=oi hm;exact q_rt q_rm
 ·refine q_sk (q_sq ?_);refine s_vv [] 0 [10] [(5,vi 0)] ?_;obtain⟨u11,h10,hm⟩:=qB hm;refine zO (nd f13 116) 0 (by kernel_rfl) FUEL (λo=>qFW) (λv st=>RetQ Tryz.prog f13 (qEb v) (qD9 v) .ret st) u11 (q_hl (IE a1 a2 0) (qMq E a1 a2 FUEL 0 u11 h10)) ?_ ?_
  ·rintro v12 rfl st hr;obtain rfl:=oi hm;exact hr
  ·rintro o9 rfl;replace hm:_=some r:=hm;refine s_vn [] 0 ⟨[(4,vb true)],[]⟩ ?_;obtain rfl:=oi hm;exact q_rt q_rm
open Go.Proofs Go.Proofs.Tryz
def ZO (r:Bool):V:=vb r
def jO (r:Bool):List (Nat×(Nat×O)):=[]
theorem qLk (r:Bool):yE (jO r):=by
 intro i k o h;unfold jO at h;cases h
def QB (a1:List qZ) (a2:List qZ) (x4:Int):St:=
 ⟨[(0,vc (tl ZA dd a1)),(1,vc (tl ZA dd a2)),(5,vi x4)],[]⟩
def qIr (a1:List qZ) (a2:List qZ) (x4:Int) (x13:Int) (x23:Bool):St:=
 (QB a1 a2 x4).up [] [(6,vi x13),(96,vb x23)] [] []
def UW (a1:List qZ) (a2:List qZ) (x4:Int) (x13:Int):St:=
 (QB a1 a2 x4).up [] [(6,vi x13)] [] []
def OQ (a1:List qZ) (a2:List qZ) (x4:Int):St:=
 (QB a1 a2 x4).up [] [] [] []
def qHD (a1:List qZ) (a2:List qZ) (x4:Int) (x11:Bool):St:=
 (QB a1 a2 x4).up [] [(46,vb x11)] [] []
def VC (a1:List qZ) (a2:List qZ) (x4:Int):St:=
 (QB a1 a2 x4).up [] [] [] []
def AL :St:=
 ⟨[],[]⟩
theorem qGZ (E:Env 0) (a1:List qZ) (a2:List qZ) (x4:Int):∀(n:Nat) (x13:Int) (res:Bool⊕Unit),wK a1 a2 x4 n x13=some res->HL (kx E 97 0) (nd f28 14924) (wD 2 (λo=>OQ a1 a2 x4) (λv st=>RetQ Tryz.prog f28 (ZO v) (jO v) .ret st) res) n (UW a1 a2 x4 x13):=by
 intro n
 induction n with
 |zero=>
  intro x13 res hm;cases hm
 |succ n ih=>
  intro x13 res hm;refine qS (q_sq ?_);obtain⟨g14,hm⟩:=qJ hm;refine s_vv [qi 3 g14] 0 [] [(54,vb (decide (x13<((((a1.getD x4.toNat dd).Solid).length:Nat):Int))))] (q_cq hm (λhm=>?_) (λhm=>?_))
  ·refine q_sk (q_sq ?_);refine q_bk 3 ?_;obtain⟨g16,hm⟩:=qJ hm;obtain⟨g17,hm⟩:=qJ hm;obtain⟨g18,hm⟩:=qJ hm;refine s_du [qi 2 g14,qi 6 g16,qi 10 g17,qi 14 g18] [0,0,3,7,15,0,63,127,0,0,768,1792,3840,0,16128,32512,0,0,196863,524287] 0 [54] [(7,vp 0 0),(8,vp 1 0)] [] [(0,bx 80 (qM (((a1.getD x4.toNat dd).Solid).getD x13.toNat dd))),(1,bx 80 (qM (((a2.getD x4.toNat dd).Solid).getD x13.toNat dd)))] (q_jn (qIr a1 a2 x4 x13) (λp=>WY x13 (wK a1 a2 x4 n) p=some res) ?_ ?_)
   ·rintro x23 hm;refine q_cq hm (λhm=>?_) (λhm=>?_)
    ·refine s_vn [] 2 ⟨[(4,vb false)],[]⟩ ?_;obtain rfl:=oi hm;refine q_rt (zJ false ?_);exact q_rm
    ·refine q_sk (q_vv [] 2 [6,96] [(6,vi (w64 (x13+1)))] ?_);exact q_hl (UW a1 a2 x4 (w64 (x13+1))) (ih (w64 (x13+1)) _ hm)
   ·rcases bif_c hm with⟨b19,hm⟩|⟨b19,hm⟩
    ·exact q_vu [qf 5 b19] 2 [7,8] [(96,vb true)] [0,1] [] (q_J (true) hm)
    ·rcases bif_c hm with⟨b20,hm⟩|⟨b20,hm⟩
     ·exact q_vu [qf 5 b19,qf 14 b20] 2 [7,8] [(96,vb true)] [0,1] [] (q_J (true) hm)
     ·obtain⟨v21,h22,hm⟩:=qB hm;exact q_vu [qf 5 b19,qf 14 b20,qk 21 [87,90,93] 2 ⟨[(87,vb false),(90,vc (tl qH dd (((((a1.getD x4.toNat dd).Solid).getD x13.toNat dd).Sec).Rows))),(93,vc (tl qH dd (((((a2.getD x4.toNat dd).Solid).getD x13.toNat dd).Sec).Rows)))],[]⟩ (qRQ (((((a1.getD x4.toNat dd).Solid).getD x13.toNat dd).Sec).Rows) (((((a2.getD x4.toNat dd).Solid).getD x13.toNat dd).Sec).Rows) v21 h22)] 2 [7,8] [(96,vb (!v21))] [0,1] [] (q_J (!v21) hm)
  ·refine q_ex 2 ?_;obtain rfl:=oi hm;exact q_l1 ()
theorem qGU (E:Env 0) (a1:List qZ) (a2:List qZ):∀(n:Nat) (x4:Int) (res:Bool⊕Unit),jF a1 a2 n x4=some res->HL (kx E 97 0) (nd f28 116) (wD 0 (λo=>AL) (λv st=>RetQ Tryz.prog f28 (ZO v) (jO v) .ret st) res) n (VC a1 a2 x4):=by
 intro n
 induction n with
 |zero=>
  intro x4 res hm;cases hm
 |succ n ih=>
  intro x4 res hm;refine qS (q_sq ?_);refine s_va 0 [(17,vb (decide (x4<(a1.length:Int))))] (q_cq hm (λhm=>?_) (λhm=>?_))
  ·refine q_sk (q_sq ?_);refine q_bk 1 (q_sq ?_);refine q_jn (qHD a1 a2 x4) (λp=>QP a1 a2 x4 (jF a1 a2 n) p=some res) ?_ ?_
   ·rintro x11 hm;refine q_cq hm (λhm=>?_) (λhm=>?_)
    ·refine s_vn [] 0 ⟨[(4,vb false)],[]⟩ ?_;obtain rfl:=oi hm;refine q_rt (zJ false ?_);exact q_rm
    ·refine q_sk (s_vv [] 0 [46] [(6,vi 0)] ?_);obtain⟨u27,h26,hm⟩:=qB hm;refine zO (nd f28 14924) 2 (by kernel_rfl) FUEL (λo=>OQ a1 a2 x4) (λv st=>RetQ Tryz.prog f28 (ZO v) (jO v) .ret st) u27 (q_hl (UW a1 a2 x4 0) (qGZ E a1 a2 x4 FUEL 0 u27 h26)) ?_ ?_
     ·rintro v28 rfl st hr;obtain rfl:=oi hm;exact zJ v28 hr
     ·rintro o25 rfl;replace hm:_=some res:=hm;exact q_vv [] 0 [5] [(5,vi (w64 (x4+1)))] (q_hl (VC a1 a2 (w64 (x4+1))) (ih (w64 (x4+1)) _ hm))
   ·obtain⟨g6,hm⟩:=qJ hm;obtain⟨g7,hm⟩:=qJ hm;obtain⟨v8,h9,hm⟩:=qB hm;rcases bif_c hm with⟨b10,hm⟩|⟨b10,hm⟩
    ·exact q_du [qi 2 g6,qi 7 g7,qc 10 [24,29] 0 (QG ((a1.getD x4.toNat dd).Defects) ((a2.getD x4.toNat dd).Defects) v8 h9),qf 12 b10] [0,0,3,7,15,0,0,96,224,480,1023,2047,4095,8191,8191,32767,65535,131071,262143,8191,8191,1581055,3678207,7872511,16261119,33554431,67108863] 0 [17] [(46,vb true)] [] [] (q_J (true) hm)
    ·exact q_du [qi 2 g6,qi 7 g7,qc 10 [24,29] 0 (QG ((a1.getD x4.toNat dd).Defects) ((a2.getD x4.toNat dd).Defects) v8 h9),qf 12 b10,qi 15 g6,qi 21 g7] [0,0,3,7,15,0,0,96,224,480,1023,2047,4095,8191,8191,32767,65535,131071,262143,8191,8191,1581055,3678207,7872511,16261119,33554431,67108863] 0 [17] [(46,vb (((((a1.getD x4.toNat dd).Solid).length:Nat):Int) !=((((a2.getD x4.toNat dd).Solid).length:Nat):Int)))] [] [] (q_J (((((a1.getD x4.toNat dd).Solid).length:Nat):Int) !=((((a2.getD x4.toNat dd).Solid).length:Nat):Int)) hm)
  ·refine q_ex 0 ?_;obtain rfl:=oi hm;exact q_l1 ()
theorem qJx (a1:List qZ) (a2:List qZ) (r:Bool) (hm:DF a1 a2=some r):CtX Tryz.prog globs 28 0 0 [.one (tl ZA dd a1),.one (tl ZA dd a2)] [] (ZO r) (jO r):=by
 unfold DF at hm;refine q_E f28 97 λE=>?_;refine s_vn [] 0 ⟨[(0,vc (tl ZA dd a1)),(1,vc (tl ZA dd a2))],[]⟩ (q_sq ?_);refine s_va 0 [(13,vb ((a1.length:Int) !=(a2.length:Int)))] (q_cq hm (λhm=>?_) (λhm=>?_))
 ·refine s_vn [] 0 ⟨[(4,vb false)],[]⟩ ?_;obtain rfl:=oi hm;exact q_rt q_rm
 ·refine q_sk (q_sq ?_);refine s_vv [] 0 [13] [(5,vi 0)] ?_;obtain⟨u31,h30,hm⟩:=qB hm;refine zO (nd f28 116) 0 (by kernel_rfl) FUEL (λo=>AL) (λv st=>RetQ Tryz.prog f28 (ZO v) (jO v) .ret st) u31 (q_hl (VC a1 a2 0) (qGU E a1 a2 FUEL 0 u31 h30)) ?_ ?_
  ·rintro v32 rfl st hr;obtain rfl:=oi hm;exact hr
  ·rintro o29 rfl;replace hm:_=some r:=hm;refine s_vn [] 0 ⟨[(4,vb true)],[]⟩ ?_;obtain rfl:=oi hm;exact q_rt q_rm
def FI (r:Bool):V:=vb r
def YW (r:Bool):List (Nat×(Nat×O)):=[]
theorem qPG (r:Bool):yE (YW r):=by
 intro i k o h;unfold YW at h;cases h
def qKO (a1:List qA) (x2:Int) (x8:Bool):St:=
 ⟨[(0,vc (tl qE dd a1)),(3,vi x2),(39,vb x8)],[]⟩
def MB (a1:List qA) (x2:Int):St:=
 ⟨[(0,vc (tl qE dd a1)),(3,vi x2)],[]⟩
def qDc :St:=
 ⟨[],[]⟩
theorem qJy (E:Env 0) (a1:List qA):∀(n:Nat) (x2:Int) (res:Bool⊕Unit),wM a1 n x2=some res->HL (kx E 40 0) (nd f72 52) (wD 0 (λo=>qDc) (λv st=>RetQ Tryz.prog f72 (FI v) (YW v) .ret st) res) n (MB a1 x2):=by
 intro n
 induction n with
 |zero=>
  intro x2 res hm;cases hm
 |succ n ih=>
  intro x2 res hm;refine qS (q_sq ?_);refine s_va 0 [(7,vb (decide (x2<(a1.length:Int))))] (q_cq hm (λhm=>?_) (λhm=>?_))
  ·refine q_sk (q_sq ?_);refine q_bk 1 (q_jn (qKO a1 x2) (λp=>ZG x2 (wM a1 n) p=some res) ?_ ?_)
   ·rintro x8 hm;refine q_cq hm (λhm=>?_) (λhm=>?_)
    ·refine s_vn [] 0 ⟨[(2,vb false)],[]⟩ ?_;obtain rfl:=oi hm;refine q_rt (zJ false ?_);exact q_rm
    ·refine q_sk (q_vv [] 0 [3,39] [(3,vi (w64 (x2+1)))] ?_);exact q_hl (MB a1 (w64 (x2+1))) (ih (w64 (x2+1)) _ hm)
   ·obtain⟨g4,hm⟩:=qJ hm;rcases bif_c hm with⟨b5,hm⟩|⟨b5,hm⟩
    ·exact q_vv [qi 2 g4,qf 6 b5] 0 [7] [(39,vb true)] (q_J (true) hm)
    ·rcases bif_c hm with⟨b6,hm⟩|⟨b6,hm⟩
     ·exact q_vv [qi 2 g4,qf 6 b5,qi 9 g4,qf 14 b6] 0 [7] [(39,vb true)] (q_J (true) hm)
     ·rcases bif_c hm with⟨b7,hm⟩|⟨b7,hm⟩
      ·exact q_vv [qi 2 g4,qf 6 b5,qi 9 g4,qf 14 b6,qi 17 g4,qf 22 b7] 0 [7] [(39,vb true)] (q_J (true) hm)
      ·exact q_vv [qi 2 g4,qf 6 b5,qi 9 g4,qf 14 b6,qi 17 g4,qf 22 b7,qi 25 g4] 0 [7] [(39,vb (decide (((a1.getD x2.toNat dd).Y)>600)))] (q_J (decide (((a1.getD x2.toNat dd).Y)>600)) hm)
  ·refine q_ex 0 ?_;obtain rfl:=oi hm;exact q_l1 ()
theorem qOE (a1:List qA) (r:Bool) (hm:QF a1=some r):CtX Tryz.prog globs 72 0 0 [.one (tl qE dd a1)] [] (FI r) (YW r):=by
 unfold QF at hm;refine q_E f72 40 λE=>?_;refine s_vn [] 0 ⟨[(0,vc (tl qE dd a1))],[]⟩ (q_sq ?_);refine s_va 0 [(3,vi 0)] ?_;obtain⟨u12,h11,hm⟩:=qB hm;refine zO (nd f72 52) 0 (by kernel_rfl) FUEL (λo=>qDc) (λv st=>RetQ Tryz.prog f72 (FI v) (YW v) .ret st) u12 (q_hl (MB a1 0) (qJy E a1 FUEL 0 u12 h11)) ?_ ?_
 ·rintro v13 rfl st hr;obtain rfl:=oi hm;exact hr
 ·rintro o10 rfl;replace hm:_=some r:=hm;refine s_vn [] 0 ⟨[(2,vb true)],[]⟩ ?_;obtain rfl:=oi hm;exact q_rt q_rm
def qCH (r:Int):V:=vi r
def qCD (r:Int):List (Nat×(Nat×O)):=[]
def qMN (a1:Ring) (x7:Int) (x16:Bool):St:=
 ⟨[(1,vp 0 0),(3,vi x7),(53,vb x16)],[(0,bx 71 (qX a1))]⟩
def qM1 (a1:Ring) (x7:Int) (x13:Bool):St:=
 ⟨[(1,vp 0 0),(3,vi x7),(4,vp 1 0),(44,vb x13)],[(0,bx 71 (qX a1)),(1,bx 95 (qV (a1.Read.getD x7.toNat dd)))]⟩
def SY (a1:Ring) (x7:Int):St:=
 ⟨[(1,vp 0 0),(3,vi x7)],[(0,bx 71 (qX a1))]⟩
def qEu :St:=
 ⟨[],[]⟩
def qMk (a1:Ring) (x5:Bool):St:=
 ⟨[(1,vp 0 0),(15,vb x5)],[(0,bx 71 (qX a1))]⟩
theorem qK9 (E:Env 0) (a1:Ring):∀(n:Nat) (x7:Int) (res:Int⊕Unit),yK a1 n x7=some res->HL (kx E 54 0) (nd f35 116) (wD 1 (λo=>qEu) (λv st=>RetQ Tryz.prog f35 (qCH v) (qCD v) .ret st) res) n (SY a1 x7):=by
 intro n
 induction n with
 |zero=>
  intro x7 res hm;cases hm
 |succ n ih=>
  intro x7 res hm;refine qS (q_sq ?_);refine s_va 1 [(28,vb (decide (x7<(a1.Read.length:Int))))] (q_cq hm (λhm=>?_) (λhm=>?_))
  ·refine q_sk (q_sq ?_);refine q_bk 2 ?_;obtain⟨g9,hm⟩:=qJ hm;refine s_vu [qi 3 g9] 1 [28] [(4,vp 1 0)] [] [(1,bx 95 (qV (a1.Read.getD x7.toNat dd)))] (q_sq ?_);refine q_jn (qM1 a1 x7) (λp=>NT a1 x7 (yK a1 n) p=some res) ?_ ?_
   ·rintro x13 hm;refine q_cq hm (λhm=>?_) (λhm=>?_)
    ·refine s_vn [] 3 ⟨[(2,vi 9)],[]⟩ ?_;obtain rfl:=oi hm;refine q_rt (zJ 9 ?_);exact q_rm
    ·refine q_sk (q_jn (qMN a1 x7) (λp=>NN x7 (yK a1 n) p=some res) ?_ ?_)
     ·rintro x16 hm;refine q_cq hm (λhm=>?_) (λhm=>?_)
      ·refine s_vn [] 3 ⟨[(2,vi 19)],[]⟩ ?_;obtain rfl:=oi hm;refine q_rt (zJ 19 ?_);exact q_rm
      ·refine q_sk (q_vv [] 3 [3,53] [(3,vi (w64 (x7+1)))] ?_);exact q_hl (SY a1 (w64 (x7+1))) (ih (w64 (x7+1)) _ hm)
     ·rcases bif_c hm with⟨b15,hm⟩|⟨b15,hm⟩
      ·exact q_vu [qf 3 b15] 3 [4,44] [(53,vb (!(((((a1.Read.getD x7.toNat dd).P).X)==0)&&(((((a1.Read.getD x7.toNat dd).P).Y)==0)&&true))))] [1] [] (q_J (!(((((a1.Read.getD x7.toNat dd).P).X)==0)&&(((((a1.Read.getD x7.toNat dd).P).Y)==0)&&true))) hm)
      ·exact q_vu [qf 3 b15] 3 [4,44] [(53,vb false)] [1] [] (q_J (false) hm)
   ·rcases bif_c hm with⟨b10,hm⟩|⟨b10,hm⟩
    ·obtain⟨v11,h12,hm⟩:=qB hm
     exact q_vv [qf 2 b10,qd 5 (drw 2 0 (rf qE [(a1.Read.getD x7.toNat dd).P])) (litP qE dd 2 (λ_=>rfl) ([(a1.Read.getD x7.toNat dd).P]:List qA) 1 rfl),qd 6 (dex (cen [] [] 3 0 (FI v11) (YW v11) [38,41] [2])) (wB (K:=(kx E 54 0)) (xs':=[.one (.lst 1 (rf qE [(a1.Read.getD x7.toNat dd).P]))]) (b:=false) ⟨[(38,vb true),(41,vo 2 0 2 1)],[(2,ro 0 93 2 1 (rf qE [(a1.Read.getD x7.toNat dd).P]))]⟩ (opAt (rg f35 7460) 6) [] [] 3 (o1 (ke 1)) (by simp only[tl,rf,show([(a1.Read.getD x7.toNat dd).P]:List qA).length=1 from rfl]) (qOE ([(a1.Read.getD x7.toNat dd).P]:List qA) v11 h12) (.inr ⟨(by kernel_rfl),qPG v11⟩) (by kernel_rfl))] 2 [] [(44,vb (!v11))] (q_J (!v11) hm)
    ·exact q_vv [qf 2 b10] 2 [] [(44,vb false)] (q_J (false) hm)
  ·refine q_ex 1 ?_;obtain rfl:=oi hm;exact q_l1 ()
theorem qP0 (a1:Ring) (r:Int) (hm:RA a1=some r):CtX Tryz.prog globs 35 0 0 [.agg (qX a1)] [] (qCH r) (qCD r):=by
 unfold RA at hm;refine q_E f35 54 λE=>?_;refine s_vn [] 0 ⟨[(1,vp 0 0)],[(0,bx 71 (qX a1))]⟩ (q_sq ?_);refine q_bk 0 (s_va 1 [(5,vb (decide ((a1.Read.length:Int)<8)))] ?_);refine q_cq hm (λhm=>?_) (λhm=>?_)
 ·refine s_vn [] 1 ⟨[(2,vi 3)],[]⟩ ?_;obtain rfl:=oi hm;exact q_rt q_rm
 ·refine s_vv [] 1 [5] [(10,vb (decide ((a1.Read.length:Int)>32)))] (q_cq hm (λhm=>?_) (λhm=>?_))
  ·refine s_vn [] 1 ⟨[(2,vi 4)],[]⟩ ?_;obtain rfl:=oi hm;exact q_rt q_rm
  ·refine q_jn (qMk a1) (λp=>FG a1 p=some r) ?_ ?_
   ·rintro x5 hm;refine q_cq hm (λhm=>?_) (λhm=>?_)
    ·refine s_vn [] 1 ⟨[(2,vi 9)],[]⟩ ?_;obtain rfl:=oi hm;exact q_rt q_rm
    ·refine q_sk (q_sq ?_);refine s_vv [] 1 [15] [(3,vi 0)] ?_;obtain⟨u20,h19,hm⟩:=qB hm;refine zO (nd f35 116) 1 (by kernel_rfl) FUEL (λo=>qEu) (λv st=>RetQ Tryz.prog f35 (qCH v) (qCD v) .ret st) u20 (q_hl (SY a1 0) (qK9 E a1 FUEL 0 u20 h19)) ?_ ?_
     ·rintro v21 rfl st hr;obtain rfl:=oi hm;exact hr
     ·rintro o18 rfl;replace hm:_=some r:=hm;refine s_vn [] 1 ⟨[(2,vi 0)],[]⟩ ?_;obtain rfl:=oi hm;exact q_rt q_rm
   ·rcases bif_c hm with⟨b4,hm⟩|⟨b4,hm⟩
    ·exact q_vv [qf 3 b4] 1 [10] [(15,vb true)] (q_J (true) hm)
    ·exact q_vv [qf 3 b4] 1 [10] [(15,vb (decide (a1.Z>20000)))] (q_J (decide (a1.Z>20000)) hm)
open Go.Proofs Go.Proofs.Tryz
def qRL (r:Bool):V:=vb r
def qRH (r:Bool):List (Nat×(Nat×O)):=[]
def qMl (x4:Bool):St:=
 ⟨[(2,vb x4)],[]⟩
theorem qQD (a1:Box) (r:Bool) (hm:MT a1=some r):CtX Tryz.prog globs 73 0 0 [.agg (yW a1)] [] (qRL r) (qRH r):=by
 unfold MT at hm;refine q_E f73 28 λE=>?_;refine s_vn [] 0 ⟨[(1,vp 0 0)],[(0,bx 85 (yW a1))]⟩ (q_jn (qMl) (λp=>RN p=some r) ?_ ?_)
 ·rintro x4 hm;obtain rfl:=oi hm;exact q_rt q_rm
 ·rcases bif_c hm with⟨b2,hm⟩|⟨b2,hm⟩
  ·exact q_vn [qf 7 b2] 1 ⟨[(2,vb true)],[]⟩ (q_J (true) hm)
  ·rcases bif_c hm with⟨b3,hm⟩|⟨b3,hm⟩
   ·exact q_vn [qf 7 b2,qf 16 b3] 1 ⟨[(2,vb true)],[]⟩ (q_J (true) hm)
   ·exact q_vn [qf 7 b2,qf 16 b3] 1 ⟨[(2,vb (decide (a1.Z.A≥a1.Z.B)))],[]⟩ (q_J (decide (a1.Z.A≥a1.Z.B)) hm)
def qWA (r:Bool):V:=vb r
def qWw (r:Bool):List (Nat×(Nat×O)):=[]
def qSd (x5:Bool):St:=
 ⟨[(6,vb x5)],[]⟩
theorem GC (a1:Span) (a2:Int) (a3:Int) (r:Bool) (hm:EM a1 a2 a3=some r):CtX Tryz.prog globs 140 0 0 [.agg (qH a1),.one (ci a2),.one (ci a3)] [] (qWA r) (qWw r):=by
 unfold EM at hm;refine q_E f140 17 λE=>?_;refine s_vn [] 0 ⟨[(1,vi a2),(2,vi a3),(3,vp 0 0)],[(0,bx 53 (qH a1))]⟩ (q_jn (qSd) (λp=>qBz p=some r) ?_ ?_)
 ·rintro x5 hm;obtain rfl:=oi hm;exact q_rt q_rm
 ·rcases bif_c hm with⟨b4,hm⟩|⟨b4,hm⟩
  ·exact q_vn [qf 4 b4] 1 ⟨[(6,vb (decide (a1.B<=a3)))],[]⟩ (q_J (decide (a1.B<=a3)) hm)
  ·exact q_vn [qf 4 b4] 1 ⟨[(6,vb false)],[]⟩ (q_J (false) hm)
def qPF (r:Bool):V:=vb r
def qP6 (r:Bool):List (Nat×(Nat×O)):=[]
def qLh (x10:Bool):St:=
 ⟨[(2,vb x10)],[]⟩
theorem qPu (a1:Box) (r:Bool) (hm:DN a1=some r):CtX Tryz.prog globs 74 0 0 [.agg (yW a1)] [] (qPF r) (qP6 r):=by
 unfold DN at hm;refine q_E f74 16 λE=>?_;refine s_vn [] 0 ⟨[(1,vp 0 0)],[(0,bx 85 (yW a1))]⟩ (q_jn (qLh) (λp=>PR p=some r) ?_ ?_)
 ·rintro x10 hm;obtain rfl:=oi hm;exact q_rt q_rm
 ·obtain⟨v2,h3,hm⟩:=qB hm;rcases bif_c hm with⟨b4,hm⟩|⟨b4,hm⟩
  ·obtain⟨v5,h6,hm⟩:=qB hm;rcases bif_c hm with⟨b7,hm⟩|⟨b7,hm⟩
   ·obtain⟨v8,h9,hm⟩:=qB hm;exact q_vn [qk 2 [4] 1 ⟨[(4,va (qH a1.X))],[]⟩ (GC a1.X (-600) 600 v2 h3),qf 3 b4,qk 6 [6,8] 1 ⟨[(6,vb true),(8,va (qH a1.Y))],[]⟩ (GC a1.Y (-600) 600 v5 h6),qf 8 b7,qk 11 [11,13] 1 ⟨[(11,vb true),(13,va (qH a1.Z))],[]⟩ (GC a1.Z 0 20000 v8 h9)] 1 ⟨[(2,vb v8)],[]⟩ (q_J (v8) hm)
   ·exact q_vn [qk 2 [4] 1 ⟨[(4,va (qH a1.X))],[]⟩ (GC a1.X (-600) 600 v2 h3),qf 3 b4,qk 6 [6,8] 1 ⟨[(6,vb true),(8,va (qH a1.Y))],[]⟩ (GC a1.Y (-600) 600 v5 h6),qf 8 b7] 1 ⟨[(2,vb false)],[]⟩ (q_J (false) hm)
  ·exact q_vn [qk 2 [4] 1 ⟨[(4,va (qH a1.X))],[]⟩ (GC a1.X (-600) 600 v2 h3),qf 3 b4] 1 ⟨[(2,vb false)],[]⟩ (q_J (false) hm)
open Go.Proofs Go.Proofs.Tryz
def qCN (r:Int):V:=vi r
def qCt (r:Int):List (Nat×(Nat×O)):=[]
def qMn (a1:List qF) (x3:Int) (x7:Bool):St:=
 ⟨[(0,vc (tl qI dd a1)),(3,vi x3),(13,vb x7)],[]⟩
def SK (a1:List qF) (x3:Int):St:=
 ⟨[(0,vc (tl qI dd a1)),(3,vi x3)],[]⟩
def qEm :St:=
 ⟨[],[]⟩
theorem qLn (E:Env 0) (a1:List qF):∀(n:Nat) (x3:Int) (res:Int⊕Unit),yO a1 n x3=some res->HL (kx E 43 0) (nd f36 116) (wD 0 (λo=>qEm) (λv st=>RetQ Tryz.prog f36 (qCN v) (qCt v) .ret st) res) n (SK a1 x3):=by
 intro n
 induction n with
 |zero=>
  intro x3 res hm;cases hm
 |succ n ih=>
  intro x3 res hm;refine qS (q_sq ?_);refine s_va 0 [(10,vb (decide (x3<(a1.length:Int))))] (q_cq hm (λhm=>?_) (λhm=>?_))
  ·refine q_sk (q_sq ?_);refine q_bk 1 (q_bk 2 ?_);refine q_jn (qMn a1 x3) (λp=>NM a1 x3 (yO a1 n) p=some res) ?_ ?_
   ·rintro x7 hm;refine q_cq hm (λhm=>?_) (λhm=>?_)
    ·refine s_vn [] 0 ⟨[(2,vi 10)],[]⟩ ?_;obtain rfl:=oi hm;refine q_rt (zJ 10 ?_);exact q_rm
    ·obtain⟨g9,hm⟩:=qJ hm;obtain⟨v10,h11,hm⟩:=qB hm;refine s_vv [qi 2 g9,qc 5 [33] 0 (qQD ((a1.getD x3.toNat dd).Box) v10 h11)] 0 [13] [(28,vb v10)] (q_cq hm (λhm=>?_) (λhm=>?_))
     ·refine s_vn [] 0 ⟨[(2,vi 19)],[]⟩ ?_;obtain rfl:=oi hm;refine q_rt (zJ 19 ?_);exact q_rm
     ·obtain⟨v13,h14,hm⟩:=qB hm;refine s_vv [qi 2 g9,qc 5 [40] 0 (qPu ((a1.getD x3.toNat dd).Box) v13 h14)] 0 [28] [(35,vb (!v13))] (q_cq hm (λhm=>?_) (λhm=>?_))
      ·refine s_vn [] 0 ⟨[(2,vi 9)],[]⟩ ?_;obtain rfl:=oi hm;refine q_rt (zJ 9 ?_);exact q_rm
      ·refine q_sk (q_vv [] 0 [3,35] [(3,vi (w64 (x3+1)))] ?_);exact q_hl (SK a1 (w64 (x3+1))) (ih (w64 (x3+1)) _ hm)
   ·obtain⟨g5,hm⟩:=qJ hm;rcases bif_c hm with⟨b6,hm⟩|⟨b6,hm⟩
    ·exact q_vv [qi 2 g5,qf 6 b6] 0 [10] [(13,vb true)] (q_J (true) hm)
    ·exact q_vv [qi 2 g5,qf 6 b6,qi 9 g5] 0 [10] [(13,vb (decide (((a1.getD x3.toNat dd).Kind)>6)))] (q_J (decide (((a1.getD x3.toNat dd).Kind)>6)) hm)
  ·refine q_ex 0 ?_;obtain rfl:=oi hm;exact q_l1 ()
theorem qQE (a1:List qF) (r:Int) (hm:GG a1=some r):CtX Tryz.prog globs 36 0 0 [.one (tl qI dd a1)] [] (qCN r) (qCt r):=by
 unfold GG at hm;refine q_E f36 43 λE=>?_;refine s_vn [] 0 ⟨[(0,vc (tl qI dd a1))],[]⟩ (q_sq ?_);refine s_va 0 [(6,vb (decide ((a1.length:Int)>64)))] (q_cq hm (λhm=>?_) (λhm=>?_))
 ·refine s_vn [] 0 ⟨[(2,vi 4)],[]⟩ ?_;obtain rfl:=oi hm;exact q_rt q_rm
 ·refine q_sk (q_sq ?_);refine s_vv [] 0 [6] [(3,vi 0)] ?_;obtain⟨u18,h17,hm⟩:=qB hm;refine zO (nd f36 116) 0 (by kernel_rfl) FUEL (λo=>qEm) (λv st=>RetQ Tryz.prog f36 (qCN v) (qCt v) .ret st) u18 (q_hl (SK a1 0) (qLn E a1 FUEL 0 u18 h17)) ?_ ?_
  ·rintro v19 rfl st hr;obtain rfl:=oi hm;exact hr
  ·rintro o16 rfl;replace hm:_=some r:=hm;refine s_vn [] 0 ⟨[(2,vi 0)],[]⟩ ?_;obtain rfl:=oi hm;exact q_rt q_rm
def VP (r:Int):V:=vi r
def VX (r:Int):List (Nat×(Nat×O)):=[]
def qL3 (a1:Scan) (x5:Int) (x15:Bool):St:=
 ⟨[(1,vp 0 0),(4,vi x5),(5,vp 1 0),(50,vb x15)],[(0,bx 25 (zZ a1)),(1,bx 71 (qX (a1.Rings.getD x5.toNat dd)))]⟩
def ES (a1:Scan) (x4:Int) (x5:Int):St:=
 ⟨[(1,vp 0 0),(3,vi x4),(4,vi x5)],[(0,bx 25 (zZ a1))]⟩
def qEl (a1:Scan) (x19:Int):St:=
 ⟨[(1,vp 0 0),(3,vi x19)],[(0,bx 25 (zZ a1))]⟩
def EH (a1:Scan) (o20:Int) (x27:Int):St:=
 ⟨[(1,vp 0 0),(3,vi o20),(8,vi x27)],[(0,bx 25 (zZ a1))]⟩
def qEG :St:=
 ⟨[],[]⟩
theorem qKQ (E:Env 0) (a1:Scan):∀(n:Nat) (x4:Int) (x5:Int) (res:Int⊕Int),wE a1 n x4 x5=some res->HL (kx E 86 0) (nd f18 500) (wD 0 (λo=>qEl a1 o) (λv st=>RetQ Tryz.prog f18 (VP v) (VX v) .ret st) res) n (ES a1 x4 x5):=by
 intro n
 induction n with
 |zero=>
  intro x4 x5 res hm;cases hm
 |succ n ih=>
  intro x4 x5 res hm;refine qS (q_sq ?_);refine s_va 1 [(21,vb (decide (x5<(a1.Rings.length:Int))))] (q_cq hm (λhm=>?_) (λhm=>?_))
  ·refine q_sk (q_sq ?_);refine q_bk 1 ?_;obtain⟨g7,hm⟩:=qJ hm;refine s_vu [qi 3 g7] 1 [21] [(5,vp 1 0)] [] [(1,bx 71 (qX (a1.Rings.getD x5.toNat dd)))] (q_sq ?_);obtain⟨v8,h9,hm⟩:=qB hm;refine s_vv [qc 1 [29] 2 (qP0 (a1.Rings.getD x5.toNat dd) v8 h9)] 2 [] [(6,vi v8)] (s_va 2 [(32,vb (v8 !=0))] ?_);refine q_cq hm (λhm=>?_) (λhm=>?_)
   ·refine s_vn [] 2 ⟨[(2,vi v8)],[]⟩ ?_;obtain rfl:=oi hm;refine q_rt (zJ v8 ?_);exact q_rm
   ·refine q_sk (q_sq ?_);refine q_jn (qL3 a1 x5) (λp=>WQ a1 x5 (wE a1 n) p=some res) ?_ ?_
    ·rintro x15 hm;refine q_cq hm (λhm=>?_) (λhm=>?_)
     ·refine s_vn [] 2 ⟨[(2,vi 11)],[]⟩ ?_;obtain rfl:=oi hm;refine q_rt (zJ 11 ?_);exact q_rm
     ·refine q_sk (q_sq ?_);obtain⟨g17,hm⟩:=qJ hm;refine s_du [qi 5 g17] [0,1,3,0,8,24,56,120,248,511] 2 [50] [(60,vb (((((a1.Rings.getD x5.toNat dd).Read).length:Nat):Int) !=((((a1.Rings.getD (0:Int).toNat dd).Read).length:Nat):Int)))] [] [] (q_cq hm (λhm=>?_) (λhm=>?_))
      ·refine s_vn [] 2 ⟨[(2,vi 19)],[]⟩ ?_;obtain rfl:=oi hm;refine q_rt (zJ 19 ?_);exact q_rm
      ·refine q_sk (q_vu [] 2 [5,60] [(3,vi ((a1.Rings.getD x5.toNat dd).Z))] [1] [] ?_);exact q_vv [] 2 [4] [(4,vi (w64 (x5+1)))] (q_hl (ES a1 ((a1.Rings.getD x5.toNat dd).Z) (w64 (x5+1))) (ih ((a1.Rings.getD x5.toNat dd).Z) (w64 (x5+1)) _ hm))
    ·rcases bif_c hm with⟨b11,hm⟩|⟨b11,hm⟩
     ·rcases bif_c hm with⟨b12,hm⟩|⟨b12,hm⟩
      ·exact q_vv [qf 2 b11,qf 7 b12] 2 [3,6,32] [(50,vb true)] (q_J (true) hm)
      ·rcases bif_c hm with⟨b13,hm⟩|⟨b13,hm⟩
       ·exact q_vv [qf 2 b11,qf 7 b12,qf 10 b13] 2 [3,6,32] [(50,vb (decide (((a1.Rings.getD x5.toNat dd).Z)<=x4)))] (q_J (decide (((a1.Rings.getD x5.toNat dd).Z)<=x4)) hm)
       ·exact q_vv [qf 2 b11,qf 7 b12,qf 10 b13] 2 [3,6,32] [(50,vb false)] (q_J (false) hm)
     ·rcases bif_c hm with⟨b14,hm⟩|⟨b14,hm⟩
      ·exact q_vv [qf 2 b11,qf 10 b14] 2 [3,6,32] [(50,vb (decide (((a1.Rings.getD x5.toNat dd).Z)<=x4)))] (q_J (decide (((a1.Rings.getD x5.toNat dd).Z)<=x4)) hm)
      ·exact q_vv [qf 2 b11,qf 10 b14] 2 [3,6,32] [(50,vb false)] (q_J (false) hm)
  ·refine q_ex 0 ?_;obtain rfl:=oi hm;exact q_l1 x4
theorem qLa (E:Env 0) (a1:Scan) (o20:Int):∀(n:Nat) (x27:Int) (res:Int⊕Unit),YU a1 o20 n x27=some res->HL (kx E 86 0) (nd f18 2036) (wD 2 (λo=>qEG) (λv st=>RetQ Tryz.prog f18 (VP v) (VX v) .ret st) res) n (EH a1 o20 x27):=by
 intro n
 induction n with
 |zero=>
  intro x27 res hm;cases hm
 |succ n ih=>
  intro x27 res hm;refine qS (q_sq ?_);refine s_va 1 [(73,vb (decide (x27<(a1.Defects.length:Int))))] (q_cq hm (λhm=>?_) (λhm=>?_))
  ·refine q_sk (q_sq ?_);refine q_bk 3 ?_;obtain⟨g29,hm⟩:=qJ hm;refine s_vv [qi 3 g29] 1 [73] [(85,vb (decide (((((a1.Defects.getD x27.toNat dd).Box).Z).B)>o20)))] (q_cq hm (λhm=>?_) (λhm=>?_))
   ·refine s_vn [] 1 ⟨[(2,vi 9)],[]⟩ ?_;obtain rfl:=oi hm;refine q_rt (zJ 9 ?_);exact q_rm
   ·refine q_sk (q_vv [] 1 [8,85] [(8,vi (w64 (x27+1)))] ?_);exact q_hl (EH a1 o20 (w64 (x27+1))) (ih (w64 (x27+1)) _ hm)
  ·refine q_ex 2 ?_;obtain rfl:=oi hm;exact q_l1 ()
theorem qQF (a1:Scan) (r:Int) (hm:ML a1=some r):CtX Tryz.prog globs 18 0 0 [.agg (zZ a1)] [] (VP r) (VX r):=by
 unfold ML at hm;refine q_E f18 86 λE=>?_;refine s_vn [] 0 ⟨[(1,vp 0 0)],[(0,bx 25 (zZ a1))]⟩ (q_sq ?_);refine s_va 1 [(12,vb (decide ((a1.Rings.length:Int)<2)))] (q_cq hm (λhm=>?_) (λhm=>?_))
 ·refine s_vn [] 1 ⟨[(2,vi 3)],[]⟩ ?_;obtain rfl:=oi hm;exact q_rt q_rm
 ·refine q_sk (q_sq ?_);refine s_vv [] 1 [12] [(16,vb (decide ((a1.Rings.length:Int)>24)))] (q_cq hm (λhm=>?_) (λhm=>?_))
  ·refine s_vn [] 1 ⟨[(2,vi 4)],[]⟩ ?_;obtain rfl:=oi hm;exact q_rt q_rm
  ·refine q_sk (s_vv [] 1 [16] [(3,vi 0)] ?_);refine q_sq (s_va 1 [(4,vi 0)] ?_);obtain⟨u22,h21,hm⟩:=qB hm;refine zO (nd f18 500) 0 (by kernel_rfl) FUEL (λo=>qEl a1 o) (λv st=>RetQ Tryz.prog f18 (VP v) (VX v) .ret st) u22 (q_hl (ES a1 0 0) (qKQ E a1 FUEL 0 0 u22 h21)) ?_ ?_
   ·rintro v23 rfl st hr;obtain rfl:=oi hm;exact hr
   ·rintro o20 rfl;replace hm:_=some r:=hm;refine q_sq ?_;obtain⟨v24,h25,hm⟩:=qB hm;refine s_vv [qc 2 [64] 1 (qQE a1.Defects v24 h25)] 1 [] [(7,vi v24)] (s_va 1 [(67,vb (v24 !=0))] ?_);refine q_cq hm (λhm=>?_) (λhm=>?_)
    ·refine s_vn [] 1 ⟨[(2,vi v24)],[]⟩ ?_;obtain rfl:=oi hm;exact q_rt q_rm
    ·refine q_sk (q_sq ?_);refine s_vv [] 1 [7,67] [(8,vi 0)] ?_;obtain⟨u33,h32,hm⟩:=qB hm;refine zO (nd f18 2036) 2 (by kernel_rfl) FUEL (λo=>qEG) (λv st=>RetQ Tryz.prog f18 (VP v) (VX v) .ret st) u33 (q_hl (EH a1 o20 0) (qLa E a1 o20 FUEL 0 u33 h32)) ?_ ?_
     ·rintro v34 rfl st hr;obtain rfl:=oi hm;exact hr
     ·rintro o31 rfl;replace hm:_=some r:=hm;refine s_vn [] 1 ⟨[(2,vi 0)],[]⟩ ?_;obtain rfl:=oi hm;exact q_rt q_rm
end Saw
end Go.SL

import Derived.Test.YthbamnkheinbgaaGreatDoorSBase
import Derived.Test.YthbamnkheinbgaaGreatDoorSFa7
set_option linter.unusedVariables false
set_option linter.unusedSimpArgs false
namespace Go.SL
namespace Saw
open Go.Proofs Go.Proofs.Tryz
set_option maxHeartbeats 4000000
set_option maxRecDepth 100000
def JU (r:Int):V:=vi r
def JX (r:Int):List (Nat×(Nat×O)):=[]
def qCh (a1:Scan) (x5:Int) (x15:Bool):St:=
 ⟨[(1,vp 0 0),(4,vi x5),(5,vp 1 0),(50,vb x15)],[(0,bx 25 (qR a1)),(1,bx 45 (qH (a1.Rings.getD x5.toNat dd)))]⟩
def RP (a1:Scan) (x4:Int) (x5:Int):St:=
 ⟨[(1,vp 0 0),(3,vi x4),(4,vi x5)],[(0,bx 25 (qR a1))]⟩
def MH (a1:Scan) (x19:Int):St:=
 ⟨[(1,vp 0 0),(3,vi x19)],[(0,bx 25 (qR a1))]⟩
def TL (a1:Scan) (o20:Int) (x27:Int):St:=
 ⟨[(1,vp 0 0),(3,vi o20),(8,vi x27)],[(0,bx 25 (qR a1))]⟩
def LX :St:=
 ⟨[],[]⟩
theorem qBU (E:Env 0) (a1:Scan):∀(n:Nat) (x4:Int) (x5:Int) (res:Int⊕Int),zD a1 n x4 x5=some res->HL (kx E 86 0) (nd f14 500) (zR 0 (λo=>MH a1 o) (λv st=>RetQ Tryz.prog f14 (JU v) (JX v) .ret st) res) n (RP a1 x4 x5):=by
 intro n
 induction n with
 |zero=>
  intro x4 x5 res hm;cases hm
 |succ n ih=>
  intro x4 x5 res hm;refine qQ (q_sq ?_);refine s_va 1 [(21,vb (decide (x5<(a1.Rings.length:Int))))] (q_cq hm (λhm=>?_) (λhm=>?_))
  ·refine q_sk (q_sq ?_);refine q_bk 1 ?_;obtain⟨g7,hm⟩:=qJ hm;refine s_vu [qi 3 g7] 1 [21] [(5,vp 1 0)] [] [(1,bx 45 (qH (a1.Rings.getD x5.toNat dd)))] (q_sq ?_);obtain⟨v8,h9,hm⟩:=qG hm;refine s_vv [qc 1 [29] 2 (GB (a1.Rings.getD x5.toNat dd) v8 h9)] 2 [] [(6,vi v8)] (s_va 2 [(32,vb (v8 !=0))] ?_);refine q_cq hm (λhm=>?_) (λhm=>?_)
   ·refine s_vn [] 2 ⟨[(2,vi v8)],[]⟩ ?_;obtain rfl:=oi hm;refine q_rt (qW v8 ?_);exact q_rm
   ·refine q_sk (q_sq ?_);refine q_jn (qCh a1 x5) (λp=>jS a1 x5 (zD a1 n) p=some res) ?_ ?_
    ·rintro x15 hm;refine q_cq hm (λhm=>?_) (λhm=>?_)
     ·refine s_vn [] 2 ⟨[(2,vi 11)],[]⟩ ?_;obtain rfl:=oi hm;refine q_rt (qW 11 ?_);exact q_rm
     ·refine q_sk (q_sq ?_);obtain⟨g17,hm⟩:=qJ hm;refine s_du [qi 5 g17] [0,1,3,0,8,24,56,120,248,511] 2 [50] [(60,vb (((((a1.Rings.getD x5.toNat dd).Read).length:Nat):Int) !=((((a1.Rings.getD (0:Int).toNat dd).Read).length:Nat):Int)))] [] [] (q_cq hm (λhm=>?_) (λhm=>?_))
      ·refine s_vn [] 2 ⟨[(2,vi 19)],[]⟩ ?_;obtain rfl:=oi hm;refine q_rt (qW 19 ?_);exact q_rm
      ·refine q_sk (q_vu [] 2 [5,60] [(3,vi ((a1.Rings.getD x5.toNat dd).Z))] [1] [] ?_);exact q_vv [] 2 [4] [(4,vi (w64 (x5+1)))] (q_hl (RP a1 ((a1.Rings.getD x5.toNat dd).Z) (w64 (x5+1))) (ih ((a1.Rings.getD x5.toNat dd).Z) (w64 (x5+1)) _ hm))
    ·rcases bif_c hm with⟨b11,hm⟩|⟨b11,hm⟩
     ·rcases bif_c hm with⟨b12,hm⟩|⟨b12,hm⟩
      ·exact q_vv [qf 2 b11,qf 7 b12] 2 [3,6,32] [(50,vb true)] (q_J (true) hm)
      ·rcases bif_c hm with⟨b13,hm⟩|⟨b13,hm⟩
       ·exact q_vv [qf 2 b11,qf 7 b12,qf 10 b13] 2 [3,6,32] [(50,vb (decide (((a1.Rings.getD x5.toNat dd).Z)<=x4)))] (q_J (decide (((a1.Rings.getD x5.toNat dd).Z)<=x4)) hm)
       ·exact q_vv [qf 2 b11,qf 7 b12,qf 10 b13] 2 [3,6,32] [(50,vb false)] (q_J (false) hm)
     ·rcases bif_c hm with⟨b14,hm⟩|⟨b14,hm⟩
      ·exact q_vv [qf 2 b11,qf 10 b14] 2 [3,6,32] [(50,vb (decide (((a1.Rings.getD x5.toNat dd).Z)<=x4)))] (q_J (decide (((a1.Rings.getD x5.toNat dd).Z)<=x4)) hm)
      ·exact q_vv [qf 2 b11,qf 10 b14] 2 [3,6,32] [(50,vb false)] (q_J (false) hm)
  ·refine q_ex 0 ?_;obtain rfl:=oi hm;exact q_l1 x4
theorem qBW (E:Env 0) (a1:Scan) (o20:Int):∀(n:Nat) (x27:Int) (res:Int⊕Unit),QF a1 o20 n x27=some res->HL (kx E 86 0) (nd f14 2036) (zR 2 (λo=>LX) (λv st=>RetQ Tryz.prog f14 (JU v) (JX v) .ret st) res) n (TL a1 o20 x27):=by
 intro n
 induction n with
 |zero=>
  intro x27 res hm;cases hm
 |succ n ih=>
  intro x27 res hm;refine qQ (q_sq ?_);refine s_va 1 [(73,vb (decide (x27<(a1.Defects.length:Int))))] (q_cq hm (λhm=>?_) (λhm=>?_))
  ·refine q_sk (q_sq ?_);refine q_bk 3 ?_;obtain⟨g29,hm⟩:=qJ hm;refine s_vv [qi 3 g29] 1 [73] [(85,vb (decide (((((a1.Defects.getD x27.toNat dd).Box).Z).B)>o20)))] (q_cq hm (λhm=>?_) (λhm=>?_))
   ·refine s_vn [] 1 ⟨[(2,vi 9)],[]⟩ ?_;obtain rfl:=oi hm;refine q_rt (qW 9 ?_);exact q_rm
   ·refine q_sk (q_vv [] 1 [8,85] [(8,vi (w64 (x27+1)))] ?_);exact q_hl (TL a1 o20 (w64 (x27+1))) (ih (w64 (x27+1)) _ hm)
  ·refine q_ex 2 ?_;obtain rfl:=oi hm;exact q_l1 ()
theorem IV (a1:Scan) (r:Int) (hm:YJ a1=some r):CtX Tryz.prog globs 14 0 0 [.agg (qR a1)] [] (JU r) (JX r):=by
 unfold YJ at hm;refine q_E f14 86 λE=>?_;refine s_vn [] 0 ⟨[(1,vp 0 0)],[(0,bx 25 (qR a1))]⟩ (q_sq ?_);refine s_va 1 [(12,vb (decide ((a1.Rings.length:Int)<2)))] (q_cq hm (λhm=>?_) (λhm=>?_))
 ·refine s_vn [] 1 ⟨[(2,vi 3)],[]⟩ ?_;obtain rfl:=oi hm;exact q_rt q_rm
 ·refine q_sk (q_sq ?_);refine s_vv [] 1 [12] [(16,vb (decide ((a1.Rings.length:Int)>24)))] (q_cq hm (λhm=>?_) (λhm=>?_))
  ·refine s_vn [] 1 ⟨[(2,vi 4)],[]⟩ ?_;obtain rfl:=oi hm;exact q_rt q_rm
  ·refine q_sk (s_vv [] 1 [16] [(3,vi 0)] ?_);refine q_sq (s_va 1 [(4,vi 0)] ?_);obtain⟨u22,h21,hm⟩:=qG hm;refine zC (nd f14 500) 0 (by kernel_rfl) FUEL (λo=>MH a1 o) (λv st=>RetQ Tryz.prog f14 (JU v) (JX v) .ret st) u22 (q_hl (RP a1 0 0) (qBU E a1 FUEL 0 0 u22 h21)) ?_ ?_
   ·rintro v23 rfl st hr;obtain rfl:=oi hm;exact hr
   ·rintro o20 rfl;replace hm:_=some r:=hm;refine q_sq ?_;obtain⟨v24,h25,hm⟩:=qG hm;refine s_vv [qc 2 [64] 1 (qEe a1.Defects v24 h25)] 1 [] [(7,vi v24)] (s_va 1 [(67,vb (v24 !=0))] ?_);refine q_cq hm (λhm=>?_) (λhm=>?_)
    ·refine s_vn [] 1 ⟨[(2,vi v24)],[]⟩ ?_;obtain rfl:=oi hm;exact q_rt q_rm
    ·refine q_sk (q_sq ?_);refine s_vv [] 1 [7,67] [(8,vi 0)] ?_;obtain⟨u33,h32,hm⟩:=qG hm;refine zC (nd f14 2036) 2 (by kernel_rfl) FUEL (λo=>LX) (λv st=>RetQ Tryz.prog f14 (JU v) (JX v) .ret st) u33 (q_hl (TL a1 o20 0) (qBW E a1 o20 FUEL 0 u33 h32)) ?_ ?_
     ·rintro v34 rfl st hr;obtain rfl:=oi hm;exact hr
     ·rintro o31 rfl;replace hm:_=some r:=hm;refine s_vn [] 1 ⟨[(2,vi 0)],[]⟩ ?_;obtain rfl:=oi hm;exact q_rt q_rm
def NG (r:Scan×Int):V:= .tup [.agg [.own 0 0 2 r.1.Rings.length,.own 1 0 7 r.1.Defects.length],.one (ci r.2)]
def NS (r:Scan×Int):List (Nat×(Nat×O)):=[(0,ro 0 45 2 r.1.Rings.length (rf qH r.1.Rings)),(1,ro 0 68 7 r.1.Defects.length (rf qD r.1.Defects))]
def wR (a1:Scan) (a2:Scan):St:=
 ⟨[(2,vp 0 0),(3,vp 1 0),(4,vp 2 0),(8,vp 3 0)],[(0,bx 25 (qR a1)),(1,bx 25 (qR a2)),(2,bx 25 [.emp,.emp])]⟩
def TK (a1:Scan) (a2:Scan) (x10:Int) (l11:List Ring) (l11n:Nat):St:=
 (wR a1 a2).up [] [(9,vi x10)] [] [(3,bx 25 [.own 4 0 2 l11n,.emp]),(4,ro 0 45 2 l11n (rf qH l11))]
def LN (a1:Scan) (a2:Scan) (l19:List Ring):St:=
 (wR a1 a2).up [] [] [] [(3,bx 25 [.own 4 0 2 l19.length,.emp]),(4,ro 0 45 2 l19.length (rf qH l19))]
def RJ (a1:Scan) (a2:Scan) (o20:(List Ring)) (x24:Int) (l25:List qA) (l25n:Nat):St:=
 (wR a1 a2).up [] [(12,vi x24)] [] [(3,bx 25 [.own 4 0 2 o20.length,.own 5 0 7 l25n]),(4,ro 0 45 2 o20.length (rf qH o20)),(5,ro 0 68 7 l25n (rf qD l25))]
def MX (a1:Scan) (a2:Scan) (o20:(List Ring)) (l29:List qA):St:=
 (wR a1 a2).up [] [] [] [(3,bx 25 [.own 4 0 2 o20.length,.own 5 0 7 l29.length]),(4,ro 0 45 2 o20.length (rf qH o20)),(5,ro 0 68 7 l29.length (rf qD l29))]
def LT (a1:Scan) (a2:Scan) (o20:(List Ring)) (x32:Int) (l40:List qA) (l40n:Nat):St:=
 (wR a1 a2).up [] [(13,vi x32)] [] [(3,bx 25 [.own 4 0 2 o20.length,.own 5 0 7 l40n]),(4,ro 0 45 2 o20.length (rf qH o20)),(5,ro 0 68 7 l40n (rf qD l40))]
def RO (a1:Scan) (a2:Scan) (o20:(List Ring)) (x32:Int) (l33:List qA) (l33n:Nat):St:=
 (wR a1 a2).up [] [(13,vi x32)] [] [(3,bx 25 [.own 4 0 2 o20.length,.own 5 0 7 l33n]),(4,ro 0 45 2 o20.length (rf qH o20)),(5,ro 0 68 7 l33n (rf qD l33))]
def HH (o20:(List Ring)) (l41:List qA):St:=
 ⟨[(4,vp 2 0),(8,vp 3 0)],[(2,bx 25 [.emp,.emp]),(3,bx 25 [.own 4 0 2 o20.length,.own 5 0 7 l41.length]),(4,ro 0 45 2 o20.length (rf qH o20)),(5,ro 0 68 7 l41.length (rf qD l41))]⟩
theorem qBs (E:Env 0) (a1:Scan) (a2:Scan):∀(n:Nat) (x10:Int) (l11:List Ring) (l11n:Nat) (res:(Scan×Int)⊕(List Ring)),l11.length=l11n->zZ a1 a2 n x10 l11=some res->HL (kx E 113 0) (nd f31 1012) (zR 0 (λo=>LN a1 a2 o) (λv st=>RetQ Tryz.prog f31 (NG v) (NS v) .ret st) res) n (TK a1 a2 x10 l11 l11n):=by
 intro n
 induction n with
 |zero=>
  intro x10 l11 l11n res hl0 hm;cases hm
 |succ n ih=>
  intro x10 l11 l11n res hl0 hm;subst hl0;refine qQ (q_sq ?_);refine s_va 5 [(38,vb (decide (x10<(a1.Rings.length:Int))))] (q_cq hm (λhm=>?_) (λhm=>?_))
  ·refine q_sk (q_sq ?_);refine q_bk 1 ?_;obtain⟨g13,hm⟩:=qJ hm;obtain⟨g14,hm⟩:=qJ hm;obtain⟨v15,h16,hm⟩:=qG hm;refine s_du [qi 3 g13,qi 8 g14,qc 10 [46,51] 5 (qEG (a1.Rings.getD x10.toNat dd) (a2.Rings.getD x10.toNat dd) v15 h16)] [0,1,0,7,15,0,32,0,224,480,1023,2047,4095,4095,0,24575,65535] 5 [38] [(10,vp 6 0),(11,vi v15.2)] [] [(5,ro 0 73 3 v15.1.Read.length (rf qF v15.1.Read)),(6,bx 45 [ci v15.1.Z,.own 5 0 3 v15.1.Read.length])] (q_sq ?_);refine s_vv [] 7 [11] [(56,vb (v15.2 !=0))] (q_cq hm (λhm=>?_) (λhm=>?_))
   ·refine s_vn [] 7 ⟨[(4,vp 2 0),(5,vi 19)],[(2,bx 25 [.emp,.emp])]⟩ (q_fu [.ownB 2 0 7 45 2 (rf qH [])] [] [] [2] [(2,bx 25 [.own 7 0 2 0,.emp]),(7,ro 0 45 2 0 (rf qH []))] o0 ?_);refine q_fu [.ownB 2 1 8 68 7 (rf qD [])] [] [] [2] [(2,bx 25 [.own 7 0 2 0,.own 8 0 7 0]),(8,ro 0 68 7 0 (rf qD []))] o0 (q_fu [.len 7 (([]:List Ring).length)] [] [] [2,7] [(2,bx 25 [.own 7 0 2 (([]:List Ring).length),.own 8 0 7 0]),(7,ro 0 45 2 (([]:List Ring).length) (rf qH []))] (o1 (And.intro (show 0=([]:List Ring).length from rfl) (show 0=([]:List Ring).length from rfl))) ?_)
    refine q_fu [.len 8 (([]:List qA).length)] [] [] [2,8] [(2,bx 25 [.own 7 0 2 (([]:List Ring).length),.own 8 0 7 (([]:List qA).length)]),(8,ro 0 68 7 (([]:List qA).length) (rf qD []))] (o1 (And.intro (show 0=([]:List qA).length from rfl) (show 0=([]:List qA).length from rfl))) ?_;obtain rfl:=oi hm;refine q_sw 7 0 (q_sw 8 1 ?_);refine q_rt (qW ((Scan.mk ([]:List Ring) ([]:List qA)),19) ?_);exact q_rm
   ·refine q_sk ?_;obtain⟨g18,hm⟩:=qJ hm;refine q_vu [qd 3 (dpr [.frz 5] (drw 7 0 (rf qH [v15.1]))) (And.intro (kg v15.1.Read.length) (kg v15.1.Read.length)),qd 3 dN (litP qH dd 2 (λ_=>rfl) ([v15.1]:List Ring) 1 rfl),qd 4 (drw 4 1 (rf qH (l11++[v15.1]))) (apP qH dd l11 ([v15.1]:List Ring) l11.length 1 2 32 (1<=1) (kg _) rfl rfl (λ_=>rfl) (zK g18))] 7 [10,56] [] [3,4,5,6] [(3,bx 25 [.own 4 1 2 (l11.length+1),.emp]),(4,ro 1 45 2 (l11.length+1) (rf qH (l11++[v15.1])))] (q_vv [] 8 [9] [(9,vi (w64 (x10+1)))] ?_)
    exact q_hl (TK a1 a2 (w64 (x10+1)) (l11++[v15.1]) (l11.length+1)) (ih (w64 (x10+1)) (l11++[v15.1]) (l11.length+1) _ (zN rfl rfl) hm)
  ·refine q_ex 0 ?_;obtain rfl:=oi hm;exact q_l1 l11
theorem qBt (E:Env 0) (a1:Scan) (a2:Scan) (o20:(List Ring)):∀(n:Nat) (x24:Int) (l25:List qA) (l25n:Nat) (res:(List qA)),l25.length=l25n->wI a1 n x24 l25=some res->HL (kx E 113 0) (nd f31 2036) (zL 2 (λo=>MX a1 a2 o20 o) res) n (RJ a1 a2 o20 x24 l25 l25n):=by
 intro n
 induction n with
 |zero=>
  intro x24 l25 l25n res hl0 hm;cases hm
 |succ n ih=>
  intro x24 l25 l25n res hl0 hm;subst hl0;refine qQ (q_sq ?_);refine s_va 6 [(68,vb (decide (x24<(a1.Defects.length:Int))))] (q_cq hm (λhm=>?_) (λhm=>?_))
  ·refine q_sk (q_sq ?_);refine q_bk 3 ?_;obtain⟨g27,hm⟩:=qJ hm;obtain⟨g28,hm⟩:=qJ hm
   refine q_du [qi 5 g27,qd 7 (drw 6 0 (rf qD [(a1.Defects.getD x24.toNat dd)])) (litP qD dd 7 (λ_=>rfl) ([(a1.Defects.getD x24.toNat dd)]:List qA) 1 rfl),qd 8 (drw 5 1 (rf qD (l25++[(a1.Defects.getD x24.toNat dd)]))) (apP qD dd l25 ([(a1.Defects.getD x24.toNat dd)]:List qA) l25.length 1 7 56 (1<=1) (kg _) rfl rfl (λ_=>rfl) (zK g28))] [0,1,0,4,0,28,60,124,255,511,1023] 6 [68] [] [3,5] [(3,bx 25 [.own 4 0 2 o20.length,.own 5 1 7 (l25.length+1)]),(5,ro 1 68 7 (l25.length+1) (rf qD (l25++[(a1.Defects.getD x24.toNat dd)])))] (q_vv [] 7 [12] [(12,vi (w64 (x24+1)))] ?_)
   exact q_hl (RJ a1 a2 o20 (w64 (x24+1)) (l25++[(a1.Defects.getD x24.toNat dd)]) (l25.length+1)) (ih (w64 (x24+1)) (l25++[(a1.Defects.getD x24.toNat dd)]) (l25.length+1) _ (zN rfl rfl) hm)
  ·refine q_ex 2 ?_;obtain rfl:=oi hm;exact q_l0
theorem qBK (E:Env 0) (a1:Scan) (a2:Scan) (o20:(List Ring)):∀(n:Nat) (x32:Int) (l33:List qA) (l33n:Nat) (res:(List qA)),l33.length=l33n->zY a1 a2 n x32 l33=some res->HL (kx E 113 0) (nd f31 4084) (zL 4 (λo=>HH o20 o) res) n (RO a1 a2 o20 x32 l33 l33n):=by
 intro n
 induction n with
 |zero=>
  intro x32 l33 l33n res hl0 hm;cases hm
 |succ n ih=>
  intro x32 l33 l33n res hl0 hm;subst hl0;refine qQ (q_sq ?_);refine s_va 6 [(85,vb (decide (x32<(a2.Defects.length:Int))))] (q_cq hm (λhm=>?_) (λhm=>?_))
  ·refine q_sk (q_jn (ι:=(List qA)×Nat) (λp=>LT a1 a2 o20 x32 p.1 p.2) (λp=>p.1.length=p.2/\KR x32 (zY a1 a2 n) p.1=some res) ?_ ?_)
   ·rintro⟨l40,l40n⟩ ⟨el40,hm⟩;replace el40:l40.length=l40n:=el40;subst el40;show H _ (LT a1 a2 o20 x32 l40 l40.length) _ _;exact q_vv [] 7 [13] [(13,vi (w64 (x32+1)))] (q_hl (RO a1 a2 o20 (w64 (x32+1)) l40 l40.length) (ih (w64 (x32+1)) l40 l40.length _ rfl hm))
   ·refine q_bk 5 ?_;obtain⟨g35,hm⟩:=qJ hm;obtain⟨v36,h37,hm⟩:=qG hm;refine s_du [qi 5 g35,qc 7 [89,94] 6 (qGE a1.Defects (a2.Defects.getD x32.toNat dd) v36 h37)] [0,1,0,4,0,28,60,127,255] 6 [85] [(96,vb (!v36))] [] [] (q_cq hm (λhm=>?_) (λhm=>?_))
    ·obtain⟨g39,hm⟩:=qJ hm
     exact q_du [qi 5 g35,qd 7 (drw 6 0 (rf qD [(a2.Defects.getD x32.toNat dd)])) (litP qD dd 7 (λ_=>rfl) ([(a2.Defects.getD x32.toNat dd)]:List qA) 1 rfl),qd 8 (drw 5 1 (rf qD (l33++[(a2.Defects.getD x32.toNat dd)]))) (apP qD dd l33 ([(a2.Defects.getD x32.toNat dd)]:List qA) l33.length 1 7 56 (1<=1) (kg _) rfl rfl (λ_=>rfl) (zK g39))] [0,1,0,4,0,28,60,124,255,511,1023] 6 [96] [] [3,5] [(3,bx 25 [.own 4 0 2 o20.length,.own 5 1 7 (l33.length+1)]),(5,ro 1 68 7 (l33.length+1) (rf qD (l33++[(a2.Defects.getD x32.toNat dd)])))] (q_J ((l33++[(a2.Defects.getD x32.toNat dd)]),(l33.length+1)) ⟨(zN rfl rfl),hm⟩)
    ·exact q_sk (q_J (l33,l33.length) ⟨rfl,hm⟩)
  ·refine q_ex 4 ?_;obtain rfl:=oi hm;exact q_l0
theorem qEv (a1:Scan) (a2:Scan) (r:Scan×Int) (hm:PK a1 a2=some r):CtX Tryz.prog globs 31 0 0 [.agg (qR a1),.agg (qR a2)] [] (NG r) (NS r):=by
 unfold PK at hm;refine q_E f31 113 λE=>?_;refine s_vn [] 0 ⟨[(2,vp 0 0),(3,vp 1 0),(4,vp 2 0)],[(0,bx 25 (qR a1)),(1,bx 25 (qR a2)),(2,bx 25 [.emp,.emp])]⟩ (q_sq ?_);obtain⟨v3,h4,hm⟩:=qG hm;refine s_vv [qc 1 [14] 3 (IV a1 v3 h4)] 3 [] [(6,vi v3)] (s_va 3 [(17,vb (v3 !=0))] ?_);refine q_cq hm (λhm=>?_) (λhm=>?_)
 ·refine s_vu [] 3 [2,3,6,17] [(5,vi v3)] [0,1] [] (q_fu [.ownB 2 0 3 45 2 (rf qH [])] [] [] [2] [(2,bx 25 [.own 3 0 2 0,.emp]),(3,ro 0 45 2 0 (rf qH []))] o0 ?_);refine q_fu [.ownB 2 1 4 68 7 (rf qD [])] [] [] [2] [(2,bx 25 [.own 3 0 2 0,.own 4 0 7 0]),(4,ro 0 68 7 0 (rf qD []))] o0 (q_fu [.len 3 (([]:List Ring).length)] [] [] [2,3] [(2,bx 25 [.own 3 0 2 (([]:List Ring).length),.own 4 0 7 0]),(3,ro 0 45 2 (([]:List Ring).length) (rf qH []))] (o1 (And.intro (show 0=([]:List Ring).length from rfl) (show 0=([]:List Ring).length from rfl))) ?_)
  refine q_fu [.len 4 (([]:List qA).length)] [] [] [2,4] [(2,bx 25 [.own 3 0 2 (([]:List Ring).length),.own 4 0 7 (([]:List qA).length)]),(4,ro 0 68 7 (([]:List qA).length) (rf qD []))] (o1 (And.intro (show 0=([]:List qA).length from rfl) (show 0=([]:List qA).length from rfl))) ?_;obtain rfl:=oi hm;refine q_sw 3 0 (q_sw 4 1 ?_);exact q_rt q_rm
 ·refine q_sk (q_sq ?_);obtain⟨v6,h7,hm⟩:=qG hm;refine s_vv [qc 1 [20] 3 (IV a2 v6 h7)] 3 [6,17] [(7,vi v6)] (s_va 3 [(23,vb (v6 !=0))] ?_);refine q_cq hm (λhm=>?_) (λhm=>?_)
  ·refine s_vu [] 3 [2,3,7,23] [(5,vi v6)] [0,1] [] (q_fu [.ownB 2 0 3 45 2 (rf qH [])] [] [] [2] [(2,bx 25 [.own 3 0 2 0,.emp]),(3,ro 0 45 2 0 (rf qH []))] o0 ?_);refine q_fu [.ownB 2 1 4 68 7 (rf qD [])] [] [] [2] [(2,bx 25 [.own 3 0 2 0,.own 4 0 7 0]),(4,ro 0 68 7 0 (rf qD []))] o0 (q_fu [.len 3 (([]:List Ring).length)] [] [] [2,3] [(2,bx 25 [.own 3 0 2 (([]:List Ring).length),.own 4 0 7 0]),(3,ro 0 45 2 (([]:List Ring).length) (rf qH []))] (o1 (And.intro (show 0=([]:List Ring).length from rfl) (show 0=([]:List Ring).length from rfl))) ?_)
   refine q_fu [.len 4 (([]:List qA).length)] [] [] [2,4] [(2,bx 25 [.own 3 0 2 (([]:List Ring).length),.own 4 0 7 (([]:List qA).length)]),(4,ro 0 68 7 (([]:List qA).length) (rf qD []))] (o1 (And.intro (show 0=([]:List qA).length from rfl) (show 0=([]:List qA).length from rfl))) ?_;obtain rfl:=oi hm;refine q_sw 3 0 (q_sw 4 1 ?_);exact q_rt q_rm
  ·refine q_sk (q_sq ?_);refine s_vv [] 3 [7,23] [(32,vb ((a1.Rings.length:Int) !=(a2.Rings.length:Int)))] (q_cq hm (λhm=>?_) (λhm=>?_))
   ·refine s_vu [] 3 [2,3,32] [(5,vi 19)] [0,1] [] (q_fu [.ownB 2 0 3 45 2 (rf qH [])] [] [] [2] [(2,bx 25 [.own 3 0 2 0,.emp]),(3,ro 0 45 2 0 (rf qH []))] o0 ?_);refine q_fu [.ownB 2 1 4 68 7 (rf qD [])] [] [] [2] [(2,bx 25 [.own 3 0 2 0,.own 4 0 7 0]),(4,ro 0 68 7 0 (rf qD []))] o0 (q_fu [.len 3 (([]:List Ring).length)] [] [] [2,3] [(2,bx 25 [.own 3 0 2 (([]:List Ring).length),.own 4 0 7 0]),(3,ro 0 45 2 (([]:List Ring).length) (rf qH []))] (o1 (And.intro (show 0=([]:List Ring).length from rfl) (show 0=([]:List Ring).length from rfl))) ?_)
    refine q_fu [.len 4 (([]:List qA).length)] [] [] [2,4] [(2,bx 25 [.own 3 0 2 (([]:List Ring).length),.own 4 0 7 (([]:List qA).length)]),(4,ro 0 68 7 (([]:List qA).length) (rf qD []))] (o1 (And.intro (show 0=([]:List qA).length from rfl) (show 0=([]:List qA).length from rfl))) ?_;obtain rfl:=oi hm;refine q_sw 3 0 (q_sw 4 1 ?_);exact q_rt q_rm
   ·refine q_sk (s_vu [] 3 [32] [(8,vp 3 0)] [] [(3,bx 25 [.emp,.emp])] ?_);refine q_sq (s_va 4 [(9,vi 0)] ?_);refine q_fu [.ownB 3 0 4 45 2 (rf qH [])] [] [] [3] [(3,bx 25 [.own 4 0 2 0,.emp]),(4,ro 0 45 2 0 (rf qH []))] o0 ?_;obtain⟨u22,h21,hm⟩:=qG hm;refine zC (nd f31 1012) 0 (by kernel_rfl) FUEL (λo=>LN a1 a2 o) (λv st=>RetQ Tryz.prog f31 (NG v) (NS v) .ret st) u22 (q_hl (TK a1 a2 0 ([]:List Ring) 0) (qBs E a1 a2 FUEL 0 ([]:List Ring) 0 u22 rfl h21)) ?_ ?_
    ·rintro v23 rfl st hr;obtain rfl:=oi hm;exact hr
    ·rintro o20 rfl;replace hm:_=some r:=hm;refine q_sq (s_va 5 [(12,vi 0)] ?_);refine q_fu [.ownB 3 1 5 68 7 (rf qD [])] [] [] [3] [(3,bx 25 [.own 4 0 2 o20.length,.own 5 0 7 0]),(5,ro 0 68 7 0 (rf qD []))] o0 ?_;obtain⟨o30,h31,hm⟩:=qG hm;refine zI (nd f31 2036) 2 (by kernel_rfl) FUEL (λo=>MX a1 a2 o20 o) o30 (q_hl (RJ a1 a2 o20 0 ([]:List qA) 0) (qBt E a1 a2 o20 FUEL 0 ([]:List qA) 0 o30 rfl h31)) (q_sq ?_);refine s_va 6 [(13,vi 0)] ?_;obtain⟨o42,h43,hm⟩:=qG hm
     refine zI (nd f31 4084) 4 (by kernel_rfl) FUEL (λo=>HH o20 o) o42 (q_hl (RO a1 a2 o20 0 o30 o30.length) (qBK E a1 a2 o20 FUEL 0 o30 o30.length o42 rfl h43)) (q_sq ?_);refine s_va 6 [(110,vb (decide ((o42.length:Int)>64)))] (q_cq hm (λhm=>?_) (λhm=>?_))
     ·refine s_vu [] 6 [8,110] [(5,vi 4)] [3,4,5] [] (q_fu [.ownB 2 0 6 45 2 (rf qH [])] [] [] [2] [(2,bx 25 [.own 6 0 2 0,.emp]),(6,ro 0 45 2 0 (rf qH []))] o0 ?_);refine q_fu [.ownB 2 1 7 68 7 (rf qD [])] [] [] [2] [(2,bx 25 [.own 6 0 2 0,.own 7 0 7 0]),(7,ro 0 68 7 0 (rf qD []))] o0 (q_fu [.len 6 (([]:List Ring).length)] [] [] [2,6] [(2,bx 25 [.own 6 0 2 (([]:List Ring).length),.own 7 0 7 0]),(6,ro 0 45 2 (([]:List Ring).length) (rf qH []))] (o1 (And.intro (show 0=([]:List Ring).length from rfl) (show 0=([]:List Ring).length from rfl))) ?_)
      refine q_fu [.len 7 (([]:List qA).length)] [] [] [2,7] [(2,bx 25 [.own 6 0 2 (([]:List Ring).length),.own 7 0 7 (([]:List qA).length)]),(7,ro 0 68 7 (([]:List qA).length) (rf qD []))] (o1 (And.intro (show 0=([]:List qA).length from rfl) (show 0=([]:List qA).length from rfl))) ?_;obtain rfl:=oi hm;refine q_sw 6 0 (q_sw 7 1 ?_);exact q_rt q_rm
     ·refine q_sk (s_vu [] 6 [8,110] [(5,vi 0)] [2,3] [(2,bx 25 [.own 4 0 2 o20.length,.own 5 0 7 o42.length])] ?_);obtain rfl:=oi hm;refine q_sw 4 0 (q_sw 5 1 ?_);exact q_rt q_rm
def LB (r:Bool):V:=vb r
def MI (r:Bool):List (Nat×(Nat×O)):=[]
def VM (a1:Ring) (a2:Ring) (x6:Int):St:=
 ⟨[(2,vp 0 0),(3,vp 1 0),(5,vi x6)],[(0,bx 45 (qH a1)),(1,bx 45 (qH a2))]⟩
def EO :St:=
 ⟨[],[]⟩
def qDt (a1:Ring) (a2:Ring) (x4:Bool):St:=
 ⟨[(2,vp 0 0),(3,vp 1 0),(19,vb x4)],[(0,bx 45 (qH a1)),(1,bx 45 (qH a2))]⟩
theorem qCz (E:Env 0) (a1:Ring) (a2:Ring):∀(n:Nat) (x6:Int) (res:Bool⊕Unit),yJ a1 a2 n x6=some res->HL (kx E 38 0) (nd f56 116) (zR 0 (λo=>EO) (λv st=>RetQ Tryz.prog f56 (LB v) (MI v) .ret st) res) n (VM a1 a2 x6):=by
 intro n
 induction n with
 |zero=>
  intro x6 res hm;cases hm
 |succ n ih=>
  intro x6 res hm;refine qQ (q_sq ?_);refine s_va 2 [(24,vb (decide (x6<(a1.Read.length:Int))))] (q_cq hm (λhm=>?_) (λhm=>?_))
  ·refine q_sk (q_sq ?_);refine q_bk 1 ?_;obtain⟨g8,hm⟩:=qJ hm;obtain⟨g9,hm⟩:=qJ hm;refine s_du [qi 3 g8,qi 8 g9] [0,1,0,7,15,0,32,0,224,480,1023] 2 [24] [(37,vb (!((((((a1.Read.getD x6.toNat dd).P).X)==(((a2.Read.getD x6.toNat dd).P).X))&&(((((a1.Read.getD x6.toNat dd).P).Y)==(((a2.Read.getD x6.toNat dd).P).Y))&&true))&&((((a1.Read.getD x6.toNat dd).Ok)==((a2.Read.getD x6.toNat dd).Ok))&&true))))] [] [] (q_cq hm (λhm=>?_) (λhm=>?_))
   ·refine s_vn [] 2 ⟨[(4,vb false)],[]⟩ ?_;obtain rfl:=oi hm;refine q_rt (qW false ?_);exact q_rm
   ·refine q_sk (q_vv [] 2 [5,37] [(5,vi (w64 (x6+1)))] ?_);exact q_hl (VM a1 a2 (w64 (x6+1))) (ih (w64 (x6+1)) _ hm)
  ·refine q_ex 0 ?_;obtain rfl:=oi hm;exact q_l1 ()
theorem qFn (a1:Ring) (a2:Ring) (r:Bool) (hm:VB a1 a2=some r):CtX Tryz.prog globs 56 0 0 [.agg (qH a1),.agg (qH a2)] [] (LB r) (MI r):=by
 unfold VB at hm;refine q_E f56 38 λE=>?_;refine s_vn [] 0 ⟨[(2,vp 0 0),(3,vp 1 0)],[(0,bx 45 (qH a1)),(1,bx 45 (qH a2))]⟩ (q_sq ?_);refine q_jn (qDt a1 a2) (λp=>RA a1 a2 p=some r) ?_ ?_
 ·rintro x4 hm;refine q_cq hm (λhm=>?_) (λhm=>?_)
  ·refine s_vn [] 2 ⟨[(4,vb false)],[]⟩ ?_;obtain rfl:=oi hm;exact q_rt q_rm
  ·refine q_sk (q_sq ?_);refine s_vv [] 2 [19] [(5,vi 0)] ?_;obtain⟨u13,h12,hm⟩:=qG hm;refine zC (nd f56 116) 0 (by kernel_rfl) FUEL (λo=>EO) (λv st=>RetQ Tryz.prog f56 (LB v) (MI v) .ret st) u13 (q_hl (VM a1 a2 0) (qCz E a1 a2 FUEL 0 u13 h12)) ?_ ?_
   ·rintro v14 rfl st hr;obtain rfl:=oi hm;exact hr
   ·rintro o11 rfl;replace hm:_=some r:=hm;refine s_vn [] 2 ⟨[(4,vb true)],[]⟩ ?_;obtain rfl:=oi hm;exact q_rt q_rm
 ·rcases bif_c hm with⟨b3,hm⟩|⟨b3,hm⟩
  ·exact q_vv [qf 5 b3] 2 [] [(19,vb true)] (q_J (true) hm)
  ·exact q_vv [qf 5 b3] 2 [] [(19,vb ((a1.Read.length:Int) !=(a2.Read.length:Int)))] (q_J ((a1.Read.length:Int) !=(a2.Read.length:Int)) hm)
open Go.Proofs Go.Proofs.Tryz
def LS (r:Bool):V:=vb r
def FZ (r:Bool):List (Nat×(Nat×O)):=[]
def UM (a1:List qA) (a2:List qA) (x4:Int):St:=
 ⟨[(0,vc (tl qD dd a1)),(1,vc (tl qD dd a2)),(5,vi x4)],[]⟩
def EB :St:=
 ⟨[],[]⟩
theorem qCR (E:Env 0) (a1:List qA) (a2:List qA):∀(n:Nat) (x4:Int) (res:Bool⊕Unit),yL a1 a2 n x4=some res->HL (kx E 26 0) (nd f57 116) (zR 0 (λo=>EB) (λv st=>RetQ Tryz.prog f57 (LS v) (FZ v) .ret st) res) n (UM a1 a2 x4):=by
 intro n
 induction n with
 |zero=>
  intro x4 res hm;cases hm
 |succ n ih=>
  intro x4 res hm;refine qQ (q_sq ?_);refine s_va 0 [(14,vb (decide (x4<(a1.length:Int))))] (q_cq hm (λhm=>?_) (λhm=>?_))
  ·refine q_sk (q_sq ?_);refine q_bk 1 ?_;obtain⟨g6,hm⟩:=qJ hm;obtain⟨g7,hm⟩:=qJ hm
   refine s_du [qi 2 g6,qi 6 g7] [0,0,3,7,0,0,48,112,255] 0 [14] [(25,vb (!((((a1.getD x4.toNat dd).Kind)==((a2.getD x4.toNat dd).Kind))&&((((((((a1.getD x4.toNat dd).Box).X).A)==((((a2.getD x4.toNat dd).Box).X).A))&&((((((a1.getD x4.toNat dd).Box).X).B)==((((a2.getD x4.toNat dd).Box).X).B))&&true))&&(((((((a1.getD x4.toNat dd).Box).Y).A)==((((a2.getD x4.toNat dd).Box).Y).A))&&((((((a1.getD x4.toNat dd).Box).Y).B)==((((a2.getD x4.toNat dd).Box).Y).B))&&true))&&(((((((a1.getD x4.toNat dd).Box).Z).A)==((((a2.getD x4.toNat dd).Box).Z).A))&&((((((a1.getD x4.toNat dd).Box).Z).B)==((((a2.getD x4.toNat dd).Box).Z).B))&&true))&&true)))&&true))))] [] [] (q_cq hm (λhm=>?_) (λhm=>?_))
   ·refine s_vn [] 0 ⟨[(4,vb false)],[]⟩ ?_;obtain rfl:=oi hm;refine q_rt (qW false ?_);exact q_rm
   ·refine q_sk (q_vv [] 0 [5,25] [(5,vi (w64 (x4+1)))] ?_);exact q_hl (UM a1 a2 (w64 (x4+1))) (ih (w64 (x4+1)) _ hm)
  ·refine q_ex 0 ?_;obtain rfl:=oi hm;exact q_l1 ()
theorem qFK (a1:List qA) (a2:List qA) (r:Bool) (hm:UQ a1 a2=some r):CtX Tryz.prog globs 57 0 0 [.one (tl qD dd a1),.one (tl qD dd a2)] [] (LS r) (FZ r):=by
 unfold UQ at hm;refine q_E f57 26 λE=>?_;refine s_vn [] 0 ⟨[(0,vc (tl qD dd a1)),(1,vc (tl qD dd a2))],[]⟩ (q_sq ?_);refine s_va 0 [(10,vb ((a1.length:Int) !=(a2.length:Int)))] (q_cq hm (λhm=>?_) (λhm=>?_))
 ·refine s_vn [] 0 ⟨[(4,vb false)],[]⟩ ?_;obtain rfl:=oi hm;exact q_rt q_rm
 ·refine q_sk (q_sq ?_);refine s_vv [] 0 [10] [(5,vi 0)] ?_;obtain⟨u11,h10,hm⟩:=qG hm;refine zC (nd f57 116) 0 (by kernel_rfl) FUEL (λo=>EB) (λv st=>RetQ Tryz.prog f57 (LS v) (FZ v) .ret st) u11 (q_hl (UM a1 a2 0) (qCR E a1 a2 FUEL 0 u11 h10)) ?_ ?_
  ·rintro v12 rfl st hr;obtain rfl:=oi hm;exact hr
  ·rintro o9 rfl;replace hm:_=some r:=hm;refine s_vn [] 0 ⟨[(4,vb true)],[]⟩ ?_;obtain rfl:=oi hm;exact q_rt q_rm
def WJ (r:Bool):V:=vb r
def jY (r:Bool):List (Nat×(Nat×O)):=[]
theorem LA (r:Bool):yS (jY r):=by
 intro i k o h;unfold jY at h;cases h
def VR (a1:Scan) (a2:Scan) (x4:Int):St:=
 ⟨[(2,vp 0 0),(3,vp 1 0),(5,vi x4)],[(0,bx 25 (qR a1)),(1,bx 25 (qR a2))]⟩
def EE (a1:Scan) (a2:Scan):St:=
 ⟨[(2,vp 0 0),(3,vp 1 0)],[(0,bx 25 (qR a1)),(1,bx 25 (qR a2))]⟩
theorem qCo (E:Env 0) (a1:Scan) (a2:Scan):∀(n:Nat) (x4:Int) (res:Bool⊕Unit),yI a1 a2 n x4=some res->HL (kx E 37 0) (nd f23 116) (zR 0 (λo=>EE a1 a2) (λv st=>RetQ Tryz.prog f23 (WJ v) (jY v) .ret st) res) n (VR a1 a2 x4):=by
 intro n
 induction n with
 |zero=>
  intro x4 res hm;cases hm
 |succ n ih=>
  intro x4 res hm;refine qQ (q_sq ?_);refine s_va 2 [(17,vb (decide (x4<(a1.Rings.length:Int))))] (q_cq hm (λhm=>?_) (λhm=>?_))
  ·refine q_sk (q_sq ?_);refine q_bk 1 ?_;obtain⟨g6,hm⟩:=qJ hm;obtain⟨g7,hm⟩:=qJ hm;obtain⟨v8,h9,hm⟩:=qG hm;refine s_du [qi 3 g6,qi 8 g7,qc 10 [24,29] 2 (qFn (a1.Rings.getD x4.toNat dd) (a2.Rings.getD x4.toNat dd) v8 h9)] [0,1,0,7,15,0,32,0,224,480,1023,2047] 2 [17] [(31,vb (!v8))] [] [] (q_cq hm (λhm=>?_) (λhm=>?_))
   ·refine s_vn [] 2 ⟨[(4,vb false)],[]⟩ ?_;obtain rfl:=oi hm;refine q_rt (qW false ?_);exact q_rm
   ·refine q_sk (q_vv [] 2 [5,31] [(5,vi (w64 (x4+1)))] ?_);exact q_hl (VR a1 a2 (w64 (x4+1))) (ih (w64 (x4+1)) _ hm)
  ·refine q_ex 0 ?_;obtain rfl:=oi hm;exact q_l1 ()
theorem BW (a1:Scan) (a2:Scan) (r:Bool) (hm:VC a1 a2=some r):CtX Tryz.prog globs 23 0 0 [.agg (qR a1),.agg (qR a2)] [] (WJ r) (jY r):=by
 unfold VC at hm;refine q_E f23 37 λE=>?_;refine s_vn [] 0 ⟨[(2,vp 0 0),(3,vp 1 0)],[(0,bx 25 (qR a1)),(1,bx 25 (qR a2))]⟩ (q_sq ?_);refine s_va 2 [(12,vb ((a1.Rings.length:Int) !=(a2.Rings.length:Int)))] (q_cq hm (λhm=>?_) (λhm=>?_))
 ·refine s_vn [] 2 ⟨[(4,vb false)],[]⟩ ?_;obtain rfl:=oi hm;exact q_rt q_rm
 ·refine q_sk (q_sq ?_);refine s_vv [] 2 [12] [(5,vi 0)] ?_;obtain⟨u13,h12,hm⟩:=qG hm;refine zC (nd f23 116) 0 (by kernel_rfl) FUEL (λo=>EE a1 a2) (λv st=>RetQ Tryz.prog f23 (WJ v) (jY v) .ret st) u13 (q_hl (VR a1 a2 0) (qCo E a1 a2 FUEL 0 u13 h12)) ?_ ?_
  ·rintro v14 rfl st hr;obtain rfl:=oi hm;exact hr
  ·rintro o11 rfl;replace hm:_=some r:=hm;obtain⟨v15,h16,hm⟩:=qG hm;refine s_vn [qc 4 [33,35] 2 (qFK a1.Defects a2.Defects v15 h16)] 2 ⟨[(4,vb v15)],[]⟩ ?_;obtain rfl:=oi hm;exact q_rt q_rm
end Saw
end Go.SL

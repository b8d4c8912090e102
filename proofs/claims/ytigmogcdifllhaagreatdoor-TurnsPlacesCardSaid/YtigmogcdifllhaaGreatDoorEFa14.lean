import Derived.Test.YtigmogcdifllhaaGreatDoorEBase
import Derived.Test.YtigmogcdifllhaaGreatDoorEFa13
set_option linter.unusedVariables false
set_option linter.unusedSimpArgs false
namespace Go.SL
namespace Saw
open Go.Proofs Go.Proofs.Tryz
set_option maxHeartbeats 4000000
set_option maxRecDepth 100000
def qX8 (r:Scan):V:=va (zS r)
def qWs (r:Scan):List (Nat×(Nat×O)):=[]
def qAv (a1:Scan) (a2:Int) (x6:Int) (l7:List Ring) (l7n:Nat):St:=
 ⟨[(1,vi a2),(2,vp 0 0),(4,vp 1 0),(5,vp 2 0),(6,vi x6)],[(0,bx 25 (zS a1)),(1,bx 25 [.emp,.emp]),(2,bx 25 [.own 3 0 2 l7n,.emp]),(3,ro 0 71 2 l7n (rf qU l7))]⟩
def qHc (a1:Scan) (a2:Int) (l16:List Ring):St:=
 ⟨[(1,vi a2),(2,vp 0 0),(4,vp 1 0),(5,vp 2 0)],[(0,bx 25 (zS a1)),(1,bx 25 [.emp,.emp]),(2,bx 25 [.own 3 0 2 l16.length,.emp]),(3,ro 0 71 2 l16.length (rf qU l16))]⟩
theorem qOu (E:Env 0) (a1:Scan) (a2:Int):∀(n:Nat) (x6:Int) (l7:List Ring) (l7n:Nat) (res:(List Ring)),l7.length=l7n->WI a1 a2 n x6 l7=some res->HL (kx E 36 0) (nd f26 244) (zF 0 (λo=>qHc a1 a2 o) res) n (qAv a1 a2 x6 l7 l7n):=by
 intro n
 induction n with
 |zero=>
  intro x6 l7 l7n res hl0 hm;cases hm
 |succ n ih=>
  intro x6 l7 l7n res hl0 hm;subst hl0;refine qR (q_sq ?_);refine s_va 4 [(15,vb (decide (x6<(a1.Rings.length:Int))))] (q_cq hm (λhm=>?_) (λhm=>?_))
  ·refine q_sk (q_sq ?_);refine q_bk 1 ?_;obtain⟨g12,hm⟩:=qI hm;obtain⟨v13,h14,hm⟩:=qC hm;obtain⟨g15,hm⟩:=qI hm
   refine q_du [qi 5 g12,qc 8 [24,25] 4 (CtX.frz (x':=va (qU v13)) (ob':=[]) (qUU (a1.Rings.getD x6.toNat dd) a2 v13 h14) 0 (o1 (kd v13.Read.length)) (by kernel_rfl)),qd 9 (drw 4 0 (rf qU [v13])) (litP qU dd 2 (λ_=>rfl) ([v13]:List Ring) 1 rfl),qd 10 (drw 3 1 (rf qU (l7++[v13]))) (apP qU dd l7 ([v13]:List Ring) l7.length 1 2 32 (1<=1) (kd _) rfl rfl (λ_=>rfl) (zN g15))] [0,1,0,4,0,28,60,0,252,508,1023,2047,4095] 4 [15] [] [2,3] [(2,bx 25 [.own 3 1 2 (l7.length+1),.emp]),(3,ro 1 71 2 (l7.length+1) (rf qU (l7++[v13])))] (q_vv [] 5 [6] [(6,vi (w64 (x6+1)))] ?_)
   exact q_hl (qAv a1 a2 (w64 (x6+1)) (l7++[v13]) (l7.length+1)) (ih (w64 (x6+1)) (l7++[v13]) (l7.length+1) _ (zH rfl rfl) hm)
  ·refine q_ex 0 ?_;obtain rfl:=oi hm;exact q_l0
theorem qVf (a1:Scan) (a2:Int) (r:Scan) (hm:LZ a1 a2=some r):CtX Tryz.prog globs 26 0 0 [.agg (zS a1),.one (ci a2)] [] (qX8 r) (qWs r):=by
 unfold LZ at hm;refine q_E f26 36 λE=>?_;refine s_vn [] 0 ⟨[(1,vi a2),(2,vp 0 0),(4,vp 1 0)],[(0,bx 25 (zS a1)),(1,bx 25 [.emp,.emp])]⟩ (q_sq ?_);obtain⟨v3,h4,hm⟩:=qC hm;refine s_vv [qc 1 [7] 2 (qIB a1 v3 h4)] 2 [] [(9,vb (v3 !=0))] (q_cq hm (λhm=>?_) (λhm=>?_))
 ·refine s_vn [] 2 ⟨[(4,vp 1 0)],[(1,bx 25 (zS a1))]⟩ ?_;obtain rfl:=oi hm;exact q_rt q_rm
 ·refine q_sk (s_vu [] 2 [9] [(5,vp 2 0)] [] [(2,bx 25 [.emp,.emp])] ?_);refine q_sq (s_va 3 [(6,vi 0)] ?_);refine q_fu [.ownB 2 0 3 71 2 (rf qU [])] [] [] [2] [(2,bx 25 [.own 3 0 2 0,.emp]),(3,ro 0 71 2 0 (rf qU []))] o0 ?_;obtain⟨o17,h18,hm⟩:=qC hm;refine zB (nd f26 244) 0 (by kernel_rfl) FUEL (λo=>qHc a1 a2 o) o17 (q_hl (qAv a1 a2 0 ([]:List Ring) 0) (qOu E a1 a2 FUEL 0 ([]:List Ring) 0 o17 rfl h18)) ?_;obtain⟨v19,h20,hm⟩:=qC hm
  refine s_vu [qc 3 [31,32] 4 (qUH a1.Defects a2 v19 h20)] 4 [1,2] [] [0,2] [(2,bx 25 [.own 3 0 2 o17.length,.own 4 0 7 v19.length]),(4,ro 0 87 7 v19.length (rf qJ v19))] (s_vu [] 5 [5] [] [1,2] [(1,bx 25 [.own 3 0 2 o17.length,.own 4 0 7 v19.length])] ?_);refine q_fu [.frz 3] [] [] [1,3] [(1,bx 25 [tl qU dd o17,.own 4 0 7 v19.length])] (o1 (kd o17.length)) (q_fu [.frz 4] [] [] [1,4] [(1,bx 25 [tl qU dd o17,tl qJ dd v19])] (o1 (kd v19.length)) ?_);obtain rfl:=oi hm;exact q_rt q_rm
def qWS (r:Int):V:=vi r
def qWJ (r:Int):List (Nat×(Nat×O)):=[]
def qAR (a1:List qL) (a3:Int) (x5:Int):St:=
 ⟨[(0,vc (tl qQ dd a1)),(2,vi a3),(7,vi (a1.length:Int)),(8,vi x5)],[]⟩
def qHD (x9:Int):St:=
 ⟨[(8,vi x9)],[]⟩
theorem qOE (E:Env 0) (a1:List qL) (a3:Int):∀(n:Nat) (x5:Int) (res:Int),YO a1 a3 n x5=some res->HL (kx E 32 0) (nd f158 120) (zF 0 qHD res) n (qAR a1 a3 x5):=by
 intro n
 induction n with
 |zero=>
  intro x5 res hm;cases hm
 |succ n ih=>
  intro x5 res hm;refine qR (q_sq ?_);obtain⟨g6,hm⟩:=qI hm;refine s_vv [qi 2 g6] 0 [] [(23,vb (!((a1.getD x5.toNat dd).Ok)))] (q_cq hm (λhm=>?_) (λhm=>?_))
  ·refine q_sk (q_bk 1 ?_);obtain⟨g8,hm⟩:=qI hm;exact q_vv [qd 6 dN (JK g8)] 0 [8,23] [(8,vi (Int.tmod (w64 ((w64 (x5+a3))+(a1.length:Int))) (a1.length:Int)))] (q_hl (qAR a1 a3 (Int.tmod (w64 ((w64 (x5+a3))+(a1.length:Int))) (a1.length:Int))) (ih (Int.tmod (w64 ((w64 (x5+a3))+(a1.length:Int))) (a1.length:Int)) _ hm))
  ·refine q_ex 0 ?_;obtain rfl:=oi hm;exact q_l0
theorem AD (a1:List qL) (a2:Int) (a3:Int) (r:Int) (hm:QY a1 a2 a3=some r):CtX Tryz.prog globs 158 0 0 [.one (tl qQ dd a1),.one (ci a2),.one (ci a3)] [] (qWS r) (qWJ r):=by
 unfold QY at hm;refine q_E f158 32 λE=>?_;refine s_vn [] 0 ⟨[(0,vc (tl qQ dd a1)),(1,vi a2),(2,vi a3)],[]⟩ (s_va 0 [(7,vi (a1.length:Int))] ?_);obtain⟨g4,hm⟩:=qI hm;refine s_vv [qd 6 dN (JK g4)] 0 [1] [(8,vi (Int.tmod (w64 ((w64 (a2+a3))+(a1.length:Int))) (a1.length:Int)))] (q_sq ?_);obtain⟨o10,h11,hm⟩:=qC hm;refine zB (nd f158 120) 0 (by kernel_rfl) FUEL qHD o10 (q_hl (qAR a1 a3 (Int.tmod (w64 ((w64 (a2+a3))+(a1.length:Int))) (a1.length:Int))) (qOE E a1 a3 FUEL (Int.tmod (w64 ((w64 (a2+a3))+(a1.length:Int))) (a1.length:Int)) o10 h11)) (s_vn [] 0 ⟨[(6,vi o10)],[]⟩ ?_);obtain rfl:=oi hm
 exact q_rt q_rm
def qUw (r:Bool):V:=vb r
def qUY (r:Bool):List (Nat×(Nat×O)):=[]
def qOZ (x7:Bool):St:=
 ⟨[(6,vb x7)],[]⟩
theorem qCe (a1:qA) (a2:qA) (a3:Int) (r:Bool) (hm:BC a1 a2 a3=some r):CtX Tryz.prog globs 160 0 0 [.agg (qB a1),.agg (qB a2),.one (ci a3)] [] (qUw r) (qUY r):=by
 unfold BC at hm;refine q_E f160 41 λE=>?_;refine s_vn [] 0 ⟨[(2,vi a3),(3,vp 0 0),(4,vp 1 0)],[(0,bx 93 (qB a1)),(1,bx 93 (qB a2))]⟩ (q_jn (qOZ) (λp=>XZ p=some r) ?_ ?_)
 ·rintro x7 hm;obtain rfl:=oi hm;exact q_rt q_rm
 ·rcases bif_c hm with⟨b4,hm⟩|⟨b4,hm⟩
  ·exact q_vn [qf 7 b4] 2 ⟨[(6,vb true)],[]⟩ (q_J (true) hm)
  ·rcases bif_c hm with⟨b5,hm⟩|⟨b5,hm⟩
   ·exact q_vn [qf 7 b4,qf 16 b5] 2 ⟨[(6,vb true)],[]⟩ (q_J (true) hm)
   ·rcases bif_c hm with⟨b6,hm⟩|⟨b6,hm⟩
    ·exact q_vn [qf 7 b4,qf 16 b5,qf 25 b6] 2 ⟨[(6,vb true)],[]⟩ (q_J (true) hm)
    ·exact q_vn [qf 7 b4,qf 16 b5,qf 25 b6] 2 ⟨[(6,vb (decide ((w64 (a2.Y-a1.Y))>a3)))],[]⟩ (q_J (decide ((w64 (a2.Y-a1.Y))>a3)) hm)
open Go.Proofs Go.Proofs.Tryz
def qXq (r:Int×Int):V:= .tup [.one (ci r.1),.one (ci r.2)]
def qW5 (r:Int×Int):List (Nat×(Nat×O)):=[]
def XF (a1:Ring) (x4:Int):St:=
 ⟨[(1,vp 0 0),(4,vi (a1.Read.length:Int)),(7,vi x4)],[(0,bx 71 (qU a1))]⟩
def qRI (a1:Ring) (x2:Int) (x3:Int) (x4:Int) (x8:Int) (x12:Bool):St:=
 (XF a1 x4).up [] [(5,vi (w64 (x2+1))),(6,vi x3),(8,vi x8),(40,vb x12)] [] []
def qAe (a1:Ring) (x2:Int) (x3:Int) (x4:Int) (x8:Int):St:=
 (XF a1 x4).up [] [(5,vi (w64 (x2+1))),(6,vi x3),(8,vi x8)] [] []
def qGX (a1:Ring) (x2:Int) (x3:Int) (x4:Int) (x14:Int):St:=
 (XF a1 x4).up [] [(5,vi (w64 (x2+1))),(6,vi x3),(8,vi x14)] [] []
def qGB (a1:Ring) (x4:Int) (x17:Int) (x18:Int):St:=
 (XF a1 x4).up [] [(5,vi x17),(6,vi x18)] [] []
def qAX (a1:Ring) (x2:Int) (x3:Int) (x4:Int):St:=
 (XF a1 x4).up [] [(5,vi x2),(6,vi x3)] [] []
def qHs (x19:Int) (x20:Int):St:=
 ⟨[(5,vi x19),(6,vi x20)],[]⟩
theorem qO0 (E:Env 0) (a1:Ring) (x2:Int) (x3:Int) (x4:Int):∀(n:Nat) (x8:Int) (res:Int),jA a1 x4 n x8=some res->HL (kx E 48 0) (nd f157 125240) (zF 2 (λo=>qGX a1 x2 x3 x4 o) res) n (qAe a1 x2 x3 x4 x8):=by
 intro n
 induction n with
 |zero=>
  intro x8 res hm;cases hm
 |succ n ih=>
  intro x8 res hm;refine qR (q_sq ?_);refine q_jn (qRI a1 x2 x3 x4 x8) (λp=>AH x8 (jA a1 x4 n) p=some res) ?_ ?_
  ·rintro x12 hm;refine q_cq hm (λhm=>?_) (λhm=>?_)
   ·refine q_sk (q_bk 3 ?_);exact q_vv [] 1 [8,40] [(8,vi (w64 (x8+1)))] (q_hl (qAe a1 x2 x3 x4 (w64 (x8+1))) (ih (w64 (x8+1)) _ hm))
   ·refine q_ex 2 ?_;obtain rfl:=oi hm;exact q_l0
  ·rcases bif_c hm with⟨b9,hm⟩|⟨b9,hm⟩
   ·obtain⟨g10,hm⟩:=qI hm;obtain⟨g11,hm⟩:=qI hm;exact q_du [qf 3 b9,qd 10 dN (JK g10),qi 11 g11] [0,0,3,7,15,31,15,15,207,15,975,2047,4095,8191,16383,32767] 1 [] [(40,vb (!((a1.Read.getD (Int.tmod (w64 (x4+x8)) (a1.Read.length:Int)).toNat dd).Ok)))] [] [] (q_J (!((a1.Read.getD (Int.tmod (w64 (x4+x8)) (a1.Read.length:Int)).toNat dd).Ok)) hm)
   ·exact q_du [qf 3 b9] [0,0,3,7,15,31,15,15,207,15,975,2047,4095,8191,16383,32767] 1 [] [(40,vb false)] [] [] (q_J (false) hm)
theorem qO8 (E:Env 0) (a1:Ring):∀(n:Nat) (x2:Int) (x3:Int) (x4:Int) (res:Int×Int),WL a1 n x2 x3 x4=some res->HL (kx E 48 0) (nd f157 244) (zF 0 (λo=>qHs o.1 o.2) res) n (qAX a1 x2 x3 x4):=by
 intro n
 induction n with
 |zero=>
  intro x2 x3 x4 res hm;cases hm
 |succ n ih=>
  intro x2 x3 x4 res hm;refine qR (q_sq ?_);refine s_va 1 [(14,vb (decide (x4<(a1.Read.length:Int))))] (q_cq hm (λhm=>?_) (λhm=>?_))
  ·refine q_sk (q_jn (ι:=Int×Int) (λp=>qGB a1 x4 p.1 p.2) (λp=>AL x4 (WL a1 n) p.1 p.2=some res) ?_ ?_)
   ·rintro⟨x17,x18⟩ hm;show H _ (qGB a1 x4 x17 x18) _ _;exact q_vv [] 1 [7] [(7,vi (w64 (x4+1)))] (q_hl (qAX a1 x17 x18 (w64 (x4+1))) (ih x17 x18 (w64 (x4+1)) _ hm))
   ·refine q_bk 1 (q_sq ?_);obtain⟨g6,hm⟩:=qI hm;refine s_vv [qi 3 g6] 1 [14] [(22,vb ((a1.Read.getD x4.toNat dd).Ok))] (q_cq hm (λhm=>?_) (λhm=>?_))
    ·exact q_ex 1 (q_J (x2,x3) hm)
    ·refine q_sk (s_vv [] 1 [5,22] [(5,vi (w64 (x2+1)))] ?_);refine s_va 1 [(8,vi 0)] (q_sq ?_);obtain⟨o15,h16,hm⟩:=qC hm;refine zB (nd f157 125240) 2 (by kernel_rfl) FUEL (λo=>qGX a1 x2 x3 x4 o) o15 (q_hl (qAe a1 x2 x3 x4 0) (qO0 E a1 x2 x3 x4 FUEL 0 o15 h16)) (q_vv [] 1 [6,8] [(6,vi (imax x3 o15))] ?_);exact q_J (w64 (x2+1),imax x3 o15) hm
  ·refine q_ex 0 ?_;obtain rfl:=oi hm;exact q_l0
theorem qKh (a1:Ring) (r:Int×Int) (hm:VR a1=some r):CtX Tryz.prog globs 157 0 0 [.agg (qU a1)] [] (qXq r) (qW5 r):=by
 unfold VR at hm;refine q_E f157 48 λE=>?_;refine s_vn [] 0 ⟨[(1,vp 0 0)],[(0,bx 71 (qU a1))]⟩ (s_va 1 [(4,vi (a1.Read.length:Int))] ?_);refine s_va 1 [(5,vi 0),(6,vi 0)] (q_sq ?_);refine s_va 1 [(7,vi 0)] ?_;obtain⟨o21,h22,hm⟩:=qC hm;refine zB (nd f157 244) 0 (by kernel_rfl) FUEL (λo=>qHs o.1 o.2) o21 (q_hl (qAX a1 0 0 0) (qO8 E a1 FUEL 0 0 0 o21 h22)) (s_vn [] 1 ⟨[(2,vi o21.1),(3,vi o21.2)],[]⟩ ?_);obtain rfl:=oi hm;exact q_rt q_rm
def qUI (r:Ring):V:=va [ci r.Z,.own 0 0 3 r.Read.length]
def qVw (r:Ring):List (Nat×(Nat×O)):=[(0,ro 0 95 3 r.Read.length (rf qQ r.Read))]
def PS (a1:Ring) (a2:Int):St:=
 ⟨[(1,vi a2),(2,vp 0 0),(4,vp 1 0),(7,vp 3 0)],[(0,bx 71 (qU a1)),(1,bx 71 [ci 0,.emp])]⟩
def qFK (a1:Ring) (a2:Int) (v5:Ring) (x13:Int) (l32:List qL) (l32n:Nat):St:=
 (PS a1 a2).up [] [(8,vi x13)] [] [(2,ro 0 95 3 l32n (rf qQ l32)),(3,bx 71 [ci v5.Z,.own 2 0 3 l32n])]
def qOf (a1:Ring) (a2:Int) (v5:Ring) (x13:Int) (l14:List qL) (x29:Bool):St:=
 (PS a1 a2).up [] [(8,vi x13),(85,vb x29)] [] [(2,ro 0 95 3 l14.length (rf qQ l14)),(3,bx 71 [ci v5.Z,.own 2 0 3 l14.length])]
def OK (a1:Ring) (a2:Int) (v5:Ring) (x13:Int) (l14:List qL) (l14n:Nat):St:=
 (PS a1 a2).up [] [(8,vi x13)] [] [(2,ro 0 95 3 l14n (rf qQ l14)),(3,bx 71 [ci v5.Z,.own 2 0 3 l14n])]
def qFn (v5:Ring) (l33:List qL):St:=
 ⟨[(4,vp 1 0),(7,vp 3 0)],[(1,bx 71 [ci 0,.emp]),(2,ro 0 95 3 l33.length (rf qQ l33)),(3,bx 71 [ci v5.Z,.own 2 0 3 l33.length])]⟩
def qOO (a1:Ring) (a2:Int) (v5:Ring) (x11:Bool):St:=
 (PS a1 a2).up [] [(32,vb x11)] [] [(2,ro 0 95 3 v5.Read.length (rf qQ v5.Read)),(3,bx 71 [ci v5.Z,.own 2 0 3 v5.Read.length])]
theorem qNH (E:Env 0) (a1:Ring) (a2:Int) (v5:Ring):∀(n:Nat) (x13:Int) (l14:List qL) (l14n:Nat) (res:(List qL)),l14.length=l14n->jR a1 a2 n x13 l14=some res->HL (kx E 92 0) (nd f101 500) (zF 0 (λo=>qFn v5 o) res) n (OK a1 a2 v5 x13 l14 l14n):=by
 intro n
 induction n with
 |zero=>
  intro x13 l14 l14n res hl0 hm;cases hm
 |succ n ih=>
  intro x13 l14 l14n res hl0 hm;subst hl0;refine qR (q_sq ?_);refine s_va 4 [(38,vb (decide (x13<(a1.Read.length:Int))))] (q_cq hm (λhm=>?_) (λhm=>?_))
  ·refine q_sk (q_jn (ι:=(List qL)×Nat) (λp=>qFK a1 a2 v5 x13 p.1 p.2) (λp=>p.1.length=p.2/\UW x13 (jR a1 a2 n) p.1=some res) ?_ ?_)
   ·rintro⟨l32,l32n⟩ ⟨el32,hm⟩;replace el32:l32.length=l32n:=el32;subst el32;show H _ (qFK a1 a2 v5 x13 l32 l32.length) _ _;exact q_vv [] 6 [8] [(8,vi (w64 (x13+1)))] (q_hl (OK a1 a2 v5 (w64 (x13+1)) l32 l32.length) (ih (w64 (x13+1)) l32 l32.length _ rfl hm))
   ·refine q_bk 1 (q_sq ?_);obtain⟨g16,hm⟩:=qI hm;refine s_vv [qi 3 g16] 4 [38] [(47,vb (!((a1.Read.getD x13.toNat dd).Ok)))] (q_cq hm (λhm=>?_) (λhm=>?_))
    ·exact q_ex 1 (q_J (l14,l14.length) ⟨rfl,hm⟩)
    ·refine q_sk ?_;obtain⟨v18,h19,hm⟩:=qC hm;obtain⟨g20,hm⟩:=qI hm;obtain⟨v21,h22,hm⟩:=qC hm;obtain⟨g23,hm⟩:=qI hm
     refine s_du [qk 5 [51,52] 4 ⟨[(51,vc (tl qQ dd a1.Read)),(52,vi x13)],[]⟩ (AD a1.Read x13 (-1) v18 h19),qi 6 g20,qk 13 [59,60] 4 ⟨[(59,vc (tl qQ dd a1.Read)),(60,vi x13)],[]⟩ (AD a1.Read x13 1 v21 h22),qi 14 g23] [0,1,0,4,0,28,63,127,0,256,0,1024,0,7228,16188,32572,0,0,212223,524287] 4 [47] [(9,vp 4 0),(10,vp 5 0)] [] [(4,bx 95 (qQ (a1.Read.getD v18.toNat dd))),(5,bx 95 (qQ (a1.Read.getD v21.toNat dd)))] (q_jn (qOf a1 a2 v5 x13 l14) (λp=>MR x13 l14 (jR a1 a2 n) p=some res) ?_ ?_)
     ·rintro x29 hm;refine q_cq hm (λhm=>?_) (λhm=>?_)
      ·obtain⟨g31,hm⟩:=qI hm;exact q_vu [qi 4 g31,qd 5 (drw 0 0 (rf qQ (l14.set x13.toNat (qL.mk (qA.mk 0 0) false)))) (stP qQ dd (qL.mk (qA.mk 0 0) false) l14 l14.length x13.toNat 0 [ci 0,ci 0,cb false] rfl (qW (zD g31)) rfl)] 6 [85] [] [2] [(2,ro 0 95 3 l14.length (rf qQ (l14.set x13.toNat (qL.mk (qA.mk 0 0) false))))] (q_J ((l14.set x13.toNat (qL.mk (qA.mk 0 0) false)),l14.length) ⟨(jI rfl),hm⟩)
      ·exact q_sk (q_J (l14,l14.length) ⟨rfl,hm⟩)
     ·obtain⟨v24,h25,hm⟩:=qC hm;rcases bif_c hm with⟨b26,hm⟩|⟨b26,hm⟩
      ·obtain⟨v27,h28,hm⟩:=qC hm
       exact q_du [qi 3 g16,qc 9 [69,71,72] 6 (qCe ((a1.Read.getD x13.toNat dd).P) ((a1.Read.getD v18.toNat dd).P) a2 v24 h25),qf 10 b26,qi 14 g16,qk 20 [74,80,82,83] 6 ⟨[(74,vb true),(80,va [ci (((a1.Read.getD x13.toNat dd).P).X),ci (((a1.Read.getD x13.toNat dd).P).Y)]),(82,va [ci (((a1.Read.getD v21.toNat dd).P).X),ci (((a1.Read.getD v21.toNat dd).P).Y)]),(83,vi a2)],[]⟩ (qCe ((a1.Read.getD x13.toNat dd).P) ((a1.Read.getD v21.toNat dd).P) a2 v27 h28)] [0,1,0,7,15,31,0,64,0,511,1023,2047,4095,2047,16383,32767,65535,2047,133119,2047,1048575,2097151] 6 [9,10] [(85,vb v27)] [4,5] [] (q_J (v27) hm)
      ·exact q_du [qi 3 g16,qc 9 [69,71,72] 6 (qCe ((a1.Read.getD x13.toNat dd).P) ((a1.Read.getD v18.toNat dd).P) a2 v24 h25),qf 10 b26] [0,1,0,7,15,31,0,64,0,511,1023,2047,4095,2047,16383,32767,65535,2047,133119,2047,1048575,2097151] 6 [9,10] [(85,vb false)] [4,5] [] (q_J (false) hm)
  ·refine q_ex 0 ?_;obtain rfl:=oi hm;exact q_l0
theorem qTc (a1:Ring) (a2:Int) (r:Ring) (hm:EG a1 a2=some r):CtX Tryz.prog globs 101 0 0 [.agg (qU a1),.one (ci a2)] [] (qUI r) (qVw r):=by
 unfold EG at hm;refine q_E f101 92 λE=>?_;refine s_vn [] 0 ⟨[(1,vi a2),(2,vp 0 0),(4,vp 1 0)],[(0,bx 71 (qU a1)),(1,bx 71 [ci 0,.emp])]⟩ ?_;obtain⟨v3,h4,hm⟩:=qC hm;refine s_vv [qc 1 [12] 2 (qKh a1 v3 h4)] 2 [] [(5,vi v3.1)] ?_;obtain⟨v5,h6,hm⟩:=qC hm;refine s_vu [qc 1 [16] 2 (qGY a1 v5 h6)] 2 [] [(7,vp 3 0)] [] [(2,ro 0 95 3 v5.Read.length (rf qQ v5.Read)),(3,bx 71 [ci v5.Z,.own 2 0 3 v5.Read.length])] (q_sq ?_);refine q_jn (qOO a1 a2 v5) (λp=>UR a1 a2 v5 p=some r) ?_ ?_
 ·rintro x11 hm;refine q_cq hm (λhm=>?_) (λhm=>?_)
  ·refine s_vu [] 4 [1,2,7,32] [] [0,1,3] [(1,bx 71 [ci v5.Z,.own 2 0 3 v5.Read.length])] ?_;obtain rfl:=oi hm;exact q_sw 2 0 (q_rt q_rm)
  ·refine q_sk (q_sq ?_);refine s_vv [] 4 [32] [(8,vi 0)] ?_;obtain⟨o34,h35,hm⟩:=qC hm;refine zB (nd f101 500) 0 (by kernel_rfl) FUEL (λo=>qFn v5 o) o34 (q_hl (OK a1 a2 v5 0 v5.Read v5.Read.length) (qNH E a1 a2 v5 FUEL 0 v5.Read v5.Read.length o34 rfl h35)) (s_vu [] 4 [7] [] [1,3] [(1,bx 71 [ci v5.Z,.own 2 0 3 o34.length])] ?_);obtain rfl:=oi hm;exact q_sw 2 0 (q_rt q_rm)
 ·rcases bif_c hm with⟨b7,hm⟩|⟨b7,hm⟩
  ·exact q_vv [qf 2 b7] 4 [5] [(32,vb true)] (q_J (true) hm)
  ·rcases bif_c hm with⟨b8,hm⟩|⟨b8,hm⟩
   ·exact q_vv [qf 2 b7,qf 10 b8] 4 [5] [(32,vb true)] (q_J (true) hm)
   ·obtain⟨v9,h10,hm⟩:=qC hm;exact q_vv [qf 2 b7,qf 10 b8,qk 12 [28,29] 4 ⟨[(28,vb false),(29,va (qU a1))],[]⟩ (LY a1 v9 h10)] 4 [5] [(32,vb (v9 !=0))] (q_J (v9 !=0) hm)
def qVg (r:Int):V:=vi r
def qVn (r:Int):List (Nat×(Nat×O)):=[]
def qPq (x5:Int):St:=
 ⟨[(5,vi x5)],[]⟩
theorem qIZ (a1:Int) (a2:Int) (r:Int) (hm:DY a1 a2=some r):CtX Tryz.prog globs 159 0 0 [.one (ci a1),.one (ci a2)] [] (qVg r) (qVn r):=by
 unfold DY at hm;refine q_E f159 17 λE=>?_;refine s_vn [] 0 ⟨[(0,vi a1),(1,vi a2)],[]⟩ ?_;obtain⟨g3,hm⟩:=qI hm;refine s_vv [qd 2 dN (JK g3)] 0 [] [(5,vi (w64 (Int.tdiv a1 a2)))] (q_jn (qPq) (λp=>MS p=some r) ?_ ?_)
 ·rintro x5 hm;refine s_vn [] 0 ⟨[(4,vi x5)],[]⟩ ?_;obtain rfl:=oi hm;exact q_rt q_rm
 ·refine s_vv [] 0 [0,1] [(13,vb (decide ((w64 ((w64 (Int.tdiv a1 a2))*a2))>a1)))] (q_cq hm (λhm=>?_) (λhm=>?_))
  ·exact q_vn [] 0 ⟨[(5,vi (w64 ((w64 (Int.tdiv a1 a2))-1)))],[]⟩ (q_J (w64 ((w64 (Int.tdiv a1 a2))-1)) hm)
  ·exact q_sk (q_J (w64 (Int.tdiv a1 a2)) hm)
open Go.Proofs Go.Proofs.Tryz
def qIn (r:(List qA)×Int):V:= .tup [.one (.own 0 0 2 r.1.length),.one (ci r.2)]
def HF (r:(List qA)×Int):List (Nat×(Nat×O)):=[(0,ro 0 93 2 r.1.length (rf qB r.1))]
theorem qS7 (r:(List qA)×Int):wQ (HF r):=by
 intro i k o h;unfold HF at h;rw[look_cons] at h;split at h
 ·cases h;exact λ_ _=>rfl
 ·cases h
def qEy (a1:Ring) (x13:Int) (l30:List qA) (l30n:Nat):St:=
 ⟨[(2,vp 0 0),(7,vi (a1.Read.length:Int)),(10,vo 1 0 2 l30n),(11,vi x13)],[(0,bx 71 (qU a1)),(1,ro 0 93 2 l30n (rf qB l30))]⟩
def SW (a1:Ring) (l12:List qA) (l12n:Nat) (x13:Int):St:=
 ⟨[(2,vp 0 0),(7,vi (a1.Read.length:Int)),(10,vo 1 0 2 l12n),(11,vi x13)],[(0,bx 71 (qU a1)),(1,ro 0 93 2 l12n (rf qB l12))]⟩
def qEh (l31:List qA):St:=
 ⟨[(10,vo 1 0 2 l31.length)],[(1,ro 0 93 2 l31.length (rf qB l31))]⟩
def qMQ (a1:Ring) (x10:Bool):St:=
 ⟨[(2,vp 0 0),(7,vi (a1.Read.length:Int)),(43,vb x10)],[(0,bx 71 (qU a1))]⟩
theorem qLR (E:Env 0) (a1:Ring):∀(n:Nat) (l12:List qA) (l12n:Nat) (x13:Int) (res:(List qA)),l12.length=l12n->yA a1 n l12 x13=some res->HL (kx E 127 0) (nd f100 2036) (zF 0 qEh res) n (SW a1 l12 l12n x13):=by
 intro n
 induction n with
 |zero=>
  intro l12 l12n x13 res hl0 hm;cases hm
 |succ n ih=>
  intro l12 l12n x13 res hl0 hm;subst hl0;refine qR (q_sq ?_);refine s_va 2 [(46,vb (decide (x13<(a1.Read.length:Int))))] (q_cq hm (λhm=>?_) (λhm=>?_))
  ·refine q_sk (q_jn (ι:=(List qA)×Nat) (λp=>qEy a1 x13 p.1 p.2) (λp=>p.1.length=p.2/\BM x13 (yA a1 n) p.1=some res) ?_ ?_)
   ·rintro⟨l30,l30n⟩ ⟨el30,hm⟩;replace el30:l30.length=l30n:=el30;subst el30;show H _ (qEy a1 x13 l30 l30.length) _ _;exact q_vv [] 5 [11] [(11,vi (w64 (x13+1)))] (q_hl (SW a1 l30 l30.length (w64 (x13+1))) (ih l30 l30.length (w64 (x13+1)) _ rfl hm))
   ·refine q_bk 1 (q_sq ?_);obtain⟨g15,hm⟩:=qI hm;refine s_vv [qi 3 g15] 2 [46] [(54,vb ((a1.Read.getD x13.toNat dd).Ok))] (q_cq hm (λhm=>?_) (λhm=>?_))
    ·obtain⟨g17,hm⟩:=qI hm;refine s_vu [qi 4 g15,qd 7 (drw 2 0 (rf qB [(a1.Read.getD x13.toNat dd).P])) (litP qB dd 2 (λ_=>rfl) ([(a1.Read.getD x13.toNat dd).P]:List qA) 1 rfl),qd 8 (drw 1 1 (rf qB (l12++[(a1.Read.getD x13.toNat dd).P]))) (apP qB dd l12 ([(a1.Read.getD x13.toNat dd).P]:List qA) l12.length 1 2 16 (1<=1) (kd _) rfl rfl (λ_=>rfl) (zN g17))] 2 [10,54] [(10,vo 1 1 2 (l12.length+1))] [1] [(1,ro 1 93 2 (l12.length+1) (rf qB (l12++[(a1.Read.getD x13.toNat dd).P])))] (q_ex 1 ?_);exact q_J ((l12++[(a1.Read.getD x13.toNat dd).P]),(l12.length+1)) ⟨(zH rfl rfl),hm⟩
    ·refine q_sk ?_;obtain⟨v18,h19,hm⟩:=qC hm;obtain⟨v20,h21,hm⟩:=qC hm;refine s_du [qk 3 [65,66] 2 ⟨[(65,vc (tl qQ dd a1.Read)),(66,vi x13)],[]⟩ (AD a1.Read x13 (-1) v18 h19),qk 7 [69,70] 2 ⟨[(69,vc (tl qQ dd a1.Read)),(70,vi x13)],[]⟩ (AD a1.Read x13 1 v20 h21)] [0,1,0,7,0,16,0,127,255,511] 2 [54] [(12,vi v18),(13,vi v20)] [] [] ?_;obtain⟨g22,hm⟩:=qI hm
     refine s_du [qd 6 dN (JK g22),qd 13 dN (JK g22)] [0,0,3,0,15,0,63,0,0,384,0,1920,0,8064,127,32767] 2 [] [(14,vi (Int.tmod (w64 ((w64 (x13-v18))+(a1.Read.length:Int))) (a1.Read.length:Int))),(15,vi (Int.tmod (w64 ((w64 (v20-v18))+(a1.Read.length:Int))) (a1.Read.length:Int)))] [] [] ?_;obtain⟨g23,hm⟩:=qI hm;obtain⟨g24,hm⟩:=qI hm;refine s_du [qi 3 g23,qi 9 g24] [0,1,0,7,15,31,0,64,0,448,960,1984,0,0,12351,32767] 2 [12,13] [(16,vp 2 0),(17,vp 3 0)] [] [(2,bx 93 (qB ((a1.Read.getD v18.toNat dd).P))),(3,bx 93 (qB ((a1.Read.getD v20.toNat dd).P)))] ?_;obtain⟨v25,h26,hm⟩:=qC hm
     obtain⟨v27,h28,hm⟩:=qC hm;obtain⟨g29,hm⟩:=qI hm
     refine q_du [qc 11 [107,108] 4 (qIZ (w64 ((w64 ((((a1.Read.getD v20.toNat dd).P).X)-(((a1.Read.getD v18.toNat dd).P).X)))*(Int.tmod (w64 ((w64 (x13-v18))+(a1.Read.length:Int))) (a1.Read.length:Int)))) (Int.tmod (w64 ((w64 (v20-v18))+(a1.Read.length:Int))) (a1.Read.length:Int)) v25 h26),qc 23 [119,120] 4 (qIZ (w64 ((w64 ((((a1.Read.getD v20.toNat dd).P).Y)-(((a1.Read.getD v18.toNat dd).P).Y)))*(Int.tmod (w64 ((w64 (x13-v18))+(a1.Read.length:Int))) (a1.Read.length:Int)))) (Int.tmod (w64 ((w64 (v20-v18))+(a1.Read.length:Int))) (a1.Read.length:Int)) v27 h28),qd 26 (drw 4 0 (rf qB [(qA.mk (w64 ((((a1.Read.getD v18.toNat dd).P).X)+v25)) (w64 ((((a1.Read.getD v18.toNat dd).P).Y)+v27)))])) (litP qB dd 2 (λ_=>rfl) ([(qA.mk (w64 ((((a1.Read.getD v18.toNat dd).P).X)+v25)) (w64 ((((a1.Read.getD v18.toNat dd).P).Y)+v27)))]:List qA) 1 rfl),qd 27 (drw 1 1 (rf qB (l12++[(qA.mk (w64 ((((a1.Read.getD v18.toNat dd).P).X)+v25)) (w64 ((((a1.Read.getD v18.toNat dd).P).Y)+v27)))]))) (apP qB dd l12 ([(qA.mk (w64 ((((a1.Read.getD v18.toNat dd).P).X)+v25)) (w64 ((((a1.Read.getD v18.toNat dd).P).Y)+v27)))]:List qA) l12.length 1 2 16 (1<=1) (kd _) rfl rfl (λ_=>rfl) (zN g29))] [0,0,2,0,8,0,32,120,0,504,0,2040,4094,0,8192,0,32768,0,131072,491520,0,2064384,0,8359928,16773112,33554430,67108862,134217727,268435455] 4 [10,14,15,16,17] [(10,vo 1 1 2 (l12.length+1))] [1,2,3] [(1,ro 1 93 2 (l12.length+1) (rf qB (l12++[(qA.mk (w64 ((((a1.Read.getD v18.toNat dd).P).X)+v25)) (w64 ((((a1.Read.getD v18.toNat dd).P).Y)+v27)))])))] ?_
     exact q_J ((l12++[(qA.mk (w64 ((((a1.Read.getD v18.toNat dd).P).X)+v25)) (w64 ((((a1.Read.getD v18.toNat dd).P).Y)+v27)))]),(l12.length+1)) ⟨(zH rfl rfl),hm⟩
  ·refine q_ex 0 ?_;obtain rfl:=oi hm;exact q_l0
theorem qQh (a1:Ring) (a2:Int) (r:(List qA)×Int) (hm:NJ a1 a2=some r):CtX Tryz.prog globs 100 0 0 [.agg (qU a1),.one (ci a2)] [] (qIn r) (HF r):=by
 unfold NJ at hm;refine q_E f100 127 λE=>?_;refine s_vn [] 0 ⟨[(1,vi a2),(2,vp 0 0)],[(0,bx 71 (qU a1))]⟩ (q_sq ?_);obtain⟨v3,h4,hm⟩:=qC hm;refine s_vv [qc 1 [18] 1 (LY a1 v3 h4)] 1 [] [(6,vi v3)] (s_va 1 [(21,vb (v3 !=0))] ?_);refine q_cq hm (λhm=>?_) (λhm=>?_)
 ·refine s_vn [] 1 ⟨[(4,vc (.emp)),(5,vi v3)],[]⟩ (q_fo 4 1 93 2 qB ?_);refine q_fl 4 1 93 2 qB ?_;obtain rfl:=oi hm;exact q_sw 1 0 (q_rt q_rm)
 ·refine q_sk (s_vv [] 1 [6,21] [(7,vi (a1.Read.length:Int))] ?_);obtain⟨v6,h7,hm⟩:=qC hm;refine s_vv [qc 1 [27] 1 (qKh a1 v6 h7)] 1 [] [(8,vi v6.1),(9,vi v6.2)] (q_sq ?_);refine q_jn (qMQ a1) (λp=>PM a1 p=some r) ?_ ?_
  ·rintro x10 hm;refine q_cq hm (λhm=>?_) (λhm=>?_)
   ·refine s_vn [] 1 ⟨[(4,vc (.emp)),(5,vi 30)],[]⟩ (q_fo 4 1 93 2 qB ?_);refine q_fl 4 1 93 2 qB ?_;obtain rfl:=oi hm;exact q_sw 1 0 (q_rt q_rm)
   ·refine q_sk (s_vv [] 1 [43] [(10,vc (.emp))] ?_);refine q_sq (s_va 1 [(11,vi 0)] ?_);refine q_fo 10 1 93 2 qB ?_;obtain⟨o32,h33,hm⟩:=qC hm;refine zB (nd f100 2036) 0 (by kernel_rfl) FUEL qEh o32 (q_hl (SW a1 ([]:List qA) 0 0) (qLR E a1 FUEL ([]:List qA) 0 0 o32 rfl h33)) (s_vv [] 2 [10] [(4,vo 1 0 2 o32.length),(5,vi 0)] ?_);obtain rfl:=oi hm;exact q_sw 1 0 (q_rt q_rm)
  ·rcases bif_c hm with⟨b8,hm⟩|⟨b8,hm⟩
   ·exact q_vv [qf 4 b8] 1 [1,8,9] [(43,vb true)] (q_J (true) hm)
   ·rcases bif_c hm with⟨b9,hm⟩|⟨b9,hm⟩
    ·exact q_vv [qf 4 b8,qf 7 b9] 1 [1,8,9] [(43,vb (decide (v6.2>a2)))] (q_J (decide (v6.2>a2)) hm)
    ·exact q_vv [qf 4 b8,qf 7 b9] 1 [1,8,9] [(43,vb false)] (q_J (false) hm)
def qSA (r:Bool):V:=vb r
def qST (r:Bool):List (Nat×(Nat×O)):=[]
def qMW (x5:Bool):St:=
 ⟨[(4,vb x5)],[]⟩
theorem qSe (a1:qA) (a2:qA) (r:Bool) (hm:FF a1 a2=some r):CtX Tryz.prog globs 256 0 0 [.agg (qB a1),.agg (qB a2)] [] (qSA r) (qST r):=by
 unfold FF at hm;refine q_E f256 24 λE=>?_;refine s_vn [] 0 ⟨[(2,vp 0 0),(3,vp 1 0)],[(0,bx 93 (qB a1)),(1,bx 93 (qB a2))]⟩ (q_jn (qMW) (λp=>RH p=some r) ?_ ?_)
 ·rintro x5 hm;obtain rfl:=oi hm;exact q_rt q_rm
 ·rcases bif_c hm with⟨b3,hm⟩|⟨b3,hm⟩
  ·exact q_vn [qf 5 b3] 2 ⟨[(4,vb true)],[]⟩ (q_J (true) hm)
  ·rcases bif_c hm with⟨b4,hm⟩|⟨b4,hm⟩
   ·exact q_vn [qf 5 b3,qf 11 b4] 2 ⟨[(4,vb (decide (a1.Y<a2.Y)))],[]⟩ (q_J (decide (a1.Y<a2.Y)) hm)
   ·exact q_vn [qf 5 b3,qf 11 b4] 2 ⟨[(4,vb false)],[]⟩ (q_J (false) hm)
def qSt (r:(List qA)):V:=vo 0 0 2 r.length
def qSM (r:(List qA)):List (Nat×(Nat×O)):=[(0,ro 0 93 2 r.length (rf qB r))]
def WS (a1:List qA) (l2:List qA) (x3:Int):St:=
 ⟨[(0,vc (tl qB dd a1)),(3,vo 0 0 2 l2.length),(4,vi x3)],[(0,ro 0 93 2 l2.length (rf qB l2))]⟩
def qNi (a1:List qA) (l2:List qA) (x3:Int) (x5:Int) (x11:Bool):St:=
 (WS a1 l2 x3).up [] [(5,vi x5),(27,vb x11)] [] []
def ST (a1:List qA) (l2:List qA) (x3:Int) (x5:Int):St:=
 (WS a1 l2 x3).up [] [(5,vi x5)] [] []
def qEA (a1:List qA) (l2:List qA) (x3:Int) (x13:Int):St:=
 (WS a1 l2 x3).up [] [(5,vi x13)] [] []
def qEl (a1:List qA) (x3:Int) (l27:List qA) (l27n:Nat):St:=
 ⟨[(0,vc (tl qB dd a1)),(3,vo 0 0 2 l27n),(4,vi x3)],[(0,ro 0 93 2 l27n (rf qB l27))]⟩
def qMN (a1:List qA) (l2:List qA) (x3:Int) (o14:Int) (x19:Bool):St:=
 (WS a1 l2 x3).up [] [(5,vi o14),(44,vb x19)] [] []
def SB (a1:List qA) (l2:List qA) (l2n:Nat) (x3:Int):St:=
 (WS a1 l2 x3).up [3] [(3,vo 0 0 2 l2n)] [0] [(0,ro 0 93 2 l2n (rf qB l2))]
def qEv (l28:List qA):St:=
 ⟨[(3,vo 0 0 2 l28.length)],[(0,ro 0 93 2 l28.length (rf qB l28))]⟩
theorem qLy (E:Env 0) (a1:List qA) (l2:List qA) (x3:Int):∀(n:Nat) (x5:Int) (res:Int),WB a1 l2 x3 n x5=some res->HL (kx E 63 0) (nd f235 14920) (zF 2 (λo=>qEA a1 l2 x3 o) res) n (ST a1 l2 x3 x5):=by
 intro n
 induction n with
 |zero=>
  intro x5 res hm;cases hm
 |succ n ih=>
  intro x5 res hm;refine qR (q_sq ?_);refine q_jn (qNi a1 l2 x3 x5) (λp=>BX x5 (WB a1 l2 x3 n) p=some res) ?_ ?_
  ·rintro x11 hm;refine q_cq hm (λhm=>?_) (λhm=>?_)
   ·refine q_sk (q_bk 3 ?_);exact q_vv [] 1 [5,27] [(5,vi (w64 (x5+1)))] (q_hl (ST a1 l2 x3 (w64 (x5+1))) (ih (w64 (x5+1)) _ hm))
   ·refine q_ex 2 ?_;obtain rfl:=oi hm;exact q_l0
  ·rcases bif_c hm with⟨b6,hm⟩|⟨b6,hm⟩
   ·obtain⟨g7,hm⟩:=qI hm;obtain⟨g8,hm⟩:=qI hm;obtain⟨v9,h10,hm⟩:=qC hm;exact q_du [qf 4 b6,qi 7 g7,qd 8 dN (qW (zD g7)),qi 11 g8,qk 13 [17,21,25] 1 ⟨[(17,vb true),(21,va [ci ((l2.getD x5.toNat dd).X),ci ((l2.getD x5.toNat dd).Y)]),(25,va [ci ((a1.getD x3.toNat dd).X),ci ((a1.getD x3.toNat dd).Y)])],[]⟩ (qSe (l2.getD x5.toNat dd) (a1.getD x3.toNat dd) v9 h10)] [0,0,2,7,15,31,31,127,255,31,31,1567,3615,8191,16383] 1 [] [(27,vb v9)] [] [] (q_J (v9) hm)
   ·exact q_du [qf 4 b6] [0,0,2,7,15,31,31,127,255,31,31,1567,3615,8191,16383] 1 [] [(27,vb false)] [] [] (q_J (false) hm)
theorem qMq (E:Env 0) (a1:List qA):∀(n:Nat) (l2:List qA) (l2n:Nat) (x3:Int) (res:(List qA)),l2.length=l2n->yE a1 n l2 x3=some res->HL (kx E 63 0) (nd f235 116) (zF 0 qEv res) n (SB a1 l2 l2n x3):=by
 intro n
 induction n with
 |zero=>
  intro l2 l2n x3 res hl0 hm;cases hm
 |succ n ih=>
  intro l2 l2n x3 res hl0 hm;subst hl0;refine qR (q_sq ?_);refine s_va 1 [(10,vb (decide (x3<(a1.length:Int))))] (q_cq hm (λhm=>?_) (λhm=>?_))
  ·refine q_sk (q_jn (ι:=(List qA)×Nat) (λp=>qEl a1 x3 p.1 p.2) (λp=>p.1.length=p.2/\NF x3 (yE a1 n) p.1=some res) ?_ ?_)
   ·rintro⟨l27,l27n⟩ ⟨el27,hm⟩;replace el27:l27.length=l27n:=el27;subst el27;show H _ (qEl a1 x3 l27 l27.length) _ _;exact q_vv [] 3 [4] [(4,vi (w64 (x3+1)))] (q_hl (SB a1 l27 l27.length (w64 (x3+1))) (ih l27 l27.length (w64 (x3+1)) _ rfl hm))
   ·refine q_bk 1 (s_vv [] 1 [10] [(5,vi 0)] ?_);refine q_sq ?_;obtain⟨o14,h15,hm⟩:=qC hm;refine zB (nd f235 14920) 2 (by kernel_rfl) FUEL (λo=>qEA a1 l2 x3 o) o14 (q_hl (ST a1 l2 x3 0) (qLy E a1 l2 x3 FUEL 0 o14 h15)) (q_sq ?_);refine q_jn (qMN a1 l2 x3 o14) (λp=>NG a1 l2 x3 (yE a1 n) o14 p=some res) ?_ ?_
    ·rintro x19 hm;refine q_cq hm (λhm=>?_) (λhm=>?_)
     ·exact q_ex 1 (q_J (l2,l2.length) ⟨rfl,hm⟩)
     ·refine q_sk ?_;obtain⟨g21,hm⟩:=qI hm;obtain⟨g22,hm⟩:=qI hm;refine s_vu [qd 0 (drw 1 0 (rf qB [])) (litP qB dd 2 (λ_=>rfl) ([]:List qA) 0 rfl),qd 3 dN (And.intro (zG g21).2.1 (zG g21).2.2),qd 4 (drw 1 1 (rf qB (([]:List qA)++(l2.take o14.toNat)))) (apPt qB dd ([]:List qA) l2 0 o14.toNat l2.length 2 16 (show o14.toNat<=l2.length by have:=(zG g21);omega) rfl rfl (λ_=>rfl) (zN g22))] 1 [44] [(6,vo 1 1 2 (0+o14.toNat))] [] [(1,ro 1 93 2 (0+o14.toNat) (rf qB (([]:List qA)++(l2.take o14.toNat))))] ?_;obtain⟨g23,hm⟩:=qI hm;obtain⟨g24,hm⟩:=qI hm
      refine s_vu [qi 3 g23,qd 5 (drw 2 0 (rf qB [(a1.getD x3.toNat dd)])) (litP qB dd 2 (λ_=>rfl) ([(a1.getD x3.toNat dd)]:List qA) 1 rfl),qd 6 (drw 1 2 (rf qB ((([]:List qA)++(l2.take o14.toNat))++[(a1.getD x3.toNat dd)]))) (apP qB dd (([]:List qA)++(l2.take o14.toNat)) ([(a1.getD x3.toNat dd)]:List qA) (0+o14.toNat) 1 2 16 (1<=1) (kd _) (zH rfl (jE rfl (show o14.toNat<=l2.length by have:=(zG g21);omega))) rfl (λ_=>rfl) (zN g24))] 2 [6] [(6,vo 1 2 2 ((0+o14.toNat)+1))] [1] [(1,ro 2 93 2 ((0+o14.toNat)+1) (rf qB ((([]:List qA)++(l2.take o14.toNat))++[(a1.getD x3.toNat dd)])))] ?_
      obtain⟨g25,hm⟩:=qI hm;obtain⟨g26,hm⟩:=qI hm
      refine q_wu [qd 3 dN (And.intro (zG g25).1 (zG g25).2.1),qd 4 (drw 1 3 (rf qB (((([]:List qA)++(l2.take o14.toNat))++[(a1.getD x3.toNat dd)])++((l2.drop o14.toNat).take (l2.length-o14.toNat))))) (apPd qB dd ((([]:List qA)++(l2.take o14.toNat))++[(a1.getD x3.toNat dd)]) l2 ((0+o14.toNat)+1) o14.toNat (l2.length-o14.toNat) l2.length 2 16 (show o14.toNat+(l2.length-o14.toNat)<=l2.length by have:=(zG g25);omega) (zH (zH rfl (jE rfl (show o14.toNat<=l2.length by have:=(zG g21);omega))) rfl) rfl (λ_=>rfl) (zN g26))] [.swp 1 0] o0 3 [3,5,6] [(3,vo 0 3 2 (((0+o14.toNat)+1)+(l2.length-o14.toNat)))] [0,1] [(0,ro 3 93 2 (((0+o14.toNat)+1)+(l2.length-o14.toNat)) (rf qB (((([]:List qA)++(l2.take o14.toNat))++[(a1.getD x3.toNat dd)])++((l2.drop o14.toNat).take (l2.length-o14.toNat)))))] ?_
      exact q_J ((((([]:List qA)++(l2.take o14.toNat))++[(a1.getD x3.toNat dd)])++((l2.drop o14.toNat).take (l2.length-o14.toNat))),(((0+o14.toNat)+1)+(l2.length-o14.toNat))) ⟨(zH (zH (zH rfl (jE rfl (show o14.toNat<=l2.length by have:=(zG g21);omega))) rfl) (q2t rfl (show o14.toNat+(l2.length-o14.toNat)<=l2.length by have:=(zG g25);omega))),hm⟩
    ·rcases bif_c hm with⟨b16,hm⟩|⟨b16,hm⟩
     ·obtain⟨g17,hm⟩:=qI hm;obtain⟨g18,hm⟩:=qI hm;exact q_du [qf 4 b16,qi 7 g17,qd 8 dN (qW (zD g17)),qi 11 g18] [0,0,2,7,15,31,31,127,255,31,31,1567,3615,8191,16383] 1 [] [(44,vb ((((l2.getD o14.toNat dd).X)==((a1.getD x3.toNat dd).X))&&((((l2.getD o14.toNat dd).Y)==((a1.getD x3.toNat dd).Y))&&true)))] [] [] (q_J (((((l2.getD o14.toNat dd).X)==((a1.getD x3.toNat dd).X))&&((((l2.getD o14.toNat dd).Y)==((a1.getD x3.toNat dd).Y))&&true))) hm)
     ·exact q_du [qf 4 b16] [0,0,2,7,15,31,31,127,255,31,31,1567,3615,8191,16383] 1 [] [(44,vb false)] [] [] (q_J (false) hm)
  ·refine q_ex 0 ?_;obtain rfl:=oi hm;exact q_l0
theorem qQR (a1:List qA) (r:(List qA)) (hm:FP a1=some r):CtX Tryz.prog globs 235 0 0 [.one (tl qB dd a1)] [] (qSt r) (qSM r):=by
 unfold FP at hm;refine q_E f235 63 λE=>?_;refine s_vn [] 0 ⟨[(0,vc (tl qB dd a1))],[]⟩ (s_va 0 [(3,vc (.emp))] ?_);refine q_sq (s_va 0 [(4,vi 0)] ?_);refine q_fo 3 0 93 2 qB ?_;obtain⟨o29,h30,hm⟩:=qC hm;refine zB (nd f235 116) 0 (by kernel_rfl) FUEL qEv o29 (q_hl (SB a1 ([]:List qA) 0 0) (qMq E a1 FUEL ([]:List qA) 0 0 o29 rfl h30)) (s_vv [] 1 [3] [(2,vo 0 0 2 o29.length)] ?_);obtain rfl:=oi hm;exact q_rt q_rm
open Go.Proofs Go.Proofs.Tryz
def qU0 (r:Int):V:=vi r
def qUJ (r:Int):List (Nat×(Nat×O)):=[]
theorem qS2 (a1:qA) (a2:qA) (a3:qA) (r:Int) (hm:EO a1 a2 a3=some r):CtX Tryz.prog globs 257 0 0 [.agg (qB a1),.agg (qB a2),.agg (qB a3)] [] (qU0 r) (qUJ r):=by
 unfold EO at hm;refine q_E f257 30 λE=>?_;refine s_vn [] 0 ⟨[(3,vp 0 0),(4,vp 1 0),(5,vp 2 0)],[(0,bx 93 (qB a1)),(1,bx 93 (qB a2)),(2,bx 93 (qB a3))]⟩ (s_vn [] 3 ⟨[(6,vi (w64 ((w64 ((w64 (a2.X-a1.X))*(w64 (a3.Y-a1.Y))))-(w64 ((w64 (a2.Y-a1.Y))*(w64 (a3.X-a1.X)))))))],[]⟩ ?_);obtain rfl:=oi hm;exact q_rt q_rm
def qD9 (r:(List qA)):V:=vo 0 0 2 r.length
def GV (r:(List qA)):List (Nat×(Nat×O)):=[(0,ro 0 93 2 r.length (rf qB r))]
theorem qKw (r:(List qA)):wQ (GV r):=by
 intro i k o h;unfold GV at h;rw[look_cons] at h;split at h
 ·cases h;exact λ_ _=>rfl
 ·cases h
def qOh (a1:List qA) (x3:Int) (l5:List qA) (x12:Bool):St:=
 ⟨[(0,vc (tl qB dd a1)),(3,vo 0 0 2 l5.length),(4,vi x3),(33,vb x12)],[(0,ro 0 93 2 l5.length (rf qB l5))]⟩
def IS (a1:List qA) (x3:Int) (l5:List qA) (l5n:Nat):St:=
 ⟨[(0,vc (tl qB dd a1)),(3,vo 0 0 2 l5n),(4,vi x3)],[(0,ro 0 93 2 l5n (rf qB l5))]⟩
def qGm (a1:List qA) (x3:Int) (l15:List qA):St:=
 ⟨[(0,vc (tl qB dd a1)),(3,vo 0 0 2 l15.length),(4,vi x3)],[(0,ro 0 93 2 l15.length (rf qB l15))]⟩
def IZ (a1:List qA) (l2:List qA) (l2n:Nat) (x3:Int):St:=
 ⟨[(0,vc (tl qB dd a1)),(3,vo 0 0 2 l2n),(4,vi x3)],[(0,ro 0 93 2 l2n (rf qB l2))]⟩
def qGb (l20:List qA):St:=
 ⟨[(3,vo 0 0 2 l20.length)],[(0,ro 0 93 2 l20.length (rf qB l20))]⟩
theorem qMP (E:Env 0) (a1:List qA) (x3:Int):∀(n:Nat) (l5:List qA) (l5n:Nat) (res:(List qA)),l5.length=l5n->WZ a1 x3 n l5=some res->HL (kx E 47 0) (nd f236 7456) (zF 2 (λo=>qGm a1 x3 o) res) n (IS a1 x3 l5 l5n):=by
 intro n
 induction n with
 |zero=>
  intro l5 l5n res hl0 hm;cases hm
 |succ n ih=>
  intro l5 l5n res hl0 hm;subst hl0;refine qR (q_sq ?_);refine q_jn (qOh a1 x3 l5) (λp=>LU l5 (WZ a1 x3 n) p=some res) ?_ ?_
  ·rintro x12 hm;refine q_cq hm (λhm=>?_) (λhm=>?_)
   ·refine q_sk (q_bk 3 ?_);obtain⟨g14,hm⟩:=qI hm
    exact q_wu [qd 4 dN (And.intro (zG g14).2.1 (zG g14).2.2)] [.row 0 ((w64 ((l5.length:Int)-1)).toNat) (rf qB (l5.take ((w64 ((l5.length:Int)-1)).toNat)))] (o1 (tkP qB dd l5 l5.length ((w64 ((l5.length:Int)-1)).toNat) (show(w64 ((l5.length:Int)-1)).toNat<=l5.length by have:=(zG g14);omega))) 1 [3,33] [(3,vo 0 0 2 ((w64 ((l5.length:Int)-1)).toNat))] [0] [(0,ro 0 93 2 ((w64 ((l5.length:Int)-1)).toNat) (rf qB (l5.take ((w64 ((l5.length:Int)-1)).toNat))))] (q_hl (IS a1 x3 (l5.take ((w64 ((l5.length:Int)-1)).toNat)) ((w64 ((l5.length:Int)-1)).toNat)) (ih (l5.take ((w64 ((l5.length:Int)-1)).toNat)) ((w64 ((l5.length:Int)-1)).toNat) _ (jE rfl (show(w64 ((l5.length:Int)-1)).toNat<=l5.length by have:=(zG g14);omega)) hm))
   ·refine q_ex 2 ?_;obtain rfl:=oi hm;exact q_l0
  ·rcases bif_c hm with⟨b6,hm⟩|⟨b6,hm⟩
   ·obtain⟨g7,hm⟩:=qI hm;obtain⟨g8,hm⟩:=qI hm;obtain⟨g9,hm⟩:=qI hm;obtain⟨v10,h11,hm⟩:=qC hm
    exact q_du [qf 3 b6,qi 8 g7,qd 9 dN (qW (zD g7)),qi 14 g8,qd 15 dN (qW (zD g8)),qi 18 g9,qk 20 [14,20,26,30] 1 ⟨[(14,vb true),(20,va [ci ((l5.getD ((w64 ((l5.length:Int)-2)).toNat) dd).X),ci ((l5.getD ((w64 ((l5.length:Int)-2)).toNat) dd).Y)]),(26,va [ci ((l5.getD ((w64 ((l5.length:Int)-1)).toNat) dd).X),ci ((l5.getD ((w64 ((l5.length:Int)-1)).toNat) dd).Y)]),(30,va [ci ((a1.getD x3.toNat dd).X),ci ((a1.getD x3.toNat dd).Y)])],[]⟩ (qS2 (l5.getD ((w64 ((l5.length:Int)-2)).toNat) dd) (l5.getD ((w64 ((l5.length:Int)-1)).toNat) dd) (a1.getD x3.toNat dd) v10 h11)] [0,1,3,7,15,15,47,111,255,511,15,15,2063,6159,15375,31759,15,15,196623,458767,1048575,2097151,4194303] 1 [] [(33,vb (decide (v10<=0)))] [] [] (q_J (decide (v10<=0)) hm)
   ·exact q_du [qf 3 b6] [0,1,3,7,15,15,47,111,255,511,15,15,2063,6159,15375,31759,15,15,196623,458767,1048575,2097151,4194303] 1 [] [(33,vb false)] [] [] (q_J (false) hm)
theorem qNo (E:Env 0) (a1:List qA):∀(n:Nat) (l2:List qA) (l2n:Nat) (x3:Int) (res:(List qA)),l2.length=l2n->TS a1 n l2 x3=some res->HL (kx E 47 0) (nd f236 116) (zF 0 qGb res) n (IZ a1 l2 l2n x3):=by
 intro n
 induction n with
 |zero=>
  intro l2 l2n x3 res hl0 hm;cases hm
 |succ n ih=>
  intro l2 l2n x3 res hl0 hm;subst hl0;refine qR (q_sq ?_);refine s_va 1 [(8,vb (decide (x3<(a1.length:Int))))] (q_cq hm (λhm=>?_) (λhm=>?_))
  ·refine q_sk (q_sq ?_);refine q_bk 1 (q_sq ?_);obtain⟨o16,h17,hm⟩:=qC hm;refine zB (nd f236 7456) 2 (by kernel_rfl) FUEL (λo=>qGm a1 x3 o) o16 (q_hl (IS a1 x3 l2 l2.length) (qMP E a1 x3 FUEL l2 l2.length o16 rfl h17)) ?_;obtain⟨g18,hm⟩:=qI hm;obtain⟨g19,hm⟩:=qI hm
   refine q_vu [qi 3 g18,qd 5 (drw 1 0 (rf qB [(a1.getD x3.toNat dd)])) (litP qB dd 2 (λ_=>rfl) ([(a1.getD x3.toNat dd)]:List qA) 1 rfl),qd 6 (drw 0 1 (rf qB (o16++[(a1.getD x3.toNat dd)]))) (apP qB dd o16 ([(a1.getD x3.toNat dd)]:List qA) o16.length 1 2 16 (1<=1) (kd _) rfl rfl (λ_=>rfl) (zN g19))] 1 [3] [(3,vo 0 1 2 (o16.length+1))] [0] [(0,ro 1 93 2 (o16.length+1) (rf qB (o16++[(a1.getD x3.toNat dd)])))] (q_vv [] 2 [4] [(4,vi (w64 (x3+1)))] ?_)
   exact q_hl (IZ a1 (o16++[(a1.getD x3.toNat dd)]) (o16.length+1) (w64 (x3+1))) (ih (o16++[(a1.getD x3.toNat dd)]) (o16.length+1) (w64 (x3+1)) _ (zH rfl rfl) hm)
  ·refine q_ex 0 ?_;obtain rfl:=oi hm;exact q_l0
theorem qI8 (a1:List qA) (r:(List qA)) (hm:BD a1=some r):CtX Tryz.prog globs 236 0 0 [.one (tl qB dd a1)] [] (qD9 r) (GV r):=by
 unfold BD at hm;refine q_E f236 47 λE=>?_;refine s_vn [] 0 ⟨[(0,vc (tl qB dd a1))],[]⟩ (s_va 0 [(3,vc (.emp))] ?_);refine q_sq (s_va 0 [(4,vi 0)] ?_);refine q_fo 3 0 93 2 qB ?_;obtain⟨o21,h22,hm⟩:=qC hm;refine zB (nd f236 116) 0 (by kernel_rfl) FUEL qGb o21 (q_hl (IZ a1 ([]:List qA) 0 0) (qNo E a1 FUEL ([]:List qA) 0 0 o21 rfl h22)) (s_vv [] 1 [3] [(2,vo 0 0 2 o21.length)] ?_);obtain rfl:=oi hm;exact q_rt q_rm
end Saw
end Go.SL

import Derived.Test.YtigmogcdifllhaaGreatDoorEBase
import Derived.Test.YtigmogcdifllhaaGreatDoorEFa1
import Derived.Test.YtigmogcdifllhaaGreatDoorYa6
import Derived.Test.YtigmogcdifllhaaGreatDoorPCmp
import Derived.Ground.SlsfProg
set_option linter.unusedVariables false
set_option linter.unusedSimpArgs false
namespace Go.SL
namespace Saw
open Go.Proofs Go.Proofs.Tryz
set_option maxHeartbeats 4000000
set_option maxRecDepth 100000
def MN (r:Int):V:=vi r
def SJ (r:Int):List (Nat×(Nat×O)):=[]
def qPd (a1:Scan) (x4:Int) (x16:Bool):St:=
 ⟨[(1,vp 0 0),(4,vp 1 0),(19,vc (tl zC du a1.Rings)),(20,vi (a1.Rings.length:Int)),(21,vi x4),(53,vb x16)],[(0,bx 25 (jG a1)),(1,bx 71 (zC (a1.Rings.getD x4.toNat du)))]⟩
def qAy (a1:Scan) (x4:Int):St:=
 ⟨[(1,vp 0 0),(19,vc (tl zC du a1.Rings)),(20,vi (a1.Rings.length:Int)),(21,vi x4)],[(0,bx 25 (jG a1))]⟩
def qFP (a1:Scan):St:=
 ⟨[(1,vp 0 0)],[(0,bx 25 (jG a1))]⟩
def qAC (a1:Scan) (x28:Int):St:=
 ⟨[(7,vi ((a1.Rings.getD (w64 ((a1.Rings.length:Int)-1)).toNat du).Z)),(81,vc (tl qN du a1.Defects)),(82,vi (a1.Defects.length:Int)),(83,vi x28)],[]⟩
def qGf :St:=
 ⟨[],[]⟩
theorem qN3 (E:Env 0) (a1:Scan):∀(n:Nat) (x4:Int) (res:Int⊕Unit),jS a1 n x4=some res->HL (kx E 94 0) (nd f37 244) (wY 0 (λo=>qFP a1) (λv st=>RetQ Tryz.prog f37 (MN v) (SJ v) .ret st) res) n (qAy a1 x4):=by
 intro n
 induction n with
 |zero=>
  intro x4 res hm;cases hm
 |succ n ih=>
  intro x4 res hm;refine qU (s_va 1 [(22,vb (decide (x4<(a1.Rings.length:Int))))] ?_);refine q_sq (q_cq hm (λhm=>?_) (λhm=>?_))
  ·refine q_sk (q_sq ?_);refine q_bk 1 ?_;obtain⟨g6,hm⟩:=qJ hm;refine s_vu [qi 1 g6] 1 [22] [(3,vi x4),(4,vp 1 0)] [] [(1,bx 71 (zC (a1.Rings.getD x4.toNat du)))] (q_sq ?_);obtain⟨v7,h8,hm⟩:=qC hm;refine s_vv [qc 1 [26] 2 (OB (a1.Rings.getD x4.toNat du) v7 h8)] 2 [] [(5,vi v7)] (s_va 2 [(29,vb (v7 !=0))] ?_);refine q_cq hm (λhm=>?_) (λhm=>?_)
   ·refine s_vn [] 2 ⟨[(2,vi v7)],[]⟩ ?_;obtain rfl:=oi hm;refine q_rt (zQ v7 ?_);exact q_rm
   ·refine q_sk (q_sq ?_);refine q_jn (qPd a1 x4) (λp=>KT a1 x4 (jS a1 n) p=some res) ?_ ?_
    ·rintro x16 hm;refine q_cq hm (λhm=>?_) (λhm=>?_)
     ·refine s_vn [] 2 ⟨[(2,vi 11)],[]⟩ ?_;obtain rfl:=oi hm;refine q_rt (zQ 11 ?_);exact q_rm
     ·refine q_sk ?_;obtain⟨g18,hm⟩:=qJ hm;refine s_du [qi 5 g18] [0,1,3,0,8,24,56,120,248,511] 2 [4,53] [(63,vb (((((a1.Rings.getD x4.toNat du).Read).length:Nat):Int) !=((((a1.Rings.getD (0:Int).toNat du).Read).length:Nat):Int)))] [1] [] (q_cq hm (λhm=>?_) (λhm=>?_))
      ·refine s_vn [] 2 ⟨[(2,vi 19)],[]⟩ ?_;obtain rfl:=oi hm;refine q_rt (zQ 19 ?_);exact q_rm
      ·refine q_sk (q_vv [] 2 [21,63] [(21,vi (w64 (x4+1)))] ?_);exact q_hl (qAy a1 (w64 (x4+1))) (ih (w64 (x4+1)) _ hm)
    ·rcases bif_c hm with⟨b10,hm⟩|⟨b10,hm⟩
     ·rcases bif_c hm with⟨b11,hm⟩|⟨b11,hm⟩
      ·exact q_du [qf 2 b10,qf 7 b11] [0,1,3,7,15,31,63,127,255,511,1023,2047,4095,2047,10239,2047,34815,124927,255999,518143,1048575,2097151,4194303] 2 [3,5,29] [(53,vb true)] [] [] (q_J (true) hm)
      ·rcases bif_c hm with⟨b12,hm⟩|⟨b12,hm⟩
       ·obtain⟨g13,hm⟩:=qJ hm;exact q_du [qf 2 b10,qf 7 b11,qf 10 b12,qi 17 g13] [0,1,3,7,15,31,63,127,255,511,1023,2047,4095,2047,10239,2047,34815,124927,255999,518143,1048575,2097151,4194303] 2 [3,5,29] [(53,vb (decide (((a1.Rings.getD x4.toNat du).Z)<=((a1.Rings.getD (w64 (x4-1)).toNat du).Z))))] [] [] (q_J (decide (((a1.Rings.getD x4.toNat du).Z)<=((a1.Rings.getD (w64 (x4-1)).toNat du).Z))) hm)
       ·exact q_du [qf 2 b10,qf 7 b11,qf 10 b12] [0,1,3,7,15,31,63,127,255,511,1023,2047,4095,2047,10239,2047,34815,124927,255999,518143,1048575,2097151,4194303] 2 [3,5,29] [(53,vb false)] [] [] (q_J (false) hm)
     ·rcases bif_c hm with⟨b14,hm⟩|⟨b14,hm⟩
      ·obtain⟨g15,hm⟩:=qJ hm;exact q_du [qf 2 b10,qf 10 b14,qi 17 g15] [0,1,3,7,15,31,63,127,255,511,1023,2047,4095,2047,10239,2047,34815,124927,255999,518143,1048575,2097151,4194303] 2 [3,5,29] [(53,vb (decide (((a1.Rings.getD x4.toNat du).Z)<=((a1.Rings.getD (w64 (x4-1)).toNat du).Z))))] [] [] (q_J (decide (((a1.Rings.getD x4.toNat du).Z)<=((a1.Rings.getD (w64 (x4-1)).toNat du).Z))) hm)
      ·exact q_du [qf 2 b10,qf 10 b14] [0,1,3,7,15,31,63,127,255,511,1023,2047,4095,2047,10239,2047,34815,124927,255999,518143,1048575,2097151,4194303] 2 [3,5,29] [(53,vb false)] [] [] (q_J (false) hm)
  ·refine q_ex 0 ?_;obtain rfl:=oi hm;exact q_l1 ()
theorem qNn (E:Env 0) (a1:Scan):∀(n:Nat) (x28:Int) (res:Int⊕Unit),TY a1 n x28=some res->HL (kx E 94 0) (nd f37 2036) (wY 2 (λo=>qGf) (λv st=>RetQ Tryz.prog f37 (MN v) (SJ v) .ret st) res) n (qAC a1 x28):=by
 intro n
 induction n with
 |zero=>
  intro x28 res hm;cases hm
 |succ n ih=>
  intro x28 res hm;refine qU (s_va 1 [(84,vb (decide (x28<(a1.Defects.length:Int))))] ?_);refine q_sq (q_cq hm (λhm=>?_) (λhm=>?_))
  ·refine q_sk (q_sq ?_);refine q_bk 3 ?_;obtain⟨g30,hm⟩:=qJ hm;refine s_vu [qi 0 g30] 1 [84] [(9,vp 1 0)] [] [(1,bx 87 (qN (a1.Defects.getD x28.toNat du)))] (s_vu [] 2 [9] [(92,vb (decide (((((a1.Defects.getD x28.toNat du).Box).Z).B)>((a1.Rings.getD (w64 ((a1.Rings.length:Int)-1)).toNat du).Z))))] [1] [] ?_);refine q_cq hm (λhm=>?_) (λhm=>?_)
   ·refine s_vn [] 2 ⟨[(2,vi 9)],[]⟩ ?_;obtain rfl:=oi hm;refine q_rt (zQ 9 ?_);exact q_rm
   ·refine q_sk (q_vv [] 2 [83,92] [(83,vi (w64 (x28+1)))] ?_);exact q_hl (qAC a1 (w64 (x28+1))) (ih (w64 (x28+1)) _ hm)
  ·refine q_ex 2 ?_;obtain rfl:=oi hm;exact q_l1 ()
theorem qJH (a1:Scan) (r:Int) (hm:SN a1=some r):CtX Tryz.prog globs 37 0 0 [.agg (jG a1)] [] (MN r) (SJ r):=by
 unfold SN at hm;refine q_E f37 94 λE=>?_;refine s_vn [] 0 ⟨[(1,vp 0 0)],[(0,bx 25 (jG a1))]⟩ (q_sq ?_);refine s_va 1 [(13,vb (decide ((a1.Rings.length:Int)<2)))] (q_cq hm (λhm=>?_) (λhm=>?_))
 ·refine s_vn [] 1 ⟨[(2,vi 3)],[]⟩ ?_;obtain rfl:=oi hm;exact q_rt q_rm
 ·refine q_sk (q_sq ?_);refine s_vv [] 1 [13] [(17,vb (decide ((a1.Rings.length:Int)>24)))] (q_cq hm (λhm=>?_) (λhm=>?_))
  ·refine s_vn [] 1 ⟨[(2,vi 4)],[]⟩ ?_;obtain rfl:=oi hm;exact q_rt q_rm
  ·refine q_sk (q_sq ?_);refine s_vv [] 1 [17] [(19,vc (tl zC du a1.Rings)),(20,vi (a1.Rings.length:Int)),(21,vi 0)] ?_;obtain⟨u22,h21,hm⟩:=qC hm;refine zY (nd f37 244) 0 (by kernel_rfl) FUEL (λo=>qFP a1) (λv st=>RetQ Tryz.prog f37 (MN v) (SJ v) .ret st) u22 (q_hl (qAy a1 0) (qN3 E a1 FUEL 0 u22 h21)) ?_ ?_
   ·rintro v23 rfl st hr;obtain rfl:=oi hm;exact hr
   ·rintro o20 rfl;replace hm:_=some r:=hm;refine q_sq ?_;obtain⟨v24,h25,hm⟩:=qC hm;refine s_vv [qc 2 [66] 1 (JF a1.Defects v24 h25)] 1 [] [(6,vi v24)] (s_va 1 [(69,vb (v24 !=0))] ?_);refine q_cq hm (λhm=>?_) (λhm=>?_)
    ·refine s_vn [] 1 ⟨[(2,vi v24)],[]⟩ ?_;obtain rfl:=oi hm;exact q_rt q_rm
    ·refine q_sk ?_;obtain⟨g27,hm⟩:=qJ hm;refine s_vv [qi 6 g27] 1 [6,69] [(7,vi ((a1.Rings.getD (w64 ((a1.Rings.length:Int)-1)).toNat du).Z))] (q_sq ?_);refine s_vu [] 1 [1] [(81,vc (tl qN du a1.Defects)),(82,vi (a1.Defects.length:Int)),(83,vi 0)] [0] [] ?_;obtain⟨u34,h33,hm⟩:=qC hm;refine zY (nd f37 2036) 2 (by kernel_rfl) FUEL (λo=>qGf) (λv st=>RetQ Tryz.prog f37 (MN v) (SJ v) .ret st) u34 (q_hl (qAC a1 0) (qNn E a1 FUEL 0 u34 h33)) ?_ ?_
     ·rintro v35 rfl st hr;obtain rfl:=oi hm;exact hr
     ·rintro o32 rfl;replace hm:_=some r:=hm;refine s_vn [] 1 ⟨[(2,vi 0)],[]⟩ ?_;obtain rfl:=oi hm;exact q_rt q_rm
def qII (r:List Ring):V:=vo 0 0 2 r.length
def qI6 (r:List Ring):List (Nat×(Nat×O)):=[(0,ro 0 71 2 r.length (rf zC r))]
theorem qHt (a1:List Ring) (r:List Ring) (hm:UR a1=some r):CtX Tryz.prog globs 77 0 0 [.one (tl zC du a1)] [] (qII r) (qI6 r):=by
 unfold UR at hm;obtain⟨g1,hm⟩:=qJ hm;obtain rfl:=kE hm;refine qBM (fn:=f77) (c:=nd f77 1) (nt:=8) (by kernel_rfl) (by kernel_rfl) (by kernel_rfl) (by kernel_rfl) λE=>?_;refine R_sq f77 2 3 (by kernel_rfl) (R_rn f77 2 0 [] [] 0 ⟨[(0,vc (tl zC du a1))],[]⟩ o0 (by kernel_rfl) (by kernel_rfl) ?_);refine R_sq f77 6 7 (by kernel_rfl) (R_sq f77 12 13 (by kernel_rfl) ?_);refine qO2 f77 12 1 1 ⟨[(0,vc (tl zC du a1)),(3,vc (tl zC du a1))],[]⟩ 22 22 71 4 (.tmp 3) a1.length (rf zC a1) (by kernel_rfl) (by kernel_rfl) (by kernel_rfl) (λb hb=>?_)
 refine R_cn f77 (.tmp 4) 26 27 (by kernel_rfl) b (by kernel_rfl) (λb6=>?_) (λb6=>?_)
 ·obtain rfl:a1=[]:=ui (hb b6);refine R_sq f77 52 53 (by kernel_rfl) (R_rn f77 52 2 [] [.own 2 0 71 2 (rf zC [])] 0 ⟨[(2,vo 0 0 2 0)],[(0,ro 0 71 2 0 (rf zC []))]⟩ o0 (by kernel_rfl) (by kernel_rfl) ?_);exact qAW (by kernel_rfl) (HR (by kernel_rfl) (by kernel_rfl))
 ·refine qHO (by kernel_rfl) (R_sq f77 14 15 (by kernel_rfl) ?_);refine R_rn f77 14 3 [(0,drw 0 0 (rf zC [])),(2,drw 0 1 (rf zC ([]++a1)))] [.len 0 a1.length] 0 ⟨[(2,vo 0 1 2 a1.length)],[(0,ro 1 71 2 a1.length (rf zC ([]++a1)))]⟩ (o1 (And.intro (And.intro (litP zC du 2 (λ_=>rfl) ([]:List Ring) 0 rfl) (apP zC du ([]:List Ring) a1 0 a1.length 2 32 True trivial rfl rfl (λ_=>rfl) (by have:=wB g1;rw[kB];exact this))) (And.intro (And.intro (kB a1.length) (kB a1.length)) (kB a1.length)))) (by kernel_rfl) (by kernel_rfl) (qAW (by kernel_rfl) ?_);exact HR (by kernel_rfl) (by kernel_rfl)
def qGY (r:List qH):V:=vo 0 0 7 r.length
def qHb (r:List qH):List (Nat×(Nat×O)):=[(0,ro 0 87 7 r.length (rf qN r))]
theorem ET (a1:List qH) (r:List qH) (hm:yL a1=some r):CtX Tryz.prog globs 25 0 0 [.one (tl qN du a1)] [] (qGY r) (qHb r):=by
 unfold yL at hm;obtain⟨g1,hm⟩:=qJ hm;obtain rfl:=kE hm;refine qBM (fn:=f25) (c:=nd f25 1) (nt:=8) (by kernel_rfl) (by kernel_rfl) (by kernel_rfl) (by kernel_rfl) λE=>?_;refine R_sq f25 2 3 (by kernel_rfl) (R_rn f25 2 0 [] [] 0 ⟨[(0,vc (tl qN du a1))],[]⟩ o0 (by kernel_rfl) (by kernel_rfl) ?_);refine R_sq f25 6 7 (by kernel_rfl) (R_sq f25 12 13 (by kernel_rfl) ?_);refine qO2 f25 12 1 1 ⟨[(0,vc (tl qN du a1)),(3,vc (tl qN du a1))],[]⟩ 23 23 87 4 (.tmp 3) a1.length (rf qN a1) (by kernel_rfl) (by kernel_rfl) (by kernel_rfl) (λb hb=>?_)
 refine R_cn f25 (.tmp 4) 26 27 (by kernel_rfl) b (by kernel_rfl) (λb6=>?_) (λb6=>?_)
 ·obtain rfl:a1=[]:=ui (hb b6);refine R_sq f25 52 53 (by kernel_rfl) (R_rn f25 52 2 [] [.own 2 0 87 7 (rf qN [])] 0 ⟨[(2,vo 0 0 7 0)],[(0,ro 0 87 7 0 (rf qN []))]⟩ o0 (by kernel_rfl) (by kernel_rfl) ?_);exact qAW (by kernel_rfl) (HR (by kernel_rfl) (by kernel_rfl))
 ·refine qHO (by kernel_rfl) (R_sq f25 14 15 (by kernel_rfl) ?_);refine R_rn f25 14 3 [(0,drw 0 0 (rf qN [])),(2,drw 0 1 (rf qN ([]++a1)))] [.len 0 a1.length] 0 ⟨[(2,vo 0 1 7 a1.length)],[(0,ro 1 87 7 a1.length (rf qN ([]++a1)))]⟩ (o1 (And.intro (And.intro (litP qN du 7 (λ_=>rfl) ([]:List qH) 0 rfl) (apP qN du ([]:List qH) a1 0 a1.length 7 56 True trivial rfl rfl (λ_=>rfl) (by have:=wB g1;rw[kB];exact this))) (And.intro (And.intro (kB a1.length) (kB a1.length)) (kB a1.length)))) (by kernel_rfl) (by kernel_rfl) (qAW (by kernel_rfl) ?_);exact HR (by kernel_rfl) (by kernel_rfl)
def qUb (r:Scan):V:=va [.own 0 0 2 r.Rings.length,.own 1 0 7 r.Defects.length]
def qVQ (r:Scan):List (Nat×(Nat×O)):=[(0,ro 0 71 2 r.Rings.length (rf zC r.Rings)),(1,ro 0 87 7 r.Defects.length (rf qN r.Defects))]
def qAA (v2:List Ring) (v4:List qH) (x6:Int) (l7:List Ring) (l7n:Nat):St:=
 ⟨[(2,vp 1 0),(3,vp 4 0),(14,vi (v2.length:Int)),(15,vi x6)],[(1,bx 25 [.emp,.emp]),(2,ro 0 71 2 l7n (rf zC l7)),(3,ro 0 87 7 v4.length (rf qN v4)),(4,bx 25 [.own 2 0 2 l7n,.own 3 0 7 v4.length])]⟩
def qGc (v4:List qH) (l15:List Ring):St:=
 ⟨[(2,vp 1 0),(3,vp 4 0)],[(1,bx 25 [.emp,.emp]),(2,ro 0 71 2 l15.length (rf zC l15)),(3,ro 0 87 7 v4.length (rf qN v4)),(4,bx 25 [.own 2 0 2 l15.length,.own 3 0 7 v4.length])]⟩
theorem qN2 (E:Env 0) (v2:List Ring) (v4:List qH):∀(n:Nat) (x6:Int) (l7:List Ring) (l7n:Nat) (res:(List Ring)),l7.length=l7n->ZU v2 n x6 l7=some res->HL (kx E 32 0) (nd f38 116) (zN 0 (λo=>qGc v4 o) res) n (qAA v2 v4 x6 l7 l7n):=by
 intro n
 induction n with
 |zero=>
  intro x6 l7 l7n res hl0 hm;cases hm
 |succ n ih=>
  intro x6 l7 l7n res hl0 hm;subst hl0;refine qU (s_va 5 [(16,vb (decide (x6<(v2.length:Int))))] ?_);refine q_sq (q_cq hm (λhm=>?_) (λhm=>?_))
  ·refine q_sk (q_sq ?_);refine q_bk 1 (s_vv [] 5 [16] [(4,vi x6)] ?_);obtain⟨g12,hm⟩:=qJ hm;obtain⟨v13,h14,hm⟩:=qC hm
   refine q_du [qi 6 g12,qd 8 dN (qT (zB g12)),qc 9 [26] 5 (CtX.frz (x':=vc (tl qX du v13)) (ob':=[]) (MX ((l7.getD x6.toNat du).Read) v13 h14) 0 (o1 (ke v13.length)) (by kernel_rfl)),qi 10 g12,qd 12 (drw 0 0 (rf zC (l7.set x6.toNat (Ring.mk ((l7.getD x6.toNat du).Z) v13)))) (stP zC du (Ring.mk ((l7.getD x6.toNat du).Z) v13) l7 l7.length x6.toNat 1 [tl qX du v13] rfl (qT (zB g12)) rfl)] [0,1,0,0,8,0,56,120,248,504,1023,2047,4095] 5 [4] [] [2] [(2,ro 0 71 2 l7.length (rf zC (l7.set x6.toNat (Ring.mk ((l7.getD x6.toNat du).Z) v13))))] (q_vv [] 5 [15] [(15,vi (w64 (x6+1)))] ?_)
   exact q_hl (qAA v2 v4 (w64 (x6+1)) (l7.set x6.toNat (Ring.mk ((l7.getD x6.toNat du).Z) v13)) l7.length) (ih (w64 (x6+1)) (l7.set x6.toNat (Ring.mk ((l7.getD x6.toNat du).Z) v13)) l7.length _ (QE rfl) hm)
  ·refine q_ex 0 ?_;obtain rfl:=oi hm;exact q_l0
theorem qSW (a1:Scan) (r:Scan) (hm:qBg a1=some r):CtX Tryz.prog globs 38 0 0 [.agg (jG a1)] [] (qUb r) (qVQ r):=by
 unfold qBg at hm;refine q_E f38 32 λE=>?_;refine s_vn [] 0 ⟨[(1,vp 0 0),(2,vp 1 0)],[(0,bx 25 (jG a1)),(1,bx 25 [.emp,.emp])]⟩ ?_;obtain⟨v2,h3,hm⟩:=qC hm;obtain⟨v4,h5,hm⟩:=qC hm;refine s_du [qc 2 [6] 2 (qHt a1.Rings v2 h3),qc 5 [9] 3 (ET a1.Defects v4 h5)] [0,1,3,0,8,31,63,0,255] 2 [1] [(3,vp 4 0)] [0] [(2,ro 0 71 2 v2.length (rf zC v2)),(3,ro 0 87 7 v4.length (rf qN v4)),(4,bx 25 [.own 2 0 2 v2.length,.own 3 0 7 v4.length])] (q_sq ?_);refine s_va 5 [(14,vi (v2.length:Int)),(15,vi 0)] ?_;obtain⟨o16,h17,hm⟩:=qC hm
 refine zI (nd f38 116) 0 (by kernel_rfl) FUEL (λo=>qGc v4 o) o16 (q_hl (qAA v2 v4 0 v2 v2.length) (qN2 E v2 v4 FUEL 0 v2 v2.length o16 rfl h17)) (s_vu [] 5 [3] [] [1,4] [(1,bx 25 [.own 2 0 2 o16.length,.own 3 0 7 v4.length])] ?_);obtain rfl:=oi hm;refine q_sw 2 0 (q_sw 3 1 ?_);exact q_rt q_rm
def qTq (r:(List qH)):V:=vo 0 0 7 r.length
def qTy (r:(List qH)):List (Nat×(Nat×O)):=[(0,ro 0 87 7 r.length (rf qN r))]
def HJ (a1:List qH) (a2:Int) (l7:List qH) (x8:Int):St:=
 ⟨[(1,vi (Int.tmod (w64 ((Int.tmod a2 4)+4)) 4)),(5,vo 0 0 7 l7.length),(6,vi x8),(7,vp 1 0),(18,vc (tl qN du a1)),(19,vi (a1.length:Int)),(20,vi x8)],[(0,ro 0 87 7 l7.length (rf qN l7))]⟩
def CB (a1:List qH) (a2:Int) (l7:List qH) (x8:Int) (x11:Int) (x12:Int) (x13:Int) (x14:Int) (x15:Int):St:=
 (HJ a1 a2 l7 x8).up [] [(25,vi (Int.tmod (w64 ((Int.tmod a2 4)+4)) 4)),(26,vi x11)] [] [(1,bx 87 [ci ((a1.getD x8.toNat du).Kind),ci x12,ci x13,ci x14,ci x15,ci ((((a1.getD x8.toNat du).Box).Z).A),ci ((((a1.getD x8.toNat du).Box).Z).B)])]
def qEP (a1:List qH) (a2:Int) (l7:List qH) (x8:Int) (x17:qH):St:=
 (HJ a1 a2 l7 x8).up [] [] [] [(1,bx 87 (qN x17))]
def OT (a1:List qH) (a2:Int) (l7:List qH) (l7n:Nat) (x8:Int):St:=
 (HJ a1 a2 l7 x8).up [5,6,7] [(5,vo 0 0 7 l7n)] [0] [(0,ro 0 87 7 l7n (rf qN l7))]
def qE5 (l21:List qH):St:=
 ⟨[(5,vo 0 0 7 l21.length)],[(0,ro 0 87 7 l21.length (rf qN l21))]⟩
theorem qLY (E:Env 0) (a1:List qH) (a2:Int) (l7:List qH) (x8:Int):∀(n:Nat) (x11:Int) (x12:Int) (x13:Int) (x14:Int) (x15:Int) (res:qH),ZB a1 a2 x8 n x11 x12 x13 x14 x15=some res->HL (kx E 53 0) (nd f39 256404) (zN 2 (λo=>qEP a1 a2 l7 x8 o) res) n (CB a1 a2 l7 x8 x11 x12 x13 x14 x15):=by
 intro n
 induction n with
 |zero=>
  intro x11 x12 x13 x14 x15 res hm;cases hm
 |succ n ih=>
  intro x11 x12 x13 x14 x15 res hm;refine qU (s_va 2 [(27,vb (decide (x11<(Int.tmod (w64 ((Int.tmod a2 4)+4)) 4))))] ?_);refine q_sq (q_cq hm (λhm=>?_) (λhm=>?_))
  ·refine q_sk (q_sq ?_);refine q_bk 3 (q_vu [] 2 [27] [] [1] [(1,bx 87 [ci ((a1.getD x8.toNat du).Kind),ci (w64 (0-x15)),ci (w64 (0-x14)),ci x12,ci x13,ci ((((a1.getD x8.toNat du).Box).Z).A),ci ((((a1.getD x8.toNat du).Box).Z).B)])] ?_);exact q_vv [] 2 [26] [(26,vi (w64 (x11+1)))] (q_hl (CB a1 a2 l7 x8 (w64 (x11+1)) (w64 (0-x15)) (w64 (0-x14)) x12 x13) (ih (w64 (x11+1)) (w64 (0-x15)) (w64 (0-x14)) x12 x13 _ hm))
  ·refine q_ex 2 ?_;obtain rfl:=oi hm;exact q_l0
theorem qMb (E:Env 0) (a1:List qH) (a2:Int):∀(n:Nat) (l7:List qH) (l7n:Nat) (x8:Int) (res:(List qH)),l7.length=l7n->WI a1 a2 n l7 x8=some res->HL (kx E 53 0) (nd f39 500) (zN 0 qE5 res) n (OT a1 a2 l7 l7n x8):=by
 intro n
 induction n with
 |zero=>
  intro l7 l7n x8 res hl0 hm;cases hm
 |succ n ih=>
  intro l7 l7n x8 res hl0 hm;subst hl0;refine qU (s_va 1 [(21,vb (decide (x8<(a1.length:Int))))] ?_);refine q_sq (q_cq hm (λhm=>?_) (λhm=>?_))
  ·refine q_sk (q_sq ?_);refine q_bk 1 ?_;obtain⟨g10,hm⟩:=qJ hm;refine s_vu [qi 1 g10] 1 [21] [(6,vi x8),(7,vp 1 0)] [] [(1,bx 87 (qN (a1.getD x8.toNat du)))] (q_sq ?_);refine s_va 2 [(25,vi (Int.tmod (w64 ((Int.tmod a2 4)+4)) 4)),(26,vi 0)] ?_;obtain⟨o18,h19,hm⟩:=qC hm
   refine zI (nd f39 256404) 2 (by kernel_rfl) FUEL (λo=>qEP a1 a2 l7 x8 o) o18 (q_hl (CB a1 a2 l7 x8 0 ((((a1.getD x8.toNat du).Box).X).A) ((((a1.getD x8.toNat du).Box).X).B) ((((a1.getD x8.toNat du).Box).Y).A) ((((a1.getD x8.toNat du).Box).Y).B)) (qLY E a1 a2 l7 x8 FUEL 0 ((((a1.getD x8.toNat du).Box).X).A) ((((a1.getD x8.toNat du).Box).X).B) ((((a1.getD x8.toNat du).Box).Y).A) ((((a1.getD x8.toNat du).Box).Y).B) o18 h19)) ?_;obtain⟨g20,hm⟩:=qJ hm
   refine q_vu [qi 3 g20,qd 4 (drw 0 0 (rf qN (l7.set x8.toNat o18))) (stP qN du o18 l7 l7.length x8.toNat 0 (qN o18) rfl (qT (zB g20)) rfl)] 2 [6,7] [] [0,1] [(0,ro 0 87 7 l7.length (rf qN (l7.set x8.toNat o18)))] (q_vv [] 2 [20] [(20,vi (w64 (x8+1)))] ?_);exact q_hl (OT a1 a2 (l7.set x8.toNat o18) l7.length (w64 (x8+1))) (ih (l7.set x8.toNat o18) l7.length (w64 (x8+1)) _ (QE rfl) hm)
  ·refine q_ex 0 ?_;obtain rfl:=oi hm;exact q_l0
theorem qRk (a1:List qH) (a2:Int) (r:(List qH)) (hm:IJ a1 a2=some r):CtX Tryz.prog globs 39 0 0 [.one (tl qN du a1),.one (ci a2)] [] (qTq r) (qTy r):=by
 unfold IJ at hm;refine q_E f39 53 λE=>?_;refine s_vn [] 0 ⟨[(0,vc (tl qN du a1)),(1,vi a2)],[]⟩ (q_sq ?_);obtain⟨v3,h4,hm⟩:=qC hm;refine s_vv [qc 1 [8] 0 (JF a1 v3 h4)] 0 [] [(10,vb (v3 !=0))] (q_cq hm (λhm=>?_) (λhm=>?_))
 ·refine s_vn [] 0 ⟨[(4,vc (.emp))],[]⟩ (q_fn [.own 4 0 87 7 (rf qN [])] ⟨[(4,vo 0 0 7 0)],[(0,ro 0 87 7 0 (rf qN []))]⟩ o0 ?_);refine q_fn [.len 0 (([]:List qH).length)] ⟨[(4,vo 0 0 7 (([]:List qH).length))],[(0,ro 0 87 7 (([]:List qH).length) (rf qN []))]⟩ (o1 (And.intro (show 0=([]:List qH).length from rfl) (show 0=([]:List qH).length from rfl))) ?_;obtain rfl:=oi hm;exact q_rt q_rm
 ·refine q_sk (s_vv [qd 1 dN (show(4:Int)≠0 by decide),qd 3 dN (show(4:Int)≠0 by decide)] 0 [1,10] [(1,vi (Int.tmod (w64 ((Int.tmod a2 4)+4)) 4))] ?_);obtain⟨g6,hm⟩:=qJ hm
  refine s_vu [qd 2 (drw 0 0 (rf qN (List.replicate ((a1.length:Int).toNat) (qH.mk 0 (Box.mk (Span.mk 0 0) (Span.mk 0 0) (Span.mk 0 0)))))) (mkP qN du (qH.mk 0 (Box.mk (Span.mk 0 0) (Span.mk 0 0) (Span.mk 0 0))) (a1.length:Int) 56 [ci 0,ci 0,ci 0,ci 0,ci 0,ci 0,ci 0] (GH g6) rfl)] 0 [] [(5,vo 0 0 7 ((a1.length:Int).toNat))] [] [(0,ro 0 87 7 ((a1.length:Int).toNat) (rf qN (List.replicate ((a1.length:Int).toNat) (qH.mk 0 (Box.mk (Span.mk 0 0) (Span.mk 0 0) (Span.mk 0 0))))))] (q_sq ?_);refine s_vv [] 1 [0] [(18,vc (tl qN du a1)),(19,vi (a1.length:Int)),(20,vi 0)] ?_;obtain⟨o22,h23,hm⟩:=qC hm
  refine zI (nd f39 500) 0 (by kernel_rfl) FUEL qE5 o22 (q_hl (OT a1 a2 (List.replicate ((a1.length:Int).toNat) (qH.mk 0 (Box.mk (Span.mk 0 0) (Span.mk 0 0) (Span.mk 0 0)))) ((a1.length:Int).toNat) 0) (qMb E a1 a2 FUEL (List.replicate ((a1.length:Int).toNat) (qH.mk 0 (Box.mk (Span.mk 0 0) (Span.mk 0 0) (Span.mk 0 0)))) ((a1.length:Int).toNat) 0 o22 DS h23)) (s_vv [] 1 [5] [(4,vo 0 0 7 o22.length)] ?_);obtain rfl:=oi hm;exact q_rt q_rm
def qWq (r:Scan):V:=va [.own 0 0 2 r.Rings.length,.own 1 0 7 r.Defects.length]
def qWw (r:Scan):List (Nat×(Nat×O)):=[(0,ro 0 71 2 r.Rings.length (rf zC r.Rings)),(1,ro 0 87 7 r.Defects.length (rf qN r.Defects))]
def qB1 (a1:Scan) (a2:Int) (v9:(List qH)) (x11:Int) (l12:List Ring) (l12n:Nat):St:=
 ⟨[(1,vi a2),(2,vp 0 0),(4,vp 1 0),(5,vp 4 0),(23,vi (a1.Rings.length:Int)),(24,vi x11)],[(0,bx 25 (jG a1)),(1,bx 25 [.emp,.emp]),(2,ro 0 71 2 l12n (rf zC l12)),(3,ro 0 87 7 v9.length (rf qN v9)),(4,bx 25 [.own 2 0 2 l12n,.own 3 0 7 v9.length])]⟩
def qHY (v9:(List qH)) (l22:List Ring):St:=
 ⟨[(4,vp 1 0),(5,vp 4 0)],[(1,bx 25 [.emp,.emp]),(2,ro 0 71 2 l22.length (rf zC l22)),(3,ro 0 87 7 v9.length (rf qN v9)),(4,bx 25 [.own 2 0 2 l22.length,.own 3 0 7 v9.length])]⟩
theorem qQq (E:Env 0) (a1:Scan) (a2:Int) (v9:(List qH)):∀(n:Nat) (x11:Int) (l12:List Ring) (l12n:Nat) (res:(List Ring)),l12.length=l12n->XH a1 a2 n x11 l12=some res->HL (kx E 40 0) (nd f19 244) (zN 0 (λo=>qHY v9 o) res) n (qB1 a1 a2 v9 x11 l12 l12n):=by
 intro n
 induction n with
 |zero=>
  intro x11 l12 l12n res hl0 hm;cases hm
 |succ n ih=>
  intro x11 l12 l12n res hl0 hm;subst hl0;refine qU (s_va 5 [(25,vb (decide (x11<(a1.Rings.length:Int))))] ?_);refine q_sq (q_cq hm (λhm=>?_) (λhm=>?_))
  ·refine q_sk (q_sq ?_);refine q_bk 1 (s_vv [] 5 [25] [(6,vi x11)] ?_);obtain⟨g18,hm⟩:=qJ hm;obtain⟨v19,h20,hm⟩:=qC hm;obtain⟨g21,hm⟩:=qJ hm;refine q_du [qi 6 g18,qc 9 [34,35] 5 (CtX.frz (x':=va (zC v19)) (ob':=[]) (qVV (a1.Rings.getD x11.toNat du) a2 v19 h20) 0 (o1 (ke v19.Read.length)) (by kernel_rfl)),qi 10 g21,qd 11 (drw 0 0 (rf zC (l12.set x11.toNat v19))) (stP zC du v19 l12 l12.length x11.toNat 0 (zC v19) rfl (qT (zB g21)) rfl)] [0,1,0,0,8,0,56,120,0,504,1023,2047] 5 [6] [] [2] [(2,ro 0 71 2 l12.length (rf zC (l12.set x11.toNat v19)))] (q_vv [] 5 [24] [(24,vi (w64 (x11+1)))] ?_)
   exact q_hl (qB1 a1 a2 v9 (w64 (x11+1)) (l12.set x11.toNat v19) l12.length) (ih (w64 (x11+1)) (l12.set x11.toNat v19) l12.length _ (QE rfl) hm)
  ·refine q_ex 0 ?_;obtain rfl:=oi hm;exact q_l0
theorem qVh (a1:Scan) (a2:Int) (r:Scan) (hm:MV a1 a2=some r):CtX Tryz.prog globs 19 0 0 [.agg (jG a1),.one (ci a2)] [] (qWq r) (qWw r):=by
 unfold MV at hm;refine q_E f19 40 λE=>?_;refine s_vn [] 0 ⟨[(1,vi a2),(2,vp 0 0),(4,vp 1 0)],[(0,bx 25 (jG a1)),(1,bx 25 [.emp,.emp])]⟩ (q_sq ?_);obtain⟨v3,h4,hm⟩:=qC hm;refine s_vv [qc 1 [7] 2 (qJH a1 v3 h4)] 2 [] [(9,vb (v3 !=0))] (q_cq hm (λhm=>?_) (λhm=>?_))
 ·obtain⟨v6,h7,hm⟩:=qC hm;refine s_vn [qc 1 [10] 2 (qSW a1 v6 h7)] 2 ⟨[(4,vp 1 0)],[(1,bx 25 [.own 2 0 2 v6.Rings.length,.own 3 0 7 v6.Defects.length]),(2,ro 0 71 2 v6.Rings.length (rf zC v6.Rings)),(3,ro 0 87 7 v6.Defects.length (rf qN v6.Defects))]⟩ ?_;obtain rfl:=oi hm;refine q_sw 2 0 (q_sw 3 1 ?_);exact q_rt q_rm
 ·refine q_sk ?_;obtain⟨g8,hm⟩:=qJ hm;obtain⟨v9,h10,hm⟩:=qC hm
  refine s_du [qd 3 (drw 2 0 (rf zC (List.replicate ((a1.Rings.length:Int).toNat) (Ring.mk 0 ([]:List qP))))) (mkPe zC du (Ring.mk 0 ([]:List qP)) (a1.Rings.length:Int) 32 [ci 0,.emp] (GH g8) (.same _ (.emp _ .nil))),qc 7 [17,18] 3 (qRk a1.Defects a2 v9 h10)] [0,1,3,7,0,16,0,112,255,0,1023] 2 [9] [(5,vp 4 0)] [] [(2,ro 0 71 2 ((a1.Rings.length:Int).toNat) (rf zC (List.replicate ((a1.Rings.length:Int).toNat) (Ring.mk 0 ([]:List qP))))),(3,ro 0 87 7 v9.length (rf qN v9)),(4,bx 25 [.own 2 0 2 ((a1.Rings.length:Int).toNat),.own 3 0 7 v9.length])] (q_sq ?_)
  refine s_va 5 [(23,vi (a1.Rings.length:Int)),(24,vi 0)] ?_;obtain⟨o23,h24,hm⟩:=qC hm;refine zI (nd f19 244) 0 (by kernel_rfl) FUEL (λo=>qHY v9 o) o23 (q_hl (qB1 a1 a2 v9 0 (List.replicate ((a1.Rings.length:Int).toNat) (Ring.mk 0 ([]:List qP))) ((a1.Rings.length:Int).toNat)) (qQq E a1 a2 v9 FUEL 0 (List.replicate ((a1.Rings.length:Int).toNat) (Ring.mk 0 ([]:List qP))) ((a1.Rings.length:Int).toNat) o23 DS h24)) (s_vu [] 5 [5] [] [1,4] [(1,bx 25 [.own 2 0 2 o23.length,.own 3 0 7 v9.length])] ?_);obtain rfl:=oi hm;refine q_sw 2 0 (q_sw 3 1 ?_);exact q_rt q_rm
def qX9 (r:Bool):V:=vb r
def qXW (r:Bool):List (Nat×(Nat×O)):=[]
def qTn (x5:Bool):St:=
 ⟨[(6,vb x5)],[]⟩
theorem qWF (a1:qA) (a2:qA) (a3:Int) (r:Bool) (hm:qE3 a1 a2 a3=some r):CtX Tryz.prog globs 150 0 0 [.agg (qF a1),.agg (qF a2),.one (ci a3)] [] (qX9 r) (qXW r):=by
 unfold qE3 at hm;refine q_E f150 35 λE=>?_;refine s_vn [] 0 ⟨[(2,vi a3),(3,vp 0 0),(4,vp 1 0)],[(0,bx 93 (qF a1)),(1,bx 93 (qF a2))]⟩ (q_jn (qTn) (λp=>qCG p=some r) ?_ ?_)
 ·rintro x5 hm;obtain rfl:=oi hm;exact q_rt q_rm
 ·rcases bif_c hm with⟨b4,hm⟩|⟨b4,hm⟩
  ·exact q_vn [qf 13 b4] 2 ⟨[(6,vb true)],[]⟩ (q_J (true) hm)
  ·exact q_vn [qf 13 b4] 2 ⟨[(6,vb (decide ((imax (w64 (a1.Y-a2.Y)) (w64 (a2.Y-a1.Y)))>a3)))],[]⟩ (q_J (decide ((imax (w64 (a1.Y-a2.Y)) (w64 (a2.Y-a1.Y)))>a3)) hm)
def qQU (r:(List Int)):V:=vo 0 0 1 r.length
def qOI (r:(List Int)):List (Nat×(Nat×O)):=[(0,ro 0 3 1 r.length (rf qE r))]
def qDr (a1:Ring) (x3:Int) (l8:List Int) (l8n:Nat):St:=
 ⟨[(3,vo 1 0 1 l8n),(7,vc (tl qX du a1.Read)),(8,vi (a1.Read.length:Int)),(9,vi x3)],[(1,ro 0 3 1 l8n (rf qE l8))]⟩
def MP (a1:Ring) (l2:List Int) (l2n:Nat) (x3:Int):St:=
 ⟨[(3,vo 1 0 1 l2n),(7,vc (tl qX du a1.Read)),(8,vi (a1.Read.length:Int)),(9,vi x3)],[(1,ro 0 3 1 l2n (rf qE l2))]⟩
def qC6 (l9:List Int):St:=
 ⟨[(3,vo 1 0 1 l9.length)],[(1,ro 0 3 1 l9.length (rf qE l9))]⟩
theorem qJ2 (E:Env 0) (a1:Ring):∀(n:Nat) (l2:List Int) (l2n:Nat) (x3:Int) (res:(List Int)),l2.length=l2n->QM a1 n l2 x3=some res->HL (kx E 22 0) (nd f146 116) (zN 0 qC6 res) n (MP a1 l2 l2n x3):=by
 intro n
 induction n with
 |zero=>
  intro l2 l2n x3 res hl0 hm;cases hm
 |succ n ih=>
  intro l2 l2n x3 res hl0 hm;subst hl0;refine qU (s_va 2 [(10,vb (decide (x3<(a1.Read.length:Int))))] ?_);refine q_sq (q_cq hm (λhm=>?_) (λhm=>?_))
  ·refine q_sk (q_jn (ι:=(List Int)×Nat) (λp=>qDr a1 x3 p.1 p.2) (λp=>p.1.length=p.2/\NC x3 (QM a1 n) p.1=some res) ?_ ?_)
   ·rintro⟨l8,l8n⟩ ⟨el8,hm⟩;replace el8:l8.length=l8n:=el8;subst el8;show H _ (qDr a1 x3 l8 l8.length) _ _;exact q_vv [] 4 [9] [(9,vi (w64 (x3+1)))] (q_hl (MP a1 l8 l8.length (w64 (x3+1))) (ih l8 l8.length (w64 (x3+1)) _ rfl hm))
   ·refine q_bk 1 ?_;obtain⟨g5,hm⟩:=qJ hm;refine s_vu [qi 1 g5] 2 [10] [(4,vi x3),(5,vp 2 0)] [] [(2,bx 95 (qX (a1.Read.getD x3.toNat du)))] (s_vu [] 3 [5] [(15,vb ((a1.Read.getD x3.toNat du).Ok))] [2] [] ?_);refine q_cq hm (λhm=>?_) (λhm=>?_)
    ·obtain⟨g7,hm⟩:=qJ hm;exact q_vu [qd 2 (drw 3 0 (rf qE [x3])) (litP qE du 1 (λ_=>rfl) ([x3]:List Int) 1 rfl),qd 3 (drw 1 1 (rf qE (l2++[x3]))) (apP qE du l2 ([x3]:List Int) l2.length 1 1 8 (1<=1) (ke _) rfl rfl (λ_=>rfl) (wB g7))] 3 [3,4,15] [(3,vo 1 1 1 (l2.length+1))] [1] [(1,ro 1 3 1 (l2.length+1) (rf qE (l2++[x3])))] (q_J ((l2++[x3]),(l2.length+1)) ⟨(wC rfl rfl),hm⟩)
    ·exact q_sk (q_J (l2,l2.length) ⟨rfl,hm⟩)
  ·refine q_ex 0 ?_;obtain rfl:=oi hm;exact q_l0
theorem CL (a1:Ring) (r:(List Int)) (hm:KQ a1=some r):CtX Tryz.prog globs 146 0 0 [.agg (zC a1)] [] (qQU r) (qOI r):=by
 unfold KQ at hm;refine q_E f146 22 λE=>?_;refine s_vn [] 0 ⟨[(1,vp 0 0)],[(0,bx 71 (zC a1))]⟩ (s_va 1 [(3,vc (.emp))] ?_);refine q_sq (s_vu [] 1 [1] [(7,vc (tl qX du a1.Read)),(8,vi (a1.Read.length:Int)),(9,vi 0)] [0] [] ?_);refine q_fo 3 1 3 1 qE ?_;obtain⟨o10,h11,hm⟩:=qC hm;refine zI (nd f146 116) 0 (by kernel_rfl) FUEL qC6 o10 (q_hl (MP a1 ([]:List Int) 0 0) (qJ2 E a1 FUEL ([]:List Int) 0 0 o10 rfl h11)) (s_vv [] 2 [3] [(2,vo 1 0 1 o10.length)] ?_);obtain rfl:=oi hm;exact q_sw 1 0 (q_rt q_rm)
def qU4 (r:Ring):V:=va [ci r.Z,.own 0 0 3 r.Read.length]
def qVf (r:Ring):List (Nat×(Nat×O)):=[(0,ro 0 95 3 r.Read.length (rf qX r.Read))]
def PF (a1:Ring) (a2:Int) (v5:(List Int)) (x13:Int):St:=
 ⟨[(1,vi a2),(2,vp 0 0),(4,vp 1 0),(5,vp 3 0),(6,vo 4 0 1 v5.length),(30,vo 4 0 1 v5.length),(31,vi (v5.length:Int)),(32,vi x13)],[(0,bx 71 (zC a1)),(1,bx 71 [ci 0,.emp]),(4,ro 0 3 1 v5.length (rf qE v5))]⟩
def qQW (a1:Ring) (a2:Int) (v3:Ring) (v5:(List Int)) (x13:Int) (l14:List qP) (x18:Int) (x28:Bool):St:=
 (PF a1 a2 v5 x13).up [] [(7,vi x13),(8,vi (v5.getD x13.toNat du)),(9,vb x28),(37,va [ci (-1),ci 1]),(38,vi x18)] [] [(2,ro 0 95 3 l14.length (rf qX l14)),(3,bx 71 [ci v3.Z,.own 2 0 3 l14.length])]
def qAP (a1:Ring) (a2:Int) (v3:Ring) (v5:(List Int)) (x13:Int) (l14:List qP) (x17:Bool) (x18:Int):St:=
 (PF a1 a2 v5 x13).up [] [(7,vi x13),(8,vi (v5.getD x13.toNat du)),(9,vb x17),(37,va [ci (-1),ci 1]),(38,vi x18)] [] [(2,ro 0 95 3 l14.length (rf qX l14)),(3,bx 71 [ci v3.Z,.own 2 0 3 l14.length])]
def qF0 (a1:Ring) (a2:Int) (v3:Ring) (v5:(List Int)) (x13:Int) (l14:List qP) (x29:Bool):St:=
 (PF a1 a2 v5 x13).up [] [(8,vi (v5.getD x13.toNat du)),(9,vb x29)] [] [(2,ro 0 95 3 l14.length (rf qX l14)),(3,bx 71 [ci v3.Z,.own 2 0 3 l14.length])]
def qF6 (a1:Ring) (a2:Int) (v3:Ring) (v5:(List Int)) (x13:Int) (l34:List qP) (l34n:Nat):St:=
 (PF a1 a2 v5 x13).up [] [] [] [(2,ro 0 95 3 l34n (rf qX l34)),(3,bx 71 [ci v3.Z,.own 2 0 3 l34n])]
def qAt (a1:Ring) (a2:Int) (v3:Ring) (v5:(List Int)) (x13:Int) (l14:List qP) (l14n:Nat):St:=
 (PF a1 a2 v5 x13).up [] [] [] [(2,ro 0 95 3 l14n (rf qX l14)),(3,bx 71 [ci v3.Z,.own 2 0 3 l14n])]
def qGD (v3:Ring) (l35:List qP):St:=
 ⟨[(4,vp 1 0),(5,vp 3 0)],[(1,bx 71 [ci 0,.emp]),(2,ro 0 95 3 l35.length (rf qX l35)),(3,bx 71 [ci v3.Z,.own 2 0 3 l35.length])]⟩
def qO4 (a1:Ring) (a2:Int) (v3:Ring) (v5:(List Int)) (x11:Bool):St:=
 ⟨[(1,vi a2),(2,vp 0 0),(4,vp 1 0),(5,vp 3 0),(6,vo 4 0 1 v5.length),(28,vb x11)],[(0,bx 71 (zC a1)),(1,bx 71 [ci 0,.emp]),(2,ro 0 95 3 v3.Read.length (rf qX v3.Read)),(3,bx 71 [ci v3.Z,.own 2 0 3 v3.Read.length]),(4,ro 0 3 1 v5.length (rf qE v5))]⟩
theorem qNo (E:Env 0) (a1:Ring) (a2:Int) (v3:Ring) (v5:(List Int)) (x13:Int) (l14:List qP):∀(n:Nat) (x17:Bool) (x18:Int) (res:Bool),yP a1 a2 v5 x13 n x17 x18=some res->HL (kx E 79 0) (nd f89 512820) (zN 2 (λo=>qF0 a1 a2 v3 v5 x13 l14 o) res) n (qAP a1 a2 v3 v5 x13 l14 x17 x18):=by
 intro n
 induction n with
 |zero=>
  intro x17 x18 res hm;cases hm
 |succ n ih=>
  intro x17 x18 res hm;refine qU (s_va 5 [(39,vb (decide (x18<2)))] ?_);refine q_sq (q_cq hm (λhm=>?_) (λhm=>?_))
  ·refine q_sk (q_jn (qQW a1 a2 v3 v5 x13 l14 x18) (λp=>OI x18 (yP a1 a2 v5 x13 n) p=some res) ?_ ?_)
   ·rintro x28 hm;exact q_vv [] 6 [38] [(38,vi (w64 (x18+1)))] (q_hl (qAP a1 a2 v3 v5 x13 l14 x28 (w64 (x18+1))) (ih x28 (w64 (x18+1)) _ hm))
   ·refine q_bk 3 ?_;obtain⟨g20,hm⟩:=qJ hm;refine s_vv [qi 0 g20] 5 [39] [(11,vi (([(-1),1]:List Int).getD x18.toNat 0))] ?_;obtain⟨g21,hm⟩:=qJ hm;obtain⟨g22,hm⟩:=qJ hm;obtain⟨g23,hm⟩:=qJ hm;refine s_du [qd 11 dN (OA g21),qi 12 g22,qd 13 dN (qT (zB g22)),qi 14 g23] [0,1,0,0,0,16,56,0,248,0,512,2040,4092,8188,16383,32767,65535,0,262143] 5 [11] [(12,vp 5 0)] [] [(5,bx 93 (qF ((a1.Read.getD (v5.getD ((Int.tmod (w64 ((w64 (x13+(v5.length:Int)))+(([(-1),1]:List Int).getD x18.toNat 0))) (v5.length:Int)).toNat) du).toNat du).P)))] ?_;rcases bif_c hm with⟨b24,hm⟩|⟨b24,hm⟩
    ·obtain⟨g25,hm⟩:=qJ hm;obtain⟨v26,h27,hm⟩:=qC hm
     refine q_du [qf 1 b24,qi 5 g25,qk 10 [59,65,66,67] 6 ⟨[(59,vb true),(65,va [ci (((a1.Read.getD (v5.getD x13.toNat du).toNat du).P).X),ci (((a1.Read.getD (v5.getD x13.toNat du).toNat du).P).Y)]),(66,va [ci (((a1.Read.getD (v5.getD ((Int.tmod (w64 ((w64 (x13+(v5.length:Int)))+(([(-1),1]:List Int).getD x18.toNat 0))) (v5.length:Int)).toNat) du).toNat du).P).X),ci (((a1.Read.getD (v5.getD ((Int.tmod (w64 ((w64 (x13+(v5.length:Int)))+(([(-1),1]:List Int).getD x18.toNat 0))) (v5.length:Int)).toNat) du).toNat du).P).Y)]),(67,vi a2)],[]⟩ (qWF ((a1.Read.getD (v5.getD x13.toNat du).toNat du).P) ((a1.Read.getD (v5.getD ((Int.tmod (w64 ((w64 (x13+(v5.length:Int)))+(([(-1),1]:List Int).getD x18.toNat 0))) (v5.length:Int)).toNat) du).toNat du).P) a2 v26 h27)] [0,1,3,7,3,31,63,127,3,3,1023,2047,4095] 6 [9,12] [(9,vb v26)] [5] [] ?_
     exact q_J (v26) hm
    ·exact q_du [qf 1 b24] [0,1,3,7,3,31,63,127,3,3,1023,2047,4095] 6 [9,12] [(9,vb false)] [5] [] (q_J (false) hm)
  ·refine q_ex 2 ?_;obtain rfl:=oi hm;exact q_l0
theorem qOm (E:Env 0) (a1:Ring) (a2:Int) (v3:Ring) (v5:(List Int)):∀(n:Nat) (x13:Int) (l14:List qP) (l14n:Nat) (res:(List qP)),l14.length=l14n->JK a1 a2 v5 n x13 l14=some res->HL (kx E 79 0) (nd f89 500) (zN 0 (λo=>qGD v3 o) res) n (qAt a1 a2 v3 v5 x13 l14 l14n):=by
 intro n
 induction n with
 |zero=>
  intro x13 l14 l14n res hl0 hm;cases hm
 |succ n ih=>
  intro x13 l14 l14n res hl0 hm;subst hl0;refine qU (s_va 5 [(33,vb (decide (x13<(v5.length:Int))))] ?_);refine q_sq (q_cq hm (λhm=>?_) (λhm=>?_))
  ·refine q_sk (q_jn (ι:=(List qP)×Nat) (λp=>qF6 a1 a2 v3 v5 x13 p.1 p.2) (λp=>p.1.length=p.2/\OE x13 (JK a1 a2 v5 n) p.1=some res) ?_ ?_)
   ·rintro⟨l34,l34n⟩ ⟨el34,hm⟩;replace el34:l34.length=l34n:=el34;subst el34;show H _ (qF6 a1 a2 v3 v5 x13 l34 l34.length) _ _;exact q_vv [] 5 [32] [(32,vi (w64 (x13+1)))] (q_hl (qAt a1 a2 v3 v5 (w64 (x13+1)) l34 l34.length) (ih (w64 (x13+1)) l34 l34.length _ rfl hm))
   ·refine q_bk 1 ?_;obtain⟨g16,hm⟩:=qJ hm;refine s_vv [qi 1 g16,qd 2 dN (qT (zB g16))] 5 [33] [(7,vi x13),(8,vi (v5.getD x13.toNat du))] (s_va 5 [(9,vb true)] ?_);refine q_sq (s_va 5 [(37,va [ci (-1),ci 1]),(38,vi 0)] ?_);obtain⟨o30,h31,hm⟩:=qC hm;refine zI (nd f89 512820) 2 (by kernel_rfl) FUEL (λo=>qF0 a1 a2 v3 v5 x13 l14 o) o30 (q_hl (qAP a1 a2 v3 v5 x13 l14 true 0) (qNo E a1 a2 v3 v5 x13 l14 FUEL true 0 o30 h31)) (s_vv [] 5 [9] [(71,vb o30)] ?_);refine q_cq hm (λhm=>?_) (λhm=>?_)
    ·obtain⟨g33,hm⟩:=qJ hm;exact q_vu [qi 4 g33,qd 5 (drw 0 0 (rf qX (l14.set ((v5.getD x13.toNat du).toNat) (qP.mk (qA.mk 0 0) false)))) (stP qX du (qP.mk (qA.mk 0 0) false) l14 l14.length ((v5.getD x13.toNat du).toNat) 0 [ci 0,ci 0,cb false] rfl (qT (zB g33)) rfl)] 5 [8,71] [] [2] [(2,ro 0 95 3 l14.length (rf qX (l14.set ((v5.getD x13.toNat du).toNat) (qP.mk (qA.mk 0 0) false))))] (q_J ((l14.set ((v5.getD x13.toNat du).toNat) (qP.mk (qA.mk 0 0) false)),l14.length) ⟨(QE rfl),hm⟩)
    ·exact q_sk (q_J (l14,l14.length) ⟨rfl,hm⟩)
  ·refine q_ex 0 ?_;obtain rfl:=oi hm;exact q_l0
theorem qTb (a1:Ring) (a2:Int) (r:Ring) (hm:qAq a1 a2=some r):CtX Tryz.prog globs 89 0 0 [.agg (zC a1),.one (ci a2)] [] (qU4 r) (qVf r):=by
 unfold qAq at hm;refine q_E f89 79 λE=>?_;refine s_vn [] 0 ⟨[(1,vi a2),(2,vp 0 0),(4,vp 1 0)],[(0,bx 71 (zC a1)),(1,bx 71 [ci 0,.emp])]⟩ ?_;obtain⟨v3,h4,hm⟩:=qC hm;refine s_vu [qc 1 [13] 2 (qJK a1 v3 h4)] 2 [] [(5,vp 3 0)] [] [(2,ro 0 95 3 v3.Read.length (rf qX v3.Read)),(3,bx 71 [ci v3.Z,.own 2 0 3 v3.Read.length])] ?_;obtain⟨v5,h6,hm⟩:=qC hm;refine s_vu [qc 1 [15] 4 (CL a1 v5 h6)] 4 [] [(6,vo 4 0 1 v5.length)] [] [(4,ro 0 3 1 v5.length (rf qE v5))] (q_sq ?_);refine q_jn (qO4 a1 a2 v3 v5) (λp=>NX a1 a2 v3 v5 p=some r) ?_ ?_
 ·rintro x11 hm;refine q_cq hm (λhm=>?_) (λhm=>?_)
  ·refine s_vu [] 5 [1,2,5,6,28] [] [0,1,3,4] [(1,bx 71 [ci v3.Z,.own 2 0 3 v3.Read.length])] ?_;obtain rfl:=oi hm;exact q_sw 2 0 (q_rt q_rm)
  ·refine q_sk (q_sq ?_);refine s_vv [] 5 [28] [(30,vo 4 0 1 v5.length),(31,vi (v5.length:Int)),(32,vi 0)] ?_;obtain⟨o36,h37,hm⟩:=qC hm;refine zI (nd f89 500) 0 (by kernel_rfl) FUEL (λo=>qGD v3 o) o36 (q_hl (qAt a1 a2 v3 v5 0 v3.Read v3.Read.length) (qOm E a1 a2 v3 v5 FUEL 0 v3.Read v3.Read.length o36 rfl h37)) (s_vu [] 5 [5] [] [1,3] [(1,bx 71 [ci v3.Z,.own 2 0 3 o36.length])] ?_);obtain rfl:=oi hm;exact q_sw 2 0 (q_rt q_rm)
 ·rcases bif_c hm with⟨b7,hm⟩|⟨b7,hm⟩
  ·exact q_vv [qf 2 b7] 5 [] [(28,vb true)] (q_J (true) hm)
  ·rcases bif_c hm with⟨b8,hm⟩|⟨b8,hm⟩
   ·exact q_vv [qf 2 b7,qf 7 b8] 5 [] [(28,vb true)] (q_J (true) hm)
   ·obtain⟨v9,h10,hm⟩:=qC hm;exact q_vv [qf 2 b7,qf 7 b8,qk 9 [24,25] 5 ⟨[(24,vb false),(25,va (zC a1))],[]⟩ (OB a1 v9 h10)] 5 [] [(28,vb (v9 !=0))] (q_J (v9 !=0) hm)
def qVa (r:Int):V:=vi r
def qT4 (r:Int):List (Nat×(Nat×O)):=[]
def qQb (x5:Int):St:=
 ⟨[(5,vi x5)],[]⟩
theorem qJA (a1:Int) (a2:Int) (r:Int) (hm:EM a1 a2=some r):CtX Tryz.prog globs 149 0 0 [.one (ci a1),.one (ci a2)] [] (qVa r) (qT4 r):=by
 unfold EM at hm;refine q_E f149 16 λE=>?_;refine s_vn [] 0 ⟨[(0,vi a1),(1,vi a2)],[]⟩ ?_;obtain⟨g3,hm⟩:=qJ hm;refine s_vv [qd 2 dN (OA g3)] 0 [] [(5,vi (w64 (Int.tdiv a1 a2)))] (q_jn (qQb) (λp=>OD p=some r) ?_ ?_)
 ·rintro x5 hm;refine s_vn [] 0 ⟨[(4,vi x5)],[]⟩ ?_;obtain rfl:=oi hm;exact q_rt q_rm
 ·refine s_vv [qd 2 dN (OA g3)] 0 [0,1] [(12,vb (decide ((Int.tmod a1 a2)<0)))] (q_cq hm (λhm=>?_) (λhm=>?_))
  ·exact q_vn [] 0 ⟨[(5,vi (w64 ((w64 (Int.tdiv a1 a2))-1)))],[]⟩ (q_J (w64 ((w64 (Int.tdiv a1 a2))-1)) hm)
  ·exact q_sk (q_J (w64 (Int.tdiv a1 a2)) hm)
def qDH (r:Int):V:=vi r
def FH (r:Int):List (Nat×(Nat×O)):=[]
theorem qJG (r:Int):QQ (FH r):=by
 intro i k o h;unfold FH at h;cases h
theorem qHV (a1:Ring) (a2:List Int) (a3:Int) (r:Int) (hm:FT a1 a2 a3=some r):CtX Tryz.prog globs 148 0 0 [.agg (zC a1),.one (tl qE du a2),.one (ci a3)] [] (qDH r) (FH r):=by
 unfold FT at hm;refine q_E f148 36 λE=>?_;refine s_vn [] 0 ⟨[(1,vc (tl qE du a2)),(2,vi a3),(3,vp 0 0)],[(0,bx 71 (zC a1))]⟩ (q_sq ?_);refine s_va 1 [(11,vb (decide ((w64 (a3+1))<(a2.length:Int))))] (q_cq hm (λhm=>?_) (λhm=>?_))
 ·obtain⟨g5,hm⟩:=qJ hm;obtain⟨g6,hm⟩:=qJ hm;refine s_dn [qi 3 g5,qi 7 g6] [0,0,2,7,15,0,0,96,224,511,1023,2047] 1 ⟨[(6,vi (w64 ((w64 ((a2.getD (w64 (a3+1)).toNat du)-(a2.getD a3.toNat du)))-1)))],[]⟩ ?_;obtain rfl:=oi hm;exact q_rt q_rm
 ·refine q_sk ?_;obtain⟨g7,hm⟩:=qJ hm;obtain⟨g8,hm⟩:=qJ hm;refine s_dn [qi 1 g7,qi 9 g8] [0,1,3,0,8,24,63,0,0,384,896,2047,4095,8191] 1 ⟨[(6,vi (w64 ((w64 ((w64 ((a2.getD (0:Int).toNat du)+(a1.Read.length:Int)))-(a2.getD a3.toNat du)))-1)))],[]⟩ ?_;obtain rfl:=oi hm;exact q_rt q_rm
def qWM (r:Int×Int):V:= .tup [.one (ci r.1),.one (ci r.2)]
def qWo (r:Int×Int):List (Nat×(Nat×O)):=[]
def qCu (a1:Ring) (v2:(List Int)) (x5:Int) (x6:Int):St:=
 ⟨[(1,vp 0 0),(4,vo 1 0 1 v2.length),(5,vi (w64 ((a1.Read.length:Int)-(v2.length:Int)))),(6,vi x5),(22,vi (v2.length:Int)),(23,vi x6)],[(0,bx 71 (zC a1)),(1,ro 0 3 1 v2.length (rf qE v2))]⟩
def qHX (a1:Ring) (v2:(List Int)) (x10:Int):St:=
 ⟨[(5,vi (w64 ((a1.Read.length:Int)-(v2.length:Int)))),(6,vi x10)],[]⟩
theorem qO8 (E:Env 0) (a1:Ring) (v2:(List Int)):∀(n:Nat) (x5:Int) (x6:Int) (res:Int),GI a1 v2 n x5 x6=some res->HL (kx E 35 0) (nd f147 1012) (zN 0 (λo=>qHX a1 v2 o) res) n (qCu a1 v2 x5 x6):=by
 intro n
 induction n with
 |zero=>
  intro x5 x6 res hm;cases hm
 |succ n ih=>
  intro x5 x6 res hm;refine qU (s_va 2 [(24,vb (decide (x6<(v2.length:Int))))] ?_);refine q_sq (q_cq hm (λhm=>?_) (λhm=>?_))
  ·refine q_sk (q_sq ?_);refine q_bk 1 (s_vv [] 2 [24] [(7,vi x6)] ?_);obtain⟨v8,h9,hm⟩:=qC hm;refine q_vv [qd 4 (dex (cen [] [] 2 0 (qDH v8) (FH v8) [27,28,29] [1])) (wO (K:=(kx E 35 0)) (b:=false) ⟨[(27,va (zC a1)),(28,vo 1 0 1 v2.length),(29,vi x6)],[(1,ro 0 3 1 v2.length (rf qE v2))]⟩ (opAt (rg f147 32409) 4) [] [] 2 (o1 (ke v2.length)) rfl (qHV a1 v2 x6 v8 h9) (.inr ⟨(by kernel_rfl),qJG v8⟩) (by kernel_rfl))] 2 [6,7] [(6,vi (imax x5 v8))] (q_vv [] 2 [23] [(23,vi (w64 (x6+1)))] ?_);exact q_hl (qCu a1 v2 (imax x5 v8) (w64 (x6+1))) (ih (imax x5 v8) (w64 (x6+1)) _ hm)
  ·refine q_ex 0 ?_;obtain rfl:=oi hm;exact q_l0
theorem qUS (a1:Ring) (r:Int×Int) (hm:CR a1=some r):CtX Tryz.prog globs 147 0 0 [.agg (zC a1)] [] (qWM r) (qWo r):=by
 unfold CR at hm;refine q_E f147 35 λE=>?_;refine s_vn [] 0 ⟨[(1,vp 0 0)],[(0,bx 71 (zC a1))]⟩ ?_;obtain⟨v2,h3,hm⟩:=qC hm;refine s_vu [qc 1 [8] 1 (CL a1 v2 h3)] 1 [] [(4,vo 1 0 1 v2.length)] [] [(1,ro 0 3 1 v2.length (rf qE v2))] (s_va 2 [(5,vi (w64 ((a1.Read.length:Int)-(v2.length:Int))))] ?_);refine q_sq (s_va 2 [(18,vb ((v2.length:Int)==0))] ?_);refine q_cq hm (λhm=>?_) (λhm=>?_)
 ·refine s_vn [] 2 ⟨[(2,vi (w64 ((a1.Read.length:Int)-(v2.length:Int)))),(3,vi (w64 ((a1.Read.length:Int)-(v2.length:Int))))],[]⟩ ?_;obtain rfl:=oi hm;exact q_rt q_rm
 ·refine q_sk (s_vv [] 2 [18] [(6,vi 0)] ?_);refine q_sq (s_va 2 [(22,vi (v2.length:Int)),(23,vi 0)] ?_);obtain⟨o11,h12,hm⟩:=qC hm;refine zI (nd f147 1012) 0 (by kernel_rfl) FUEL (λo=>qHX a1 v2 o) o11 (q_hl (qCu a1 v2 0 0) (qO8 E a1 v2 FUEL 0 0 o11 h12)) (s_vn [] 2 ⟨[(2,vi (w64 ((a1.Read.length:Int)-(v2.length:Int)))),(3,vi o11)],[]⟩ ?_);obtain rfl:=oi hm;exact q_rt q_rm
def qJO (r:(List qA)×Int):V:= .tup [.one (.own 0 0 2 r.1.length),.one (ci r.2)]
def OH (r:(List qA)×Int):List (Nat×(Nat×O)):=[(0,ro 0 93 2 r.1.length (rf qF r.1))]
theorem qSL (r:(List qA)×Int):QQ (OH r):=by
 intro i k o h;unfold OH at h;rw[look_cons] at h;split at h
 ·cases h;exact λ_ _=>rfl
 ·cases h
def MS (a1:Ring) (v6:(List Int)) (x16:Int):St:=
 ⟨[(2,vp 0 0),(7,vo 1 0 1 v6.length),(45,vo 1 0 1 v6.length),(46,vi (v6.length:Int)),(47,vi x16)],[(0,bx 71 (zC a1)),(1,ro 0 3 1 v6.length (rf qE v6))]⟩
def ON (a1:Ring) (v6:(List Int)) (x16:Int) (v24:Int) (l26:List qA) (l26n:Nat) (x27:Int):St:=
 (MS a1 v6 x16).up [] [(10,vo 2 0 2 l26n),(12,vi (v6.getD x16.toNat du)),(13,vp 3 0),(14,vp 4 0),(15,vi v24),(16,vi x27)] [] [(2,ro 0 93 2 l26n (rf qF l26)),(3,bx 93 (qF ((a1.Read.getD (v6.getD x16.toNat du).toNat du).P))),(4,bx 93 (qF ((a1.Read.getD (v6.getD ((Int.tmod (w64 (x16+1)) (v6.length:Int)).toNat) du).toNat du).P)))]
def qFD (a1:Ring) (v6:(List Int)) (x16:Int) (l35:List qA):St:=
 (MS a1 v6 x16).up [] [(10,vo 2 0 2 l35.length)] [] [(2,ro 0 93 2 l35.length (rf qF l35))]
def OW (a1:Ring) (v6:(List Int)) (l15:List qA) (l15n:Nat) (x16:Int):St:=
 (MS a1 v6 x16).up [] [(10,vo 2 0 2 l15n)] [] [(2,ro 0 93 2 l15n (rf qF l15))]
def qET (l38:List qA):St:=
 ⟨[(10,vo 2 0 2 l38.length)],[(2,ro 0 93 2 l38.length (rf qF l38))]⟩
def qNq (a1:Ring) (v6:(List Int)) (x12:Bool):St:=
 ⟨[(2,vp 0 0),(7,vo 1 0 1 v6.length),(40,vb x12)],[(0,bx 71 (zC a1)),(1,ro 0 3 1 v6.length (rf qE v6))]⟩
theorem qMB (E:Env 0) (a1:Ring) (v6:(List Int)) (x16:Int) (v24:Int):∀(n:Nat) (l26:List qA) (l26n:Nat) (x27:Int) (res:(List qA)),l26.length=l26n->RF a1 v6 x16 v24 n l26 x27=some res->HL (kx E 121 0) (nd f88 4171388) (zN 2 (λo=>qFD a1 v6 x16 o) res) n (ON a1 v6 x16 v24 l26 l26n x27):=by
 intro n
 induction n with
 |zero=>
  intro l26 l26n x27 res hl0 hm;cases hm
 |succ n ih=>
  intro l26 l26n x27 res hl0 hm;subst hl0;refine qU (q_sq ?_);refine s_va 5 [(81,vb (decide (x27<=v24)))] (q_cq hm (λhm=>?_) (λhm=>?_))
  ·refine q_sk (q_sq ?_);refine q_bk 3 ?_;obtain⟨g29,hm⟩:=qJ hm;obtain⟨v30,h31,hm⟩:=qC hm;obtain⟨v32,h33,hm⟩:=qC hm;obtain⟨g34,hm⟩:=qJ hm
   refine q_du [qd 6 dN (OA g29),qc 18 [99,101] 5 (qJA (w64 ((w64 ((((a1.Read.getD (v6.getD ((Int.tmod (w64 (x16+1)) (v6.length:Int)).toNat) du).toNat du).P).X)-(((a1.Read.getD (v6.getD x16.toNat du).toNat du).P).X)))*x27)) (w64 (v24+1)) v30 h31),qc 31 [112,114] 5 (qJA (w64 ((w64 ((((a1.Read.getD (v6.getD ((Int.tmod (w64 (x16+1)) (v6.length:Int)).toNat) du).toNat du).P).Y)-(((a1.Read.getD (v6.getD x16.toNat du).toNat du).P).Y)))*x27)) (w64 (v24+1)) v32 h33),qi 34 g34,qd 35 (drw 0 0 (rf qF (l26.set ((Int.tmod (w64 ((v6.getD x16.toNat du)+x27)) (l26.length:Int)).toNat) (qA.mk (w64 ((((a1.Read.getD (v6.getD x16.toNat du).toNat du).P).X)+v30)) (w64 ((((a1.Read.getD (v6.getD x16.toNat du).toNat du).P).Y)+v32)))))) (stP qF du (qA.mk (w64 ((((a1.Read.getD (v6.getD x16.toNat du).toNat du).P).X)+v30)) (w64 ((((a1.Read.getD (v6.getD x16.toNat du).toNat du).P).Y)+v32))) l26 l26.length ((Int.tmod (w64 ((v6.getD x16.toNat du)+x27)) (l26.length:Int)).toNat) 0 [ci (w64 ((((a1.Read.getD (v6.getD x16.toNat du).toNat du).P).X)+v30)),ci (w64 ((((a1.Read.getD (v6.getD x16.toNat du).toNat du).P).Y)+v32))] rfl (qT (zB g34)) rfl)] [0,0,0,6,0,16,62,0,128,0,512,0,2048,7680,0,32256,0,65536,261632,524160,0,1048576,0,4194304,0,16777216,62914560,0,264241152,0,536870912,2143813120,4294442496,8589934464,17179869183,34359738367] 5 [81] [] [2] [(2,ro 0 93 2 l26.length (rf qF (l26.set ((Int.tmod (w64 ((v6.getD x16.toNat du)+x27)) (l26.length:Int)).toNat) (qA.mk (w64 ((((a1.Read.getD (v6.getD x16.toNat du).toNat du).P).X)+v30)) (w64 ((((a1.Read.getD (v6.getD x16.toNat du).toNat du).P).Y)+v32))))))] ?_
   exact q_vv [] 5 [16] [(16,vi (w64 (x27+1)))] (q_hl (ON a1 v6 x16 v24 (l26.set ((Int.tmod (w64 ((v6.getD x16.toNat du)+x27)) (l26.length:Int)).toNat) (qA.mk (w64 ((((a1.Read.getD (v6.getD x16.toNat du).toNat du).P).X)+v30)) (w64 ((((a1.Read.getD (v6.getD x16.toNat du).toNat du).P).Y)+v32)))) l26.length (w64 (x27+1))) (ih (l26.set ((Int.tmod (w64 ((v6.getD x16.toNat du)+x27)) (l26.length:Int)).toNat) (qA.mk (w64 ((((a1.Read.getD (v6.getD x16.toNat du).toNat du).P).X)+v30)) (w64 ((((a1.Read.getD (v6.getD x16.toNat du).toNat du).P).Y)+v32)))) l26.length (w64 (x27+1)) _ (QE rfl) hm))
  ·refine q_ex 2 ?_;obtain rfl:=oi hm;exact q_l0
theorem qL7 (E:Env 0) (a1:Ring) (v6:(List Int)):∀(n:Nat) (l15:List qA) (l15n:Nat) (x16:Int) (res:(List qA)),l15.length=l15n->YP a1 v6 n l15 x16=some res->HL (kx E 121 0) (nd f88 2036) (zN 0 qET res) n (OW a1 v6 l15 l15n x16):=by
 intro n
 induction n with
 |zero=>
  intro l15 l15n x16 res hl0 hm;cases hm
 |succ n ih=>
  intro l15 l15n x16 res hl0 hm;subst hl0;refine qU (s_va 3 [(48,vb (decide (x16<(v6.length:Int))))] ?_);refine q_sq (q_cq hm (λhm=>?_) (λhm=>?_))
  ·refine q_sk (q_sq ?_);refine q_bk 1 ?_;obtain⟨g18,hm⟩:=qJ hm;refine s_vv [qi 1 g18,qd 2 dN (qT (zB g18))] 3 [48] [(11,vi x16),(12,vi (v6.getD x16.toNat du))] ?_;obtain⟨g19,hm⟩:=qJ hm;obtain⟨g20,hm⟩:=qJ hm;obtain⟨g21,hm⟩:=qJ hm;obtain⟨g22,hm⟩:=qJ hm
   refine s_du [qi 3 g19,qd 13 dN (OA g20),qi 14 g21,qd 15 dN (qT (zB g21)),qi 16 g22] [0,1,0,7,15,31,0,64,0,0,512,0,2048,7680,16128,32512,65472,131008,262080,0,0,1572927,4194303] 3 [] [(13,vp 3 0),(14,vp 4 0)] [] [(3,bx 93 (qF ((a1.Read.getD (v6.getD x16.toNat du).toNat du).P))),(4,bx 93 (qF ((a1.Read.getD (v6.getD ((Int.tmod (w64 (x16+1)) (v6.length:Int)).toNat) du).toNat du).P)))] ?_;obtain⟨g23,hm⟩:=qJ hm
   refine s_vu [qi 3 g23,qd 4 (drw 0 0 (rf qF (l15.set ((v6.getD x16.toNat du).toNat) ((a1.Read.getD (v6.getD x16.toNat du).toNat du).P)))) (stP qF du ((a1.Read.getD (v6.getD x16.toNat du).toNat du).P) l15 l15.length ((v6.getD x16.toNat du).toNat) 0 [ci (((a1.Read.getD (v6.getD x16.toNat du).toNat du).P).X),ci (((a1.Read.getD (v6.getD x16.toNat du).toNat du).P).Y)] rfl (qT (zB g23)) rfl)] 5 [] [] [2] [(2,ro 0 93 2 l15.length (rf qF (l15.set ((v6.getD x16.toNat du).toNat) ((a1.Read.getD (v6.getD x16.toNat du).toNat du).P))))] ?_;obtain⟨v24,h25,hm⟩:=qC hm
   refine s_vv [qd 3 (dex (cen [] [] 5 0 (qDH v24) (FH v24) [75,76,77] [1])) (wO (K:=(kx E 121 0)) (b:=false) ⟨[(75,va (zC a1)),(76,vo 1 0 1 v6.length),(77,vi x16)],[(1,ro 0 3 1 v6.length (rf qE v6))]⟩ (opAt (rg f88 521422) 3) [] [] 5 (o1 (ke v6.length)) rfl (qHV a1 v6 x16 v24 h25) (.inr ⟨(by kernel_rfl),qJG v24⟩) (by kernel_rfl))] 5 [11] [(15,vi v24)] (s_va 5 [(16,vi 1)] ?_);obtain⟨o36,h37,hm⟩:=qC hm
   refine zI (nd f88 4171388) 2 (by kernel_rfl) FUEL (λo=>qFD a1 v6 x16 o) o36 (q_hl (ON a1 v6 x16 v24 (l15.set ((v6.getD x16.toNat du).toNat) ((a1.Read.getD (v6.getD x16.toNat du).toNat du).P)) l15.length 1) (qMB E a1 v6 x16 v24 FUEL (l15.set ((v6.getD x16.toNat du).toNat) ((a1.Read.getD (v6.getD x16.toNat du).toNat du).P)) l15.length 1 o36 (QE rfl) h37)) (q_vv [] 5 [47] [(47,vi (w64 (x16+1)))] ?_);exact q_hl (OW a1 v6 o36 o36.length (w64 (x16+1))) (ih o36 o36.length (w64 (x16+1)) _ rfl hm)
  ·refine q_ex 0 ?_;obtain rfl:=oi hm;exact q_l0
theorem qRF (a1:Ring) (a2:Int) (r:(List qA)×Int) (hm:IK a1 a2=some r):CtX Tryz.prog globs 88 0 0 [.agg (zC a1),.one (ci a2)] [] (qJO r) (OH r):=by
 unfold IK at hm;refine q_E f88 121 λE=>?_;refine s_vn [] 0 ⟨[(1,vi a2),(2,vp 0 0)],[(0,bx 71 (zC a1))]⟩ (q_sq ?_);obtain⟨v3,h4,hm⟩:=qC hm;refine s_vv [qc 1 [17] 1 (OB a1 v3 h4)] 1 [] [(6,vi v3)] (s_va 1 [(20,vb (v3 !=0))] ?_);refine q_cq hm (λhm=>?_) (λhm=>?_)
 ·refine s_vn [] 1 ⟨[(4,vc (.emp)),(5,vi v3)],[]⟩ (q_fo 4 1 93 2 qF ?_);refine q_fl 4 1 93 2 qF ?_;obtain rfl:=oi hm;exact q_sw 1 0 (q_rt q_rm)
 ·refine q_sk ?_;obtain⟨v6,h7,hm⟩:=qC hm;refine s_vu [qc 1 [22] 1 (CL a1 v6 h7)] 1 [6,20] [(7,vo 1 0 1 v6.length)] [] [(1,ro 0 3 1 v6.length (rf qE v6))] ?_;obtain⟨v8,h9,hm⟩:=qC hm;refine s_vv [qc 1 [25] 2 (qUS a1 v8 h9)] 2 [] [(8,vi v8.1),(9,vi v8.2)] (q_sq ?_);refine q_jn (qNq a1 v6) (λp=>GR a1 v6 p=some r) ?_ ?_
  ·rintro x12 hm;refine q_cq hm (λhm=>?_) (λhm=>?_)
   ·refine s_vn [] 2 ⟨[(4,vc (.emp)),(5,vi 30)],[]⟩ (q_fo 4 2 93 2 qF ?_);refine q_fl 4 2 93 2 qF ?_;obtain rfl:=oi hm;exact q_sw 2 0 (q_rt q_rm)
   ·refine q_sk ?_;obtain⟨g14,hm⟩:=qJ hm;refine s_vu [qd 3 (drw 2 0 (rf qF (List.replicate ((a1.Read.length:Int).toNat) (qA.mk 0 0)))) (mkP qF du (qA.mk 0 0) (a1.Read.length:Int) 16 [ci 0,ci 0] (GH g14) rfl)] 2 [40] [(10,vo 2 0 2 ((a1.Read.length:Int).toNat))] [] [(2,ro 0 93 2 ((a1.Read.length:Int).toNat) (rf qF (List.replicate ((a1.Read.length:Int).toNat) (qA.mk 0 0))))] (q_sq ?_);refine s_va 3 [(45,vo 1 0 1 v6.length),(46,vi (v6.length:Int)),(47,vi 0)] ?_;obtain⟨o39,h40,hm⟩:=qC hm
    refine zI (nd f88 2036) 0 (by kernel_rfl) FUEL qET o39 (q_hl (OW a1 v6 (List.replicate ((a1.Read.length:Int).toNat) (qA.mk 0 0)) ((a1.Read.length:Int).toNat) 0) (qL7 E a1 v6 FUEL (List.replicate ((a1.Read.length:Int).toNat) (qA.mk 0 0)) ((a1.Read.length:Int).toNat) 0 o39 DS h40)) (s_vv [] 3 [10] [(4,vo 2 0 2 o39.length),(5,vi 0)] ?_);obtain rfl:=oi hm;exact q_sw 2 0 (q_rt q_rm)
  ·rcases bif_c hm with⟨b10,hm⟩|⟨b10,hm⟩
   ·exact q_vv [qf 3 b10] 2 [1,8,9] [(40,vb true)] (q_J (true) hm)
   ·rcases bif_c hm with⟨b11,hm⟩|⟨b11,hm⟩
    ·exact q_vv [qf 3 b10,qf 6 b11] 2 [1,8,9] [(40,vb (decide (v8.2>a2)))] (q_J (decide (v8.2>a2)) hm)
    ·exact q_vv [qf 3 b10,qf 6 b11] 2 [1,8,9] [(40,vb false)] (q_J (false) hm)
def qTl (r:Bool):V:=vb r
def qSO (r:Bool):List (Nat×(Nat×O)):=[]
def qOE (x3:Bool):St:=
 ⟨[(2,vb x3)],[]⟩
theorem qCs (a1:Int) (r:Bool) (hm:FP a1=some r):CtX Tryz.prog globs 226 0 0 [.one (ci a1)] [] (qTl r) (qSO r):=by
 unfold FP at hm;refine q_E f226 9 λE=>?_;refine s_vn [] 0 ⟨[(0,vi a1)],[]⟩ (q_jn (qOE) (λp=>EF p=some r) ?_ ?_)
 ·rintro x3 hm;obtain rfl:=oi hm;exact q_rt q_rm
 ·rcases bif_c hm with⟨b2,hm⟩|⟨b2,hm⟩
  ·exact q_vn [qf 2 b2] 0 ⟨[(2,vb (decide (a1<=600)))],[]⟩ (q_J (decide (a1<=600)) hm)
  ·exact q_vn [qf 2 b2] 0 ⟨[(2,vb false)],[]⟩ (q_J (false) hm)
def qBz (r:Bool):V:=vb r
def qB7 (r:Bool):List (Nat×(Nat×O)):=[]
def qMD (a1:List qA) (x2:Int) (x10:Bool):St:=
 ⟨[(5,vc (tl qF du a1)),(6,vi (a1.length:Int)),(7,vi x2),(20,vb x10)],[]⟩
def AC (a1:List qA) (x2:Int):St:=
 ⟨[(5,vc (tl qF du a1)),(6,vi (a1.length:Int)),(7,vi x2)],[]⟩
def qD6 :St:=
 ⟨[],[]⟩
theorem qLr (E:Env 0) (a1:List qA):∀(n:Nat) (x2:Int) (res:Bool⊕Unit),JD a1 n x2=some res->HL (kx E 22 0) (nd f199 52) (wY 0 (λo=>qD6) (λv st=>RetQ Tryz.prog f199 (qBz v) (qB7 v) .ret st) res) n (AC a1 x2):=by
 intro n
 induction n with
 |zero=>
  intro x2 res hm;cases hm
 |succ n ih=>
  intro x2 res hm;refine qU (s_va 0 [(8,vb (decide (x2<(a1.length:Int))))] ?_);refine q_sq (q_cq hm (λhm=>?_) (λhm=>?_))
  ·refine q_sk (q_sq ?_);refine q_bk 1 ?_;obtain⟨g4,hm⟩:=qJ hm;refine s_vu [qi 0 g4] 0 [8] [(4,vp 0 0)] [] [(0,bx 93 (qF (a1.getD x2.toNat du)))] (q_jn (qMD a1 x2) (λp=>LI x2 (JD a1 n) p=some res) ?_ ?_)
   ·rintro x10 hm;refine q_cq hm (λhm=>?_) (λhm=>?_)
    ·refine s_vn [] 1 ⟨[(2,vb false)],[]⟩ ?_;obtain rfl:=oi hm;refine q_rt (zQ false ?_);exact q_rm
    ·refine q_sk (q_vv [] 1 [7,20] [(7,vi (w64 (x2+1)))] ?_);exact q_hl (AC a1 (w64 (x2+1))) (ih (w64 (x2+1)) _ hm)
   ·obtain⟨v5,h6,hm⟩:=qC hm;rcases bif_c hm with⟨b7,hm⟩|⟨b7,hm⟩
    ·exact q_vu [qc 2 [12] 1 (qCs ((a1.getD x2.toNat du).X) v5 h6),qf 4 b7] 1 [4] [(20,vb true)] [0] [] (q_J (true) hm)
    ·obtain⟨v8,h9,hm⟩:=qC hm;exact q_vu [qc 2 [12] 1 (qCs ((a1.getD x2.toNat du).X) v5 h6),qf 4 b7,qk 7 [15,17] 1 ⟨[(15,vb false),(17,vi ((a1.getD x2.toNat du).Y))],[]⟩ (qCs ((a1.getD x2.toNat du).Y) v8 h9)] 1 [4] [(20,vb (!v8))] [0] [] (q_J (!v8) hm)
  ·refine q_ex 0 ?_;obtain rfl:=oi hm;exact q_l1 ()
theorem qA8 (a1:List qA) (r:Bool) (hm:RV a1=some r):CtX Tryz.prog globs 199 0 0 [.one (tl qF du a1)] [] (qBz r) (qB7 r):=by
 unfold RV at hm;refine q_E f199 22 λE=>?_;refine s_vn [] 0 ⟨[(0,vc (tl qF du a1))],[]⟩ (q_sq ?_);refine s_vn [] 0 ⟨[(5,vc (tl qF du a1)),(6,vi (a1.length:Int)),(7,vi 0)],[]⟩ ?_;obtain⟨u14,h13,hm⟩:=qC hm;refine zY (nd f199 52) 0 (by kernel_rfl) FUEL (λo=>qD6) (λv st=>RetQ Tryz.prog f199 (qBz v) (qB7 v) .ret st) u14 (q_hl (AC a1 0) (qLr E a1 FUEL 0 u14 h13)) ?_ ?_
 ·rintro v15 rfl st hr;obtain rfl:=oi hm;exact hr
 ·rintro o12 rfl;replace hm:_=some r:=hm;refine s_vn [] 0 ⟨[(2,vb true)],[]⟩ ?_;obtain rfl:=oi hm;exact q_rt q_rm
def qVw (r:Int):V:=vi r
def qVm (r:Int):List (Nat×(Nat×O)):=[]
def qAx (a1:List qA) (x7:Int) (x8:Int):St:=
 ⟨[(0,vc (tl qF du a1)),(3,vi x7),(15,vc (tl qF du a1)),(16,vi (a1.length:Int)),(17,vi x8)],[]⟩
def qGk (x13:Int):St:=
 ⟨[(3,vi x13)],[]⟩
def qPA (a1:List qA) (x5:Bool):St:=
 ⟨[(0,vc (tl qF du a1)),(14,vb x5)],[]⟩
theorem qOC (E:Env 0) (a1:List qA):∀(n:Nat) (x7:Int) (x8:Int) (res:Int),TM a1 n x7 x8=some res->HL (kx E 45 0) (nd f200 244) (zN 0 qGk res) n (qAx a1 x7 x8):=by
 intro n
 induction n with
 |zero=>
  intro x7 x8 res hm;cases hm
 |succ n ih=>
  intro x7 x8 res hm;refine qU (s_va 0 [(18,vb (decide (x8<(a1.length:Int))))] ?_);refine q_sq (q_cq hm (λhm=>?_) (λhm=>?_))
  ·refine q_sk (q_sq ?_);refine q_bk 1 ?_;obtain⟨g10,hm⟩:=qJ hm;refine s_vu [qi 1 g10] 0 [18] [(4,vi x8),(5,vp 0 0)] [] [(0,bx 93 (qF (a1.getD x8.toNat du)))] ?_;obtain⟨g11,hm⟩:=qJ hm;obtain⟨g12,hm⟩:=qJ hm;refine s_vu [qd 5 dN (OA g11),qi 6 g12] 1 [4] [(6,vp 1 0)] [] [(1,bx 93 (qF (a1.getD (Int.tmod (w64 (x8+1)) (a1.length:Int)).toNat du)))] (q_vu [] 2 [3,5,6] [(3,vi (w64 (x7+(w64 ((w64 (((a1.getD x8.toNat du).X)*((a1.getD (Int.tmod (w64 (x8+1)) (a1.length:Int)).toNat du).Y)))-(w64 (((a1.getD (Int.tmod (w64 (x8+1)) (a1.length:Int)).toNat du).X)*((a1.getD x8.toNat du).Y))))))))] [0,1] [] ?_)
   exact q_vv [] 2 [17] [(17,vi (w64 (x8+1)))] (q_hl (qAx a1 (w64 (x7+(w64 ((w64 (((a1.getD x8.toNat du).X)*((a1.getD (Int.tmod (w64 (x8+1)) (a1.length:Int)).toNat du).Y)))-(w64 (((a1.getD (Int.tmod (w64 (x8+1)) (a1.length:Int)).toNat du).X)*((a1.getD x8.toNat du).Y))))))) (w64 (x8+1))) (ih (w64 (x7+(w64 ((w64 (((a1.getD x8.toNat du).X)*((a1.getD (Int.tmod (w64 (x8+1)) (a1.length:Int)).toNat du).Y)))-(w64 (((a1.getD (Int.tmod (w64 (x8+1)) (a1.length:Int)).toNat du).X)*((a1.getD x8.toNat du).Y))))))) (w64 (x8+1)) _ hm))
  ·refine q_ex 0 ?_;obtain rfl:=oi hm;exact q_l0
theorem qS0 (a1:List qA) (r:Int) (hm:qA1 a1=some r):CtX Tryz.prog globs 200 0 0 [.one (tl qF du a1)] [] (qVw r) (qVm r):=by
 unfold qA1 at hm;refine q_E f200 45 λE=>?_;refine s_vn [] 0 ⟨[(0,vc (tl qF du a1))],[]⟩ (q_sq ?_);refine q_jn (qPA a1) (λp=>IQ a1 p=some r) ?_ ?_
 ·rintro x5 hm;refine q_cq hm (λhm=>?_) (λhm=>?_)
  ·refine s_vn [] 0 ⟨[(2,vi 0)],[]⟩ ?_;obtain rfl:=oi hm;exact q_rt q_rm
  ·refine q_sk (s_vv [] 0 [14] [(3,vi 0)] ?_);refine q_sq (s_va 0 [(15,vc (tl qF du a1)),(16,vi (a1.length:Int)),(17,vi 0)] ?_);obtain⟨o14,h15,hm⟩:=qC hm;refine zI (nd f200 244) 0 (by kernel_rfl) FUEL qGk o14 (q_hl (qAx a1 0 0) (qOC E a1 FUEL 0 0 o14 h15)) (s_vn [] 0 ⟨[(2,vi o14)],[]⟩ ?_);obtain rfl:=oi hm;exact q_rt q_rm
 ·rcases bif_c hm with⟨b2,hm⟩|⟨b2,hm⟩
  ·exact q_vv [qf 3 b2] 0 [] [(14,vb true)] (q_J (true) hm)
  ·obtain⟨v3,h4,hm⟩:=qC hm;exact q_vv [qf 3 b2,qk 5 [10,11] 0 ⟨[(10,vb false),(11,vc (tl qF du a1))],[]⟩ (qA8 a1 v3 h4)] 0 [] [(14,vb (!v3))] (q_J (!v3) hm)
def qU9 (r:Int):V:=vi r
def qUV (r:Int):List (Nat×(Nat×O)):=[]
theorem qS7 (a1:List qA) (r:Int) (hm:qAY a1=some r):CtX Tryz.prog globs 151 0 0 [.one (tl qF du a1)] [] (qU9 r) (qUV r):=by
 unfold qAY at hm;refine q_E f151 19 λE=>?_;refine s_vn [] 0 ⟨[(0,vc (tl qF du a1))],[]⟩ (q_sq ?_);refine q_bk 0 (s_va 0 [(3,vb (decide ((a1.length:Int)<3)))] ?_);refine q_cq hm (λhm=>?_) (λhm=>?_)
 ·refine s_vn [] 0 ⟨[(2,vi 3)],[]⟩ ?_;obtain rfl:=oi hm;exact q_rt q_rm
 ·refine s_vv [] 0 [3] [(7,vb (decide ((a1.length:Int)>32)))] (q_cq hm (λhm=>?_) (λhm=>?_))
  ·refine s_vn [] 0 ⟨[(2,vi 4)],[]⟩ ?_;obtain rfl:=oi hm;exact q_rt q_rm
  ·obtain⟨v4,h5,hm⟩:=qC hm;refine s_vv [qc 1 [12] 0 (qA8 a1 v4 h5)] 0 [7] [(11,vb (!v4))] (q_cq hm (λhm=>?_) (λhm=>?_))
   ·refine s_vn [] 0 ⟨[(2,vi 9)],[]⟩ ?_;obtain rfl:=oi hm;exact q_rt q_rm
   ·obtain⟨v7,h8,hm⟩:=qC hm;refine s_vn [qc 1 [16] 0 (qS0 a1 v7 h8)] 0 ⟨[(15,vb (v7==0))],[]⟩ (q_cq hm (λhm=>?_) (λhm=>?_))
    ·refine s_vn [] 0 ⟨[(2,vi 19)],[]⟩ ?_;obtain rfl:=oi hm;exact q_rt q_rm
    ·refine q_sk (s_vn [] 0 ⟨[(2,vi 0)],[]⟩ ?_);obtain rfl:=oi hm;exact q_rt q_rm
def qMv (r:Span):V:=va (qL r)
def qL8 (r:Span):List (Nat×(Nat×O)):=[]
theorem SD (a1:Int) (a2:Int) (r:Span) (hm:XU a1 a2=some r):CtX Tryz.prog globs 153 0 0 [.one (ci a1),.one (ci a2)] [] (qMv r) (qL8 r):=by
 unfold XU at hm;refine q_E f153 10 λE=>?_;refine s_vn [] 0 ⟨[(0,vi a1),(1,vi a2),(4,vp 0 0)],[(0,bx 53 [ci 0,ci 0])]⟩ (s_vu [] 1 [0,1] [] [0] [(0,bx 53 [ci (w64 (10*a1)),ci (w64 (10*a2))])] ?_);obtain rfl:=oi hm;exact q_rt q_rm
def qIk (r:List qA):V:=vo 0 0 2 r.length
def qIm (r:List qA):List (Nat×(Nat×O)):=[(0,ro 0 93 2 r.length (rf qF r))]
theorem qHc (a1:List qA) (r:List qA) (hm:YE a1=some r):CtX Tryz.prog globs 227 0 0 [.one (tl qF du a1)] [] (qIk r) (qIm r):=by
 unfold YE at hm;obtain⟨g1,hm⟩:=qJ hm;obtain rfl:=kE hm;refine qBM (fn:=f227) (c:=nd f227 1) (nt:=8) (by kernel_rfl) (by kernel_rfl) (by kernel_rfl) (by kernel_rfl) λE=>?_;refine R_sq f227 2 3 (by kernel_rfl) (R_rn f227 2 0 [] [] 0 ⟨[(0,vc (tl qF du a1))],[]⟩ o0 (by kernel_rfl) (by kernel_rfl) ?_);refine R_sq f227 6 7 (by kernel_rfl) (R_sq f227 12 13 (by kernel_rfl) ?_);refine qO2 f227 12 1 1 ⟨[(0,vc (tl qF du a1)),(3,vc (tl qF du a1))],[]⟩ 111 111 93 4 (.tmp 3) a1.length (rf qF a1) (by kernel_rfl) (by kernel_rfl) (by kernel_rfl) (λb hb=>?_)
 refine R_cn f227 (.tmp 4) 26 27 (by kernel_rfl) b (by kernel_rfl) (λb6=>?_) (λb6=>?_)
 ·obtain rfl:a1=[]:=ui (hb b6);refine R_sq f227 52 53 (by kernel_rfl) (R_rn f227 52 2 [] [.own 2 0 93 2 (rf qF [])] 0 ⟨[(2,vo 0 0 2 0)],[(0,ro 0 93 2 0 (rf qF []))]⟩ o0 (by kernel_rfl) (by kernel_rfl) ?_);exact qAW (by kernel_rfl) (HR (by kernel_rfl) (by kernel_rfl))
 ·refine qHO (by kernel_rfl) (R_sq f227 14 15 (by kernel_rfl) ?_);refine R_rn f227 14 3 [(0,drw 0 0 (rf qF [])),(2,drw 0 1 (rf qF ([]++a1)))] [.len 0 a1.length] 0 ⟨[(2,vo 0 1 2 a1.length)],[(0,ro 1 93 2 a1.length (rf qF ([]++a1)))]⟩ (o1 (And.intro (And.intro (litP qF du 2 (λ_=>rfl) ([]:List qA) 0 rfl) (apP qF du ([]:List qA) a1 0 a1.length 2 16 True trivial rfl rfl (λ_=>rfl) (by have:=wB g1;rw[kB];exact this))) (And.intro (And.intro (kB a1.length) (kB a1.length)) (kB a1.length)))) (by kernel_rfl) (by kernel_rfl) (qAW (by kernel_rfl) ?_);exact HR (by kernel_rfl) (by kernel_rfl)
def qOF (r:Bool):V:=vb r
def qPu (r:Bool):List (Nat×(Nat×O)):=[]
theorem qD3 (a1:Int) (r:Bool) (hm:FF a1=some r):CtX Tryz.prog (markG::globs) 254 0 0 [.one (ci a1)] [] (qOF r) (qPu r):=by
 unfold FF at hm;refine q_T f254 6 λE=>?_;refine s_vn [] 0 ⟨[(0,vi a1)],[]⟩ (s_vn [] 0 ⟨[(2,vb (a1 !=a1))],[]⟩ ?_);obtain rfl:=oi hm;exact q_rt q_rm
def qMq (r:Int):V:=vi r
def qMx (r:Int):List (Nat×(Nat×O)):=[]
theorem qBq (a1:Int) (a2:Int) (r:Int) (hm:KF a1 a2=some r):CtX Tryz.prog (markG::globs) 231 0 0 [.one (ci a1),.one (ci a2)] [] (qMq r) (qMx r):=by
 unfold KF at hm;refine q_T f231 20 λE=>?_;refine s_vn [] 0 ⟨[(0,vi a1),(1,vi a2)],[]⟩ ?_;obtain⟨v3,h4,hm⟩:=qC hm;refine s_vv [qc 1 [7] 0 (qD3 a1 v3 h4)] 0 [] [(5,vb v3)] ?_;obtain⟨v5,h6,hm⟩:=qC hm;refine s_vv [qc 1 [9] 0 (qD3 a2 v5 h6)] 0 [] [(6,vb v5)] (q_sq ?_);refine s_vv [] 0 [5] [(11,vb v3)] (q_cq hm (λhm=>?_) (λhm=>?_))
 ·refine q_sq (s_vn [] 0 ⟨[(12,vb v5)],[]⟩ ?_);refine q_cq hm (λhm=>?_) (λhm=>?_)
  ·refine s_vn [] 0 ⟨[(4,vi 0)],[]⟩ ?_;obtain rfl:=oi hm;exact q_rt q_rm
  ·refine q_sk (s_vn [] 0 ⟨[(4,vi (-1))],[]⟩ ?_);obtain rfl:=oi hm;exact q_rt q_rm
 ·refine q_sk (q_sq ?_);refine s_vv [] 0 [6,11] [(13,vb v5)] (q_cq hm (λhm=>?_) (λhm=>?_))
  ·refine s_vn [] 0 ⟨[(4,vi 1)],[]⟩ ?_;obtain rfl:=oi hm;exact q_rt q_rm
  ·refine q_sk (q_sq ?_);refine s_vv [] 0 [13] [(16,vb (decide (a1<a2)))] (q_cq hm (λhm=>?_) (λhm=>?_))
   ·refine s_vn [] 0 ⟨[(4,vi (-1))],[]⟩ ?_;obtain rfl:=oi hm;exact q_rt q_rm
   ·refine q_sk (q_sq ?_);refine s_vn [] 0 ⟨[(19,vb (decide (a1>a2)))],[]⟩ (q_cq hm (λhm=>?_) (λhm=>?_))
    ·refine s_vn [] 0 ⟨[(4,vi 1)],[]⟩ ?_;obtain rfl:=oi hm;exact q_rt q_rm
    ·refine q_sk (s_vn [] 0 ⟨[(4,vi 0)],[]⟩ ?_);obtain rfl:=oi hm;exact q_rt q_rm
def IY (r:Int):V:=vi r
def TZ (r:Int):List (Nat×(Nat×O)):=[]
theorem qTx (r:Int):QQ (TZ r):=by
 intro i k o h;unfold TZ at h;cases h
def OV (a1:List Int) (x2:Int):St:=
 ⟨[(3,vi 0),(6,vc (tl qE du a1)),(7,vi (a1.length:Int)),(8,vi x2)],[]⟩
def qFr :St:=
 ⟨[(3,vi 0)],[]⟩
theorem qKc (E:Env 0) (a1:List Int):∀(n:Nat) (x2:Int) (res:Int⊕Unit),RG a1 n x2=some res->HL (kt E 18 0) (nd f230 116) (wY 0 (λo=>qFr) (λv st=>RetQ Tryz.prog f230 (IY v) (TZ v) .ret st) res) n (OV a1 x2):=by
 intro n
 induction n with
 |zero=>
  intro x2 res hm;cases hm
 |succ n ih=>
  intro x2 res hm;refine qU (s_va 0 [(9,vb (decide (x2<(a1.length:Int))))] ?_);refine q_sq (q_cq hm (λhm=>?_) (λhm=>?_))
  ·refine q_sk (q_sq ?_);refine q_bk 1 ?_;obtain⟨g4,hm⟩:=qJ hm;refine s_vv [qi 0 g4] 0 [9] [(5,vi (a1.getD x2.toNat du))] (s_va 0 [(14,vb ((a1.getD x2.toNat du) !=0))] ?_);refine q_cq hm (λhm=>?_) (λhm=>?_)
   ·refine s_vn [] 0 ⟨[(2,vi (a1.getD x2.toNat du))],[]⟩ ?_;obtain rfl:=oi hm;refine q_rt (zQ (a1.getD x2.toNat du) ?_);exact q_rm
   ·refine q_sk (q_vv [] 0 [5,8,14] [(8,vi (w64 (x2+1)))] ?_);exact q_hl (OV a1 (w64 (x2+1))) (ih (w64 (x2+1)) _ hm)
  ·refine q_ex 0 ?_;obtain rfl:=oi hm;exact q_l1 ()
theorem qQK (a1:List Int) (r:Int) (hm:IH a1=some r):CtX Tryz.prog (markG::globs) 230 0 0 [.one (tl qE du a1)] [] (IY r) (TZ r):=by
 unfold IH at hm;refine q_T f230 18 λE=>?_;refine s_vn [] 0 ⟨[(0,vc (tl qE du a1))],[]⟩ (s_va 0 [(3,vi 0)] ?_);refine q_sq (s_vv [] 0 [0] [(6,vc (tl qE du a1)),(7,vi (a1.length:Int)),(8,vi 0)] ?_);obtain⟨u8,h7,hm⟩:=qC hm;refine zY (nd f230 116) 0 (by kernel_rfl) FUEL (λo=>qFr) (λv st=>RetQ Tryz.prog f230 (IY v) (TZ v) .ret st) u8 (q_hl (OV a1 0) (qKc E a1 FUEL 0 u8 h7)) ?_ ?_
 ·rintro v9 rfl st hr;obtain rfl:=oi hm;exact hr
 ·rintro o6 rfl;replace hm:_=some r:=hm;refine s_vn [] 0 ⟨[(2,vi 0)],[]⟩ ?_;obtain rfl:=oi hm;exact q_rt q_rm
def qSP (r:Int):V:=vi r
def qTm (r:Int):List (Nat×(Nat×O)):=[]
theorem qQd (a1:qA) (a2:qA) (r:Int) (hm:poly_Hull_1 a1 a2=some r):CtX Tryz.prog (markG::globs) 229 0 0 [.agg (qF a1),.agg (qF a2)] [] (qSP r) (qTm r):=by
 unfold poly_Hull_1 at hm;refine q_T f229 17 λE=>?_;refine s_vn [] 0 ⟨[(2,vp 0 0),(3,vp 1 0)],[(0,bx 93 (qF a1)),(1,bx 93 (qF a2))]⟩ ?_;obtain⟨v3,h4,hm⟩:=qC hm;obtain⟨v5,h6,hm⟩:=qC hm;obtain⟨v7,h8,hm⟩:=qC hm
 refine s_dn [qc 4 [6,8] 2 (qBq a1.X a2.X v3 h4),qc 9 [11,13] 2 (qBq a1.Y a2.Y v5 h6),qd 10 (drw 2 0 (rf qE [v3,v5])) (litP qE du 1 (λ_=>rfl) ([v3,v5]:List Int) 2 rfl),qd 11 (dex (cen [] [] 3 0 (IY v7) (TZ v7) [15] [2])) (wO (K:=(kt E 17 0)) (xs':=[.one (.lst 2 (rf qE [v3,v5]))]) (b:=false) ⟨[(15,vo 2 0 1 2)],[(2,ro 0 3 1 2 (rf qE [v3,v5]))]⟩ (opAt (rg f229 6) 11) [] [] 3 (o1 (ke 2)) (by simp only[tl,rf,show([v3,v5]:List Int).length=2 from rfl]) (qQK ([v3,v5]:List Int) v7 h8) (.inr ⟨(by kernel_rfl),qTx v7⟩) (by kernel_rfl))] [0,1,0,4,15,0,32,0,128,511,1023,2047,4095] 2 ⟨[(4,vi v7)],[]⟩ ?_
 obtain rfl:=oi hm;exact q_rt q_rm
open Go.Proofs
def HD (a1:List qA) (r:List qA):V:= .undef
def MQ (a1:List qA) (r:List qA):List (Nat×(Nat×O)):=[(0,ro 0 93 2 r.length (rf qF r))]
theorem lfB {α:Type} {o:Option α} {a b:α} (h:o=some a) (e:a=b:=by kernel_rfl):o=some b:=h.trans (congrArg some e)
def slices_SortFunc_SPoint_lay_ren :Go.Shelf.Ren:=⟨fun |6=>228|15=>213|14=>253|28=>247|29=>248|20=>269|21=>270|22=>271|23=>272|24=>273|25=>274|26=>275|27=>276|46=>288|47=>259|48=>260|49=>289|50=>290|57=>293|n=>n,fun |22=>111|24=>93|25=>256|3=>3|39=>246|0=>0|53=>267|55=>161|4=>4|46=>260|45=>259|50=>221|5=>5|9=>9|66=>274|70=>278|76=>294|77=>107|n=>n,fun n=>n⟩
theorem slices_SortFunc_SPoint_lay : Go.Proofs.SlLaysF0.n6 Tryz.prog slices_SortFunc_SPoint_lay_ren :={mixed:=by kernel_rfl,f6:=⟨Tryz.f228.name,by decide,lfB Tryz.func228⟩,f14:=⟨Tryz.f253.name,by decide,lfB Tryz.func253⟩,f15:=lfB Tryz.func213,f20:=⟨Tryz.f269.name,by decide,lfB Tryz.func269⟩,f21:=⟨Tryz.f270.name,by decide,lfB Tryz.func270⟩,f22:=⟨Tryz.f271.name,by decide,lfB Tryz.func271⟩,f23:=⟨Tryz.f272.name,by decide,lfB Tryz.func272⟩,f24:=⟨Tryz.f273.name,by decide,lfB Tryz.func273⟩,f25:=⟨Tryz.f274.name,by decide,lfB Tryz.func274⟩,f26:=⟨Tryz.f275.name,by decide,lfB Tryz.func275⟩,f27:=⟨Tryz.f276.name,by decide,lfB Tryz.func276⟩,f28:=lfB Tryz.func247,f29:=lfB Tryz.func248,f46:=⟨Tryz.f288.name,by decide,lfB Tryz.func288⟩,f47:=lfB Tryz.func259,f48:=lfB Tryz.func260,f49:=⟨Tryz.f289.name,by decide,lfB Tryz.func289⟩,f50:=⟨Tryz.f290.name,by decide,lfB Tryz.func290⟩,f57:=⟨Tryz.f293.name,by decide,lfB Tryz.func293⟩,t0:=Tryz.underlying0,a0:=Tryz.isAgg0,z0:=Tryz.sizeOf0,v0:=Tryz.zeroValue0,t3:=Tryz.underlying3,a3:=Tryz.isAgg3,z3:=Tryz.sizeOf3,v3:=Tryz.zeroValue3,t4:=Tryz.underlying4,a4:=Tryz.isAgg4,z4:=Tryz.sizeOf4,v4:=Tryz.zeroValue4,t5:=Tryz.underlying5,a5:=Tryz.isAgg5,z5:=Tryz.sizeOf5,v5:=Tryz.zeroValue5,t9:=Tryz.underlying9,a9:=Tryz.isAgg9,z9:=Tryz.sizeOf9,v9:=Tryz.zeroValue9,t22:=Tryz.underlying111,a22:=Tryz.isAgg111,z22:=Tryz.sizeOf111,v22:=Tryz.zeroValue111,t25:=Tryz.underlying256,a25:=Tryz.isAgg256,z25:=Tryz.sizeOf256,v25:=Tryz.zeroValue256,t39:=Tryz.underlying246,a39:=Tryz.isAgg246,z39:=Tryz.sizeOf246,v39:=Tryz.zeroValue246,t45:=Tryz.underlying259,a45:=Tryz.isAgg259,z45:=Tryz.sizeOf259,v45:=Tryz.zeroValue259,t46:=Tryz.underlying260,a46:=Tryz.isAgg260,z46:=Tryz.sizeOf260,v46:=Tryz.zeroValue260,t50:=Tryz.underlying221,a50:=Tryz.isAgg221,z50:=Tryz.sizeOf221,v50:=Tryz.zeroValue221,t53:=Tryz.underlying267,a53:=Tryz.isAgg267,z53:=Tryz.sizeOf267,v53:=Tryz.zeroValue267,t55:=Tryz.underlying161,a55:=Tryz.isAgg161,z55:=Tryz.sizeOf161,v55:=Tryz.zeroValue161,t66:=Tryz.underlying274,a66:=Tryz.isAgg274,z66:=Tryz.sizeOf274,v66:=Tryz.zeroValue274,t70:=Tryz.underlying278,a70:=Tryz.isAgg278,z70:=Tryz.sizeOf278,v70:=Tryz.zeroValue278,t76:=Tryz.underlying294,a76:=Tryz.isAgg294,z76:=Tryz.sizeOf294,v76:=Tryz.zeroValue294,t77:=Tryz.underlying107,a77:=Tryz.isAgg107,z77:=Tryz.sizeOf107,v77:=Tryz.zeroValue107}
def qOV (p:qA):List Value:=[.int .i64 p.X,.int .i64 p.Y]
theorem slices_SortFunc_SPoint_swo :Go.Sort.SWO (ltOf cmpPt) where
 irrefl x:=by unfold ltOf cmpPt;simp
 trans x y z h1 h2:=by
  rw[ltPt] at*;simp only[decide_eq_true_eq] at*;omega
 ntrans x y z h1 h2:=by
  rw[ltPt] at*;simp only[decide_eq_false_iff_not] at*;omega
theorem slices_SortFunc_SPoint_anti (x y:qA) (h1:ltOf cmpPt x y=false) (h2:ltOf cmpPt y x=false):x=y:=by
 rw[ltPt] at*;simp only[decide_eq_false_iff_not] at*;cases x;cases y;simp only[qA.mk.injEq] at*;omega
theorem qEA (a1:List qA) (r:List qA) (hm:ZQ a1=some r):CtX Tryz.prog globs 228 1 1 [.one (.own 0 0 2 a1.length),.one (.fn 229 [])] [(0,ro 0 93 2 a1.length (rf qF a1))] (HD a1 r) (MQ a1 r):=by
 unfold ZQ at hm;obtain⟨g1,hm⟩:=qJ hm;obtain rfl:=kE hm;have hs:=qYp g1;have eg:∀args w,(callFunc 229 args).run Tryz.prog w= .ok (.enter 229 args) w:=enters_of Tryz.func229 (by kernel_rfl) rfl;exact qZS (gl:=globs) slices_SortFunc_SPoint_lay 2 Tryz.isAgg93 Tryz.sizeOf93 qOV (λ_=>rfl) (λx v hv=>by simp[qOV] at hv;rcases hv with rfl|rfl<;>rfl) poly_Hull_1 cmpPt poly_Hull_1_eq slices_SortFunc_SPoint_swo slices_SortFunc_SPoint_anti 229 93 eg (λx y=>qQd x y _ (poly_Hull_1_eq x y)) a1 hs.1 hs.2
def JV (a1:List qA) (r:(List qA)×(List qA)):V:=vo 0 0 2 r.2.length
def JT (a1:List qA) (r:(List qA)×(List qA)):List (Nat×(Nat×O)):=[(0,ro 0 93 2 r.2.length (rf qF r.2))]
def NV (l3:List qA) (x4:Int) (x12:Int) (l19:List qA) (l19n:Nat) (x20:Int):St:=
 ⟨[(0,vo 0 0 2 l19n),(3,vi x20),(4,vc (.sub 0 0 2 x4.toNat (l3.length-x4.toNat))),(5,vi x12)],[(0,ro 0 93 2 l19n (rf qF l19))]⟩
def KY (l3:List qA) (x4:Int) (l10:List qA) (l10n:Nat) (x11:Int) (x12:Int):St:=
 ⟨[(0,vo 0 0 2 l10n),(3,vi x11),(4,vc (.sub 0 0 2 x4.toNat (l3.length-x4.toNat))),(5,vi x12)],[(0,ro 0 93 2 l10n (rf qF l10))]⟩
def NU (l21:List qA) (x22:Int):St:=
 ⟨[(0,vo 0 0 2 l21.length),(3,vi x22)],[(0,ro 0 93 2 l21.length (rf qF l21))]⟩
def KO (l3:List qA) (l3n:Nat) (x4:Int):St:=
 ⟨[(0,vo 0 0 2 l3n),(3,vi x4)],[(0,ro 0 93 2 l3n (rf qF l3))]⟩
def NW (l27:List qA):St:=
 ⟨[(0,vo 0 0 2 l27.length)],[(0,ro 0 93 2 l27.length (rf qF l27))]⟩
theorem qDh (E:Env 1) (l3:List qA) (x4:Int):∀(n:Nat) (l10:List qA) (l10n:Nat) (x11:Int) (x12:Int) (res:(List qA)×Int),l10.length=l10n->jF l3 x4 n l10 x11 x12=some res->HL (kx E 61 1) (nd f232 119380) (zN 2 (λo=>NU o.1 o.2) res) n (KY l3 x4 l10 l10n x11 x12):=by
 intro n
 induction n with
 |zero=>
  intro l10 l10n x11 x12 res hl0 hm;cases hm
 |succ n ih=>
  intro l10 l10n x11 x12 res hl0 hm;subst hl0;refine qU (q_sq ?_);refine s_va 1 [(32,vb (decide (x12<(((l3.length-x4.toNat):Nat):Int))))] (q_cq hm (λhm=>?_) (λhm=>?_))
  ·refine q_sk (q_jn (ι:=(List qA)×Nat×Int) (λp=>NV l3 x4 x12 p.1 p.2.1 p.2.2) (λp=>p.1.length=p.2.1/\WV x12 (jF l3 x4 n) p.1 p.2.2=some res) ?_ ?_)
   ·rintro⟨l19,l19n,x20⟩ ⟨el19,hm⟩;replace el19:l19.length=l19n:=el19;subst el19;show H _ (NV l3 x4 x12 l19 l19.length x20) _ _;exact q_vv [] 1 [5] [(5,vi (w64 (x12+1)))] (q_hl (KY l3 x4 l19 l19.length x20 (w64 (x12+1))) (ih l19 l19.length x20 (w64 (x12+1)) _ rfl hm))
   ·refine q_bk 3 ?_;obtain⟨g14,hm⟩:=qJ hm;obtain⟨g15,hm⟩:=qJ hm;obtain⟨g16,hm⟩:=qJ hm;refine s_du [qi 2 g14,qd 3 dN (um (uT (qT (zB g14)) x4.toNat) (kL g15)),qi 7 g16,qd 8 dN (um (uT (qT (zB g16)) x4.toNat) (kL g15))] [0,0,3,7,0,0,32,112,240,511] 1 [32] [(44,vb (!((((l10.getD (x4.toNat+x12.toNat) du).X)==((l10.getD (x4.toNat+((w64 (x12-1)).toNat)) du).X))&&((((l10.getD (x4.toNat+x12.toNat) du).Y)==((l10.getD (x4.toNat+((w64 (x12-1)).toNat)) du).Y))&&true))))] [] [] (q_cq hm (λhm=>?_) (λhm=>?_))
    ·obtain⟨g18,hm⟩:=qJ hm;refine s_vu [qi 4 g14,qd 5 dN (um (uT (qT (zB g14)) x4.toNat) (kL g15)),qi 6 g18,qd 7 (drw 0 0 (rf qF (l10.set x11.toNat (l10.getD (x4.toNat+x12.toNat) du)))) (stP qF du (l10.getD (x4.toNat+x12.toNat) du) l10 l10.length x11.toNat 0 [ci ((l10.getD (x4.toNat+x12.toNat) du).X),ci ((l10.getD (x4.toNat+x12.toNat) du).Y)] rfl (qT (zB g18)) rfl)] 1 [44] [] [0] [(0,ro 0 93 2 l10.length (rf qF (l10.set x11.toNat (l10.getD (x4.toNat+x12.toNat) du))))] (q_vv [] 1 [3] [(3,vi (w64 (x11+1)))] ?_)
     exact q_J ((l10.set x11.toNat (l10.getD (x4.toNat+x12.toNat) du)),l10.length,w64 (x11+1)) ⟨(QE rfl),hm⟩
    ·exact q_sk (q_J (l10,l10.length,x11) ⟨rfl,hm⟩)
  ·refine q_ex 2 ?_;obtain rfl:=oi hm;exact q_l0
theorem qC8 (E:Env 1) (a1:List qA):∀(n:Nat) (l3:List qA) (l3n:Nat) (x4:Int) (res:((List qA)×(List qA))⊕(List qA)),l3.length=l3n->jX n l3 x4=some res->HL (kx E 61 1) (nd f232 116) (wY 0 NW (λv st=>RetQ Tryz.prog f232 (JV a1 v) (JT a1 v) .ret st) res) n (KO l3 l3n x4):=by
 intro n
 induction n with
 |zero=>
  intro l3 l3n x4 res hl0 hm;cases hm
 |succ n ih=>
  intro l3 l3n x4 res hl0 hm;subst hl0;refine qU (q_sq ?_);refine s_va 1 [(13,vb (decide (x4<(l3.length:Int))))] (q_cq hm (λhm=>?_) (λhm=>?_))
  ·refine q_sk (q_sq ?_);refine q_bk 1 ?_;obtain⟨g6,hm⟩:=qJ hm;obtain⟨g7,hm⟩:=qJ hm;refine s_du [qi 2 g6,qd 3 dN (qT (zB g6)),qi 7 g7,qd 8 dN (qT (zB g7))] [0,0,3,7,0,0,32,112,240,511] 1 [13] [(25,vb ((((l3.getD x4.toNat du).X)==((l3.getD ((w64 (x4-1)).toNat) du).X))&&((((l3.getD x4.toNat du).Y)==((l3.getD ((w64 (x4-1)).toNat) du).Y))&&true)))] [] [] (q_cq hm (λhm=>?_) (λhm=>?_))
   ·obtain⟨g9,hm⟩:=qJ hm;refine s_vv [qd 2 dN (And.intro (zP g9).1 (zP g9).2.1)] 1 [25] [(4,vc (.sub 0 0 2 x4.toNat (l3.length-x4.toNat)))] (q_sq ?_);refine s_va 1 [(5,vi 1)] ?_;obtain⟨o23,h24,hm⟩:=qC hm;refine zI (nd f232 119380) 2 (by kernel_rfl) FUEL (λo=>NU o.1 o.2) o23 (q_hl (KY l3 x4 l3 l3.length x4 1) (qDh E l3 x4 FUEL l3 l3.length x4 1 o23 rfl h24)) ?_;obtain⟨g25,hm⟩:=qJ hm
    refine s_wu [qd 2 dN (And.intro (zP g25).1 (zP g25).2.1),qd 3 (drw 0 0 (rf qF o23.1)) (show o23.2.toNat+(o23.1.length-o23.2.toNat)<=o23.1.length by have:=(zP g25);omega)] [.row 0 o23.2.toNat (rf qF (o23.1.take o23.2.toNat))] (o1 (tkP qF du o23.1 o23.2.toNat o23.2.toNat (ke _))) 1 [] [] [0] [(0,ro 0 93 2 o23.2.toNat (rf qF (o23.1.take o23.2.toNat)))] ?_;obtain⟨g26,hm⟩:=qJ hm
    refine s_vv [qd 2 dN (And.intro (zP g26).2.1 (zP g26).2.2)] 1 [0,3] [(2,vo 0 0 2 o23.2.toNat)] (q_fn [.len 0 ((o23.1.take o23.2.toNat).length)] ⟨[(2,vo 0 0 2 ((o23.1.take o23.2.toNat).length))],[(0,ro 0 93 2 ((o23.1.take o23.2.toNat).length) (rf qF (o23.1.take o23.2.toNat)))]⟩ (o1 (And.intro (Eq.symm (show(o23.1.take o23.2.toNat).length=o23.2.toNat from(WQ rfl (uu (gp _ _) (show o23.2.toNat+(o23.1.length-o23.2.toNat)<=o23.1.length by have:=(zP g25);omega))))) (Eq.symm (show(o23.1.take o23.2.toNat).length=o23.2.toNat from(WQ rfl (uu (gp _ _) (show o23.2.toNat+(o23.1.length-o23.2.toNat)<=o23.1.length by have:=(zP g25);omega))))))) ?_)
    obtain rfl:=oi hm;refine q_rt (zQ ((o23.1.take o23.2.toNat),(o23.1.take o23.2.toNat)) ?_);exact q_rm
   ·refine q_sk (q_vv [] 1 [3,25] [(3,vi (w64 (x4+1)))] ?_);exact q_hl (KO l3 l3.length (w64 (x4+1))) (ih l3 l3.length (w64 (x4+1)) _ rfl hm)
  ·refine q_ex 0 ?_;obtain rfl:=oi hm;exact q_l1 l3
theorem qE2 (a1:List qA) (r:(List qA)×(List qA)) (hm:QG a1=some r):CtX Tryz.prog globs 232 1 1 [.one (.own 0 0 2 a1.length)] [(0,ro 0 93 2 a1.length (rf qF a1))] (JV a1 r) (JT a1 r):=by
 unfold QG at hm;refine q_E f232 61 λE=>?_;refine s_vn [] 1 ⟨[(0,vo 0 0 2 a1.length)],[(0,ro 0 93 2 a1.length (rf qF a1))]⟩ (q_sq ?_);refine s_va 1 [(8,vb (decide ((a1.length:Int)<2)))] (q_cq hm (λhm=>?_) (λhm=>?_))
 ·refine s_vv [] 1 [0,8] [(2,vo 0 0 2 a1.length)] ?_;obtain rfl:=oi hm;exact q_rt q_rm
 ·refine q_sk (q_sq ?_);refine s_vv [] 1 [8] [(3,vi 1)] ?_;obtain⟨u30,h29,hm⟩:=qC hm;refine zY (nd f232 116) 0 (by kernel_rfl) FUEL NW (λv st=>RetQ Tryz.prog f232 (JV a1 v) (JT a1 v) .ret st) u30 (q_hl (KO a1 a1.length 1) (qC8 E a1 FUEL a1 a1.length 1 u30 rfl h29)) ?_ ?_
  ·rintro v31 rfl st hr;obtain rfl:=oi hm;exact hr
  ·rintro o28 rfl;replace hm:_=some r:=hm;refine s_vv [] 1 [0] [(2,vo 0 0 2 o28.length)] ?_;obtain rfl:=oi hm;exact q_rt q_rm
end Saw
end Go.SL

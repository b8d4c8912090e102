import Derived.Test.YtigmogcdifllhaaGreatDoorEBase
import Derived.Test.YtigmogcdifllhaaGreatDoorEFa2
import Derived.Test.YtigmogcdifllhaaGreatDoorEFa1
import Derived.Test.YtigmogcdifllhaaGreatDoorYa6
import Derived.Test.YtigmogcdifllhaaGreatDoorPCmp
import Derived.Ground.SlsfProg
set_option linter.unusedVariables false
set_option linter.unusedSimpArgs false
namespace Go.SL
namespace Saw
open Go.Proofs Go.Proofs.Tryz
set_option maxHeartbeats 4000000
set_option maxRecDepth 100000
def qJt (r:(List qA)×Int):V:= .tup [.one (.own 0 0 2 r.1.length),.one (ci r.2)]
def IC (r:(List qA)×Int):List (Nat×(Nat×O)):=[(0,ro 0 93 2 r.1.length (rf qF r.1))]
theorem qSI (r:(List qA)×Int):ZE (IC r):=by
 intro i k o h;unfold IC at h;rw[look_cons] at h;split at h
 ·cases h;exact λ_ _=>rfl
 ·cases h
def LX (a1:Ring) (v6:(List Int)) (x16:Int):St:=
 ⟨[(2,vp 0 0),(7,vo 1 0 1 v6.length),(45,vo 1 0 1 v6.length),(46,vi (v6.length:Int)),(47,vi x16)],[(0,bx 71 (qX a1)),(1,ro 0 3 1 v6.length (rf qD v6))]⟩
def OY (a1:Ring) (v6:(List Int)) (x16:Int) (v24:Int) (l26:List qA) (l26n:Nat) (x27:Int):St:=
 (LX a1 v6 x16).up [] [(10,vo 2 0 2 l26n),(12,vi (v6.getD x16.toNat dd)),(13,vp 3 0),(14,vp 4 0),(15,vi v24),(16,vi x27)] [] [(2,ro 0 93 2 l26n (rf qF l26)),(3,bx 93 (qF ((a1.Read.getD (v6.getD x16.toNat dd).toNat dd).P))),(4,bx 93 (qF ((a1.Read.getD (v6.getD ((Int.tmod (w64 (x16+1)) (v6.length:Int)).toNat) dd).toNat dd).P)))]
def qEK (a1:Ring) (v6:(List Int)) (x16:Int) (l35:List qA):St:=
 (LX a1 v6 x16).up [] [(10,vo 2 0 2 l35.length)] [] [(2,ro 0 93 2 l35.length (rf qF l35))]
def IY (a1:Ring) (v6:(List Int)) (l15:List qA) (l15n:Nat) (x16:Int):St:=
 (LX a1 v6 x16).up [] [(10,vo 2 0 2 l15n)] [] [(2,ro 0 93 2 l15n (rf qF l15))]
def qFt (l38:List qA):St:=
 ⟨[(10,vo 2 0 2 l38.length)],[(2,ro 0 93 2 l38.length (rf qF l38))]⟩
def qNT (a1:Ring) (v6:(List Int)) (x12:Bool):St:=
 ⟨[(2,vp 0 0),(7,vo 1 0 1 v6.length),(40,vb x12)],[(0,bx 71 (qX a1)),(1,ro 0 3 1 v6.length (rf qD v6))]⟩
theorem qLO (E:Env 0) (a1:Ring) (v6:(List Int)) (x16:Int) (v24:Int):∀(n:Nat) (l26:List qA) (l26n:Nat) (x27:Int) (res:(List qA)),l26.length=l26n->PO a1 v6 x16 v24 n l26 x27=some res->HL (kx E 121 0) (nd f88 4171388) (zL 2 (λo=>qEK a1 v6 x16 o) res) n (OY a1 v6 x16 v24 l26 l26n x27):=by
 intro n
 induction n with
 |zero=>
  intro l26 l26n x27 res hl0 hm;cases hm
 |succ n ih=>
  intro l26 l26n x27 res hl0 hm;subst hl0;refine qS (q_sq ?_);refine s_va 5 [(81,vb (decide (x27<=v24)))] (q_cq hm (λhm=>?_) (λhm=>?_))
  ·refine q_sk (q_sq ?_);refine q_bk 3 ?_;obtain⟨g29,hm⟩:=qJ hm;obtain⟨v30,h31,hm⟩:=qC hm;obtain⟨v32,h33,hm⟩:=qC hm;obtain⟨g34,hm⟩:=qJ hm
   refine q_du [qd 6 dN (IM g29),qc 18 [99,101] 5 (qJl (w64 ((w64 ((((a1.Read.getD (v6.getD ((Int.tmod (w64 (x16+1)) (v6.length:Int)).toNat) dd).toNat dd).P).X)-(((a1.Read.getD (v6.getD x16.toNat dd).toNat dd).P).X)))*x27)) (w64 (v24+1)) v30 h31),qc 31 [112,114] 5 (qJl (w64 ((w64 ((((a1.Read.getD (v6.getD ((Int.tmod (w64 (x16+1)) (v6.length:Int)).toNat) dd).toNat dd).P).Y)-(((a1.Read.getD (v6.getD x16.toNat dd).toNat dd).P).Y)))*x27)) (w64 (v24+1)) v32 h33),qi 34 g34,qd 35 (drw 0 0 (rf qF (l26.set ((Int.tmod (w64 ((v6.getD x16.toNat dd)+x27)) (l26.length:Int)).toNat) (qA.mk (w64 ((((a1.Read.getD (v6.getD x16.toNat dd).toNat dd).P).X)+v30)) (w64 ((((a1.Read.getD (v6.getD x16.toNat dd).toNat dd).P).Y)+v32)))))) (stP qF dd (qA.mk (w64 ((((a1.Read.getD (v6.getD x16.toNat dd).toNat dd).P).X)+v30)) (w64 ((((a1.Read.getD (v6.getD x16.toNat dd).toNat dd).P).Y)+v32))) l26 l26.length ((Int.tmod (w64 ((v6.getD x16.toNat dd)+x27)) (l26.length:Int)).toNat) 0 [ci (w64 ((((a1.Read.getD (v6.getD x16.toNat dd).toNat dd).P).X)+v30)),ci (w64 ((((a1.Read.getD (v6.getD x16.toNat dd).toNat dd).P).Y)+v32))] rfl (qW (zC g34)) rfl)] [0,0,0,6,0,16,62,0,128,0,512,0,2048,7680,0,32256,0,65536,261632,524160,0,1048576,0,4194304,0,16777216,62914560,0,264241152,0,536870912,2143813120,4294442496,8589934464,17179869183,34359738367] 5 [81] [] [2] [(2,ro 0 93 2 l26.length (rf qF (l26.set ((Int.tmod (w64 ((v6.getD x16.toNat dd)+x27)) (l26.length:Int)).toNat) (qA.mk (w64 ((((a1.Read.getD (v6.getD x16.toNat dd).toNat dd).P).X)+v30)) (w64 ((((a1.Read.getD (v6.getD x16.toNat dd).toNat dd).P).Y)+v32))))))] ?_
   exact q_vv [] 5 [16] [(16,vi (w64 (x27+1)))] (q_hl (OY a1 v6 x16 v24 (l26.set ((Int.tmod (w64 ((v6.getD x16.toNat dd)+x27)) (l26.length:Int)).toNat) (qA.mk (w64 ((((a1.Read.getD (v6.getD x16.toNat dd).toNat dd).P).X)+v30)) (w64 ((((a1.Read.getD (v6.getD x16.toNat dd).toNat dd).P).Y)+v32)))) l26.length (w64 (x27+1))) (ih (l26.set ((Int.tmod (w64 ((v6.getD x16.toNat dd)+x27)) (l26.length:Int)).toNat) (qA.mk (w64 ((((a1.Read.getD (v6.getD x16.toNat dd).toNat dd).P).X)+v30)) (w64 ((((a1.Read.getD (v6.getD x16.toNat dd).toNat dd).P).Y)+v32)))) l26.length (w64 (x27+1)) _ (QC rfl) hm))
  ·refine q_ex 2 ?_;obtain rfl:=oi hm;exact q_l0
theorem qLQ (E:Env 0) (a1:Ring) (v6:(List Int)):∀(n:Nat) (l15:List qA) (l15n:Nat) (x16:Int) (res:(List qA)),l15.length=l15n->YD a1 v6 n l15 x16=some res->HL (kx E 121 0) (nd f88 2036) (zL 0 qFt res) n (IY a1 v6 l15 l15n x16):=by
 intro n
 induction n with
 |zero=>
  intro l15 l15n x16 res hl0 hm;cases hm
 |succ n ih=>
  intro l15 l15n x16 res hl0 hm;subst hl0;refine qS (s_va 3 [(48,vb (decide (x16<(v6.length:Int))))] ?_);refine q_sq (q_cq hm (λhm=>?_) (λhm=>?_))
  ·refine q_sk (q_sq ?_);refine q_bk 1 ?_;obtain⟨g18,hm⟩:=qJ hm;refine s_vv [qi 1 g18,qd 2 dN (qW (zC g18))] 3 [48] [(11,vi x16),(12,vi (v6.getD x16.toNat dd))] ?_;obtain⟨g19,hm⟩:=qJ hm;obtain⟨g20,hm⟩:=qJ hm;obtain⟨g21,hm⟩:=qJ hm;obtain⟨g22,hm⟩:=qJ hm
   refine s_du [qi 3 g19,qd 13 dN (IM g20),qi 14 g21,qd 15 dN (qW (zC g21)),qi 16 g22] [0,1,0,7,15,31,0,64,0,0,512,0,2048,7680,16128,32512,65472,131008,262080,0,0,1572927,4194303] 3 [] [(13,vp 3 0),(14,vp 4 0)] [] [(3,bx 93 (qF ((a1.Read.getD (v6.getD x16.toNat dd).toNat dd).P))),(4,bx 93 (qF ((a1.Read.getD (v6.getD ((Int.tmod (w64 (x16+1)) (v6.length:Int)).toNat) dd).toNat dd).P)))] ?_;obtain⟨g23,hm⟩:=qJ hm
   refine s_vu [qi 3 g23,qd 4 (drw 0 0 (rf qF (l15.set ((v6.getD x16.toNat dd).toNat) ((a1.Read.getD (v6.getD x16.toNat dd).toNat dd).P)))) (stP qF dd ((a1.Read.getD (v6.getD x16.toNat dd).toNat dd).P) l15 l15.length ((v6.getD x16.toNat dd).toNat) 0 [ci (((a1.Read.getD (v6.getD x16.toNat dd).toNat dd).P).X),ci (((a1.Read.getD (v6.getD x16.toNat dd).toNat dd).P).Y)] rfl (qW (zC g23)) rfl)] 5 [] [] [2] [(2,ro 0 93 2 l15.length (rf qF (l15.set ((v6.getD x16.toNat dd).toNat) ((a1.Read.getD (v6.getD x16.toNat dd).toNat dd).P))))] ?_;obtain⟨v24,h25,hm⟩:=qC hm
   refine s_vv [qd 3 (dex (cen [] [] 5 0 (qDm v24) (BS v24) [75,76,77] [1])) (wK (K:=(kx E 121 0)) (b:=false) ⟨[(75,va (qX a1)),(76,vo 1 0 1 v6.length),(77,vi x16)],[(1,ro 0 3 1 v6.length (rf qD v6))]⟩ (opAt (rg f88 521422) 3) [] [] 5 (o1 (ke v6.length)) rfl (qHG a1 v6 x16 v24 h25) (.inr ⟨(by kernel_rfl),qJn v24⟩) (by kernel_rfl))] 5 [11] [(15,vi v24)] (s_va 5 [(16,vi 1)] ?_);obtain⟨o36,h37,hm⟩:=qC hm
   refine zG (nd f88 4171388) 2 (by kernel_rfl) FUEL (λo=>qEK a1 v6 x16 o) o36 (q_hl (OY a1 v6 x16 v24 (l15.set ((v6.getD x16.toNat dd).toNat) ((a1.Read.getD (v6.getD x16.toNat dd).toNat dd).P)) l15.length 1) (qLO E a1 v6 x16 v24 FUEL (l15.set ((v6.getD x16.toNat dd).toNat) ((a1.Read.getD (v6.getD x16.toNat dd).toNat dd).P)) l15.length 1 o36 (QC rfl) h37)) (q_vv [] 5 [47] [(47,vi (w64 (x16+1)))] ?_);exact q_hl (IY a1 v6 o36 o36.length (w64 (x16+1))) (ih o36 o36.length (w64 (x16+1)) _ rfl hm)
  ·refine q_ex 0 ?_;obtain rfl:=oi hm;exact q_l0
theorem qQY (a1:Ring) (a2:Int) (r:(List qA)×Int) (hm:AU a1 a2=some r):CtX Tryz.prog globs 88 0 0 [.agg (qX a1),.one (ci a2)] [] (qJt r) (IC r):=by
 unfold AU at hm;refine q_E f88 121 λE=>?_;refine s_vn [] 0 ⟨[(1,vi a2),(2,vp 0 0)],[(0,bx 71 (qX a1))]⟩ (q_sq ?_);obtain⟨v3,h4,hm⟩:=qC hm;refine s_vv [qc 1 [17] 1 (IF a1 v3 h4)] 1 [] [(6,vi v3)] (s_va 1 [(20,vb (v3 !=0))] ?_);refine q_cq hm (λhm=>?_) (λhm=>?_)
 ·refine s_vn [] 1 ⟨[(4,vc (.emp)),(5,vi v3)],[]⟩ (q_fo 4 1 93 2 qF ?_);refine q_fl 4 1 93 2 qF ?_;obtain rfl:=oi hm;exact q_sw 1 0 (q_rt q_rm)
 ·refine q_sk ?_;obtain⟨v6,h7,hm⟩:=qC hm;refine s_vu [qc 1 [22] 1 (ON a1 v6 h7)] 1 [6,20] [(7,vo 1 0 1 v6.length)] [] [(1,ro 0 3 1 v6.length (rf qD v6))] ?_;obtain⟨v8,h9,hm⟩:=qC hm;refine s_vv [qc 1 [25] 2 (qUe a1 v8 h9)] 2 [] [(8,vi v8.1),(9,vi v8.2)] (q_sq ?_);refine q_jn (qNT a1 v6) (λp=>GZ a1 v6 p=some r) ?_ ?_
  ·rintro x12 hm;refine q_cq hm (λhm=>?_) (λhm=>?_)
   ·refine s_vn [] 2 ⟨[(4,vc (.emp)),(5,vi 30)],[]⟩ (q_fo 4 2 93 2 qF ?_);refine q_fl 4 2 93 2 qF ?_;obtain rfl:=oi hm;exact q_sw 2 0 (q_rt q_rm)
   ·refine q_sk ?_;obtain⟨g14,hm⟩:=qJ hm;refine s_vu [qd 3 (drw 2 0 (rf qF (List.replicate ((a1.Read.length:Int).toNat) (qA.mk 0 0)))) (mkP qF dd (qA.mk 0 0) (a1.Read.length:Int) 16 [ci 0,ci 0] (VQ g14) rfl)] 2 [40] [(10,vo 2 0 2 ((a1.Read.length:Int).toNat))] [] [(2,ro 0 93 2 ((a1.Read.length:Int).toNat) (rf qF (List.replicate ((a1.Read.length:Int).toNat) (qA.mk 0 0))))] (q_sq ?_);refine s_va 3 [(45,vo 1 0 1 v6.length),(46,vi (v6.length:Int)),(47,vi 0)] ?_;obtain⟨o39,h40,hm⟩:=qC hm
    refine zG (nd f88 2036) 0 (by kernel_rfl) FUEL qFt o39 (q_hl (IY a1 v6 (List.replicate ((a1.Read.length:Int).toNat) (qA.mk 0 0)) ((a1.Read.length:Int).toNat) 0) (qLQ E a1 v6 FUEL (List.replicate ((a1.Read.length:Int).toNat) (qA.mk 0 0)) ((a1.Read.length:Int).toNat) 0 o39 GU h40)) (s_vv [] 3 [10] [(4,vo 2 0 2 o39.length),(5,vi 0)] ?_);obtain rfl:=oi hm;exact q_sw 2 0 (q_rt q_rm)
  ·rcases bif_c hm with⟨b10,hm⟩|⟨b10,hm⟩
   ·exact q_vv [qf 3 b10] 2 [1,8,9] [(40,vb true)] (q_J (true) hm)
   ·rcases bif_c hm with⟨b11,hm⟩|⟨b11,hm⟩
    ·exact q_vv [qf 3 b10,qf 6 b11] 2 [1,8,9] [(40,vb (decide (v8.2>a2)))] (q_J (decide (v8.2>a2)) hm)
    ·exact q_vv [qf 3 b10,qf 6 b11] 2 [1,8,9] [(40,vb false)] (q_J (false) hm)
def qSB (r:Bool):V:=vb r
def qS6 (r:Bool):List (Nat×(Nat×O)):=[]
def qNA (x3:Bool):St:=
 ⟨[(2,vb x3)],[]⟩
theorem qBw (a1:Int) (r:Bool) (hm:NT a1=some r):CtX Tryz.prog globs 226 0 0 [.one (ci a1)] [] (qSB r) (qS6 r):=by
 unfold NT at hm;refine q_E f226 9 λE=>?_;refine s_vn [] 0 ⟨[(0,vi a1)],[]⟩ (q_jn (qNA) (λp=>SC p=some r) ?_ ?_)
 ·rintro x3 hm;obtain rfl:=oi hm;exact q_rt q_rm
 ·rcases bif_c hm with⟨b2,hm⟩|⟨b2,hm⟩
  ·exact q_vn [qf 2 b2] 0 ⟨[(2,vb (decide (a1<=600)))],[]⟩ (q_J (decide (a1<=600)) hm)
  ·exact q_vn [qf 2 b2] 0 ⟨[(2,vb false)],[]⟩ (q_J (false) hm)
def qCb (r:Bool):V:=vb r
def qBB (r:Bool):List (Nat×(Nat×O)):=[]
def qMd (a1:List qA) (x2:Int) (x10:Bool):St:=
 ⟨[(5,vc (tl qF dd a1)),(6,vi (a1.length:Int)),(7,vi x2),(20,vb x10)],[]⟩
def EN (a1:List qA) (x2:Int):St:=
 ⟨[(5,vc (tl qF dd a1)),(6,vi (a1.length:Int)),(7,vi x2)],[]⟩
def qDU :St:=
 ⟨[],[]⟩
theorem qKx (E:Env 0) (a1:List qA):∀(n:Nat) (x2:Int) (res:Bool⊕Unit),JA a1 n x2=some res->HL (kx E 22 0) (nd f199 52) (wL 0 (λo=>qDU) (λv st=>RetQ Tryz.prog f199 (qCb v) (qBB v) .ret st) res) n (EN a1 x2):=by
 intro n
 induction n with
 |zero=>
  intro x2 res hm;cases hm
 |succ n ih=>
  intro x2 res hm;refine qS (s_va 0 [(8,vb (decide (x2<(a1.length:Int))))] ?_);refine q_sq (q_cq hm (λhm=>?_) (λhm=>?_))
  ·refine q_sk (q_sq ?_);refine q_bk 1 ?_;obtain⟨g4,hm⟩:=qJ hm;refine s_vu [qi 0 g4] 0 [8] [(4,vp 0 0)] [] [(0,bx 93 (qF (a1.getD x2.toNat dd)))] (q_jn (qMd a1 x2) (λp=>FU x2 (JA a1 n) p=some res) ?_ ?_)
   ·rintro x10 hm;refine q_cq hm (λhm=>?_) (λhm=>?_)
    ·refine s_vn [] 1 ⟨[(2,vb false)],[]⟩ ?_;obtain rfl:=oi hm;refine q_rt (zJ false ?_);exact q_rm
    ·refine q_sk (q_vv [] 1 [7,20] [(7,vi (w64 (x2+1)))] ?_);exact q_hl (EN a1 (w64 (x2+1))) (ih (w64 (x2+1)) _ hm)
   ·obtain⟨v5,h6,hm⟩:=qC hm;rcases bif_c hm with⟨b7,hm⟩|⟨b7,hm⟩
    ·exact q_vu [qc 2 [12] 1 (qBw ((a1.getD x2.toNat dd).X) v5 h6),qf 4 b7] 1 [4] [(20,vb true)] [0] [] (q_J (true) hm)
    ·obtain⟨v8,h9,hm⟩:=qC hm;exact q_vu [qc 2 [12] 1 (qBw ((a1.getD x2.toNat dd).X) v5 h6),qf 4 b7,qk 7 [15,17] 1 ⟨[(15,vb false),(17,vi ((a1.getD x2.toNat dd).Y))],[]⟩ (qBw ((a1.getD x2.toNat dd).Y) v8 h9)] 1 [4] [(20,vb (!v8))] [0] [] (q_J (!v8) hm)
  ·refine q_ex 0 ?_;obtain rfl:=oi hm;exact q_l1 ()
theorem qAw (a1:List qA) (r:Bool) (hm:RF a1=some r):CtX Tryz.prog globs 199 0 0 [.one (tl qF dd a1)] [] (qCb r) (qBB r):=by
 unfold RF at hm;refine q_E f199 22 λE=>?_;refine s_vn [] 0 ⟨[(0,vc (tl qF dd a1))],[]⟩ (q_sq ?_);refine s_vn [] 0 ⟨[(5,vc (tl qF dd a1)),(6,vi (a1.length:Int)),(7,vi 0)],[]⟩ ?_;obtain⟨u14,h13,hm⟩:=qC hm;refine zO (nd f199 52) 0 (by kernel_rfl) FUEL (λo=>qDU) (λv st=>RetQ Tryz.prog f199 (qCb v) (qBB v) .ret st) u14 (q_hl (EN a1 0) (qKx E a1 FUEL 0 u14 h13)) ?_ ?_
 ·rintro v15 rfl st hr;obtain rfl:=oi hm;exact hr
 ·rintro o12 rfl;replace hm:_=some r:=hm;refine s_vn [] 0 ⟨[(2,vb true)],[]⟩ ?_;obtain rfl:=oi hm;exact q_rt q_rm
open Go.Proofs Go.Proofs.Tryz
def qTP (r:Int):V:=vi r
def qUd (r:Int):List (Nat×(Nat×O)):=[]
def qAX (a1:List qA) (x7:Int) (x8:Int):St:=
 ⟨[(0,vc (tl qF dd a1)),(3,vi x7),(15,vc (tl qF dd a1)),(16,vi (a1.length:Int)),(17,vi x8)],[]⟩
def qGO (x13:Int):St:=
 ⟨[(3,vi x13)],[]⟩
def qOU (a1:List qA) (x5:Bool):St:=
 ⟨[(0,vc (tl qF dd a1)),(14,vb x5)],[]⟩
theorem qNv (E:Env 0) (a1:List qA):∀(n:Nat) (x7:Int) (x8:Int) (res:Int),TC a1 n x7 x8=some res->HL (kx E 45 0) (nd f200 244) (zL 0 qGO res) n (qAX a1 x7 x8):=by
 intro n
 induction n with
 |zero=>
  intro x7 x8 res hm;cases hm
 |succ n ih=>
  intro x7 x8 res hm;refine qS (s_va 0 [(18,vb (decide (x8<(a1.length:Int))))] ?_);refine q_sq (q_cq hm (λhm=>?_) (λhm=>?_))
  ·refine q_sk (q_sq ?_);refine q_bk 1 ?_;obtain⟨g10,hm⟩:=qJ hm;refine s_vu [qi 1 g10] 0 [18] [(4,vi x8),(5,vp 0 0)] [] [(0,bx 93 (qF (a1.getD x8.toNat dd)))] ?_;obtain⟨g11,hm⟩:=qJ hm;obtain⟨g12,hm⟩:=qJ hm;refine s_vu [qd 5 dN (IM g11),qi 6 g12] 1 [4] [(6,vp 1 0)] [] [(1,bx 93 (qF (a1.getD (Int.tmod (w64 (x8+1)) (a1.length:Int)).toNat dd)))] (q_vu [] 2 [3,5,6] [(3,vi (w64 (x7+(w64 ((w64 (((a1.getD x8.toNat dd).X)*((a1.getD (Int.tmod (w64 (x8+1)) (a1.length:Int)).toNat dd).Y)))-(w64 (((a1.getD (Int.tmod (w64 (x8+1)) (a1.length:Int)).toNat dd).X)*((a1.getD x8.toNat dd).Y))))))))] [0,1] [] ?_)
   exact q_vv [] 2 [17] [(17,vi (w64 (x8+1)))] (q_hl (qAX a1 (w64 (x7+(w64 ((w64 (((a1.getD x8.toNat dd).X)*((a1.getD (Int.tmod (w64 (x8+1)) (a1.length:Int)).toNat dd).Y)))-(w64 (((a1.getD (Int.tmod (w64 (x8+1)) (a1.length:Int)).toNat dd).X)*((a1.getD x8.toNat dd).Y))))))) (w64 (x8+1))) (ih (w64 (x7+(w64 ((w64 (((a1.getD x8.toNat dd).X)*((a1.getD (Int.tmod (w64 (x8+1)) (a1.length:Int)).toNat dd).Y)))-(w64 (((a1.getD (Int.tmod (w64 (x8+1)) (a1.length:Int)).toNat dd).X)*((a1.getD x8.toNat dd).Y))))))) (w64 (x8+1)) _ hm))
  ·refine q_ex 0 ?_;obtain rfl:=oi hm;exact q_l0
theorem qS9 (a1:List qA) (r:Int) (hm:qAF a1=some r):CtX Tryz.prog globs 200 0 0 [.one (tl qF dd a1)] [] (qTP r) (qUd r):=by
 unfold qAF at hm;refine q_E f200 45 λE=>?_;refine s_vn [] 0 ⟨[(0,vc (tl qF dd a1))],[]⟩ (q_sq ?_);refine q_jn (qOU a1) (λp=>IQ a1 p=some r) ?_ ?_
 ·rintro x5 hm;refine q_cq hm (λhm=>?_) (λhm=>?_)
  ·refine s_vn [] 0 ⟨[(2,vi 0)],[]⟩ ?_;obtain rfl:=oi hm;exact q_rt q_rm
  ·refine q_sk (s_vv [] 0 [14] [(3,vi 0)] ?_);refine q_sq (s_va 0 [(15,vc (tl qF dd a1)),(16,vi (a1.length:Int)),(17,vi 0)] ?_);obtain⟨o14,h15,hm⟩:=qC hm;refine zG (nd f200 244) 0 (by kernel_rfl) FUEL qGO o14 (q_hl (qAX a1 0 0) (qNv E a1 FUEL 0 0 o14 h15)) (s_vn [] 0 ⟨[(2,vi o14)],[]⟩ ?_);obtain rfl:=oi hm;exact q_rt q_rm
 ·rcases bif_c hm with⟨b2,hm⟩|⟨b2,hm⟩
  ·exact q_vv [qf 3 b2] 0 [] [(14,vb true)] (q_J (true) hm)
  ·obtain⟨v3,h4,hm⟩:=qC hm;exact q_vv [qf 3 b2,qk 5 [10,11] 0 ⟨[(10,vb false),(11,vc (tl qF dd a1))],[]⟩ (qAw a1 v3 h4)] 0 [] [(14,vb (!v3))] (q_J (!v3) hm)
def qUO (r:Int):V:=vi r
def qT8 (r:Int):List (Nat×(Nat×O)):=[]
theorem qSY (a1:List qA) (r:Int) (hm:qAE a1=some r):CtX Tryz.prog globs 151 0 0 [.one (tl qF dd a1)] [] (qUO r) (qT8 r):=by
 unfold qAE at hm;refine q_E f151 19 λE=>?_;refine s_vn [] 0 ⟨[(0,vc (tl qF dd a1))],[]⟩ (q_sq ?_);refine q_bk 0 (s_va 0 [(3,vb (decide ((a1.length:Int)<3)))] ?_);refine q_cq hm (λhm=>?_) (λhm=>?_)
 ·refine s_vn [] 0 ⟨[(2,vi 3)],[]⟩ ?_;obtain rfl:=oi hm;exact q_rt q_rm
 ·refine s_vv [] 0 [3] [(7,vb (decide ((a1.length:Int)>32)))] (q_cq hm (λhm=>?_) (λhm=>?_))
  ·refine s_vn [] 0 ⟨[(2,vi 4)],[]⟩ ?_;obtain rfl:=oi hm;exact q_rt q_rm
  ·obtain⟨v4,h5,hm⟩:=qC hm;refine s_vv [qc 1 [12] 0 (qAw a1 v4 h5)] 0 [7] [(11,vb (!v4))] (q_cq hm (λhm=>?_) (λhm=>?_))
   ·refine s_vn [] 0 ⟨[(2,vi 9)],[]⟩ ?_;obtain rfl:=oi hm;exact q_rt q_rm
   ·obtain⟨v7,h8,hm⟩:=qC hm;refine s_vn [qc 1 [16] 0 (qS9 a1 v7 h8)] 0 ⟨[(15,vb (v7==0))],[]⟩ (q_cq hm (λhm=>?_) (λhm=>?_))
    ·refine s_vn [] 0 ⟨[(2,vi 19)],[]⟩ ?_;obtain rfl:=oi hm;exact q_rt q_rm
    ·refine q_sk (s_vn [] 0 ⟨[(2,vi 0)],[]⟩ ?_);obtain rfl:=oi hm;exact q_rt q_rm
def qLU (r:Span):V:=va (qK r)
def qLw (r:Span):List (Nat×(Nat×O)):=[]
theorem HF (a1:Int) (a2:Int) (r:Span) (hm:XK a1 a2=some r):CtX Tryz.prog globs 153 0 0 [.one (ci a1),.one (ci a2)] [] (qLU r) (qLw r):=by
 unfold XK at hm;refine q_E f153 10 λE=>?_;refine s_vn [] 0 ⟨[(0,vi a1),(1,vi a2),(4,vp 0 0)],[(0,bx 53 [ci 0,ci 0])]⟩ (s_vu [] 1 [0,1] [] [0] [(0,bx 53 [ci (w64 (10*a1)),ci (w64 (10*a2))])] ?_);obtain rfl:=oi hm;exact q_rt q_rm
open Go.Proofs Go.Proofs.Tryz
def qHn (r:List qA):V:=vo 0 0 2 r.length
def qHE (r:List qA):List (Nat×(Nat×O)):=[(0,ro 0 93 2 r.length (rf qF r))]
theorem qGS (a1:List qA) (r:List qA) (hm:JV a1=some r):CtX Tryz.prog globs 227 0 0 [.one (tl qF dd a1)] [] (qHn r) (qHE r):=by
 unfold JV at hm;obtain⟨g1,hm⟩:=qJ hm;obtain rfl:=kC hm;refine qBC (fn:=f227) (c:=nd f227 1) (nt:=8) (by kernel_rfl) (by kernel_rfl) (by kernel_rfl) (by kernel_rfl) λE=>?_;refine R_sq f227 2 3 (by kernel_rfl) (R_rn f227 2 0 [] [] 0 ⟨[(0,vc (tl qF dd a1))],[]⟩ o0 (by kernel_rfl) (by kernel_rfl) ?_);refine R_sq f227 6 7 (by kernel_rfl) (R_sq f227 12 13 (by kernel_rfl) ?_);refine qPy f227 12 1 1 ⟨[(0,vc (tl qF dd a1)),(3,vc (tl qF dd a1))],[]⟩ 111 111 93 4 (.tmp 3) a1.length (rf qF a1) (by kernel_rfl) (by kernel_rfl) (by kernel_rfl) (λb hb=>?_)
 refine R_cn f227 (.tmp 4) 26 27 (by kernel_rfl) b (by kernel_rfl) (λb6=>?_) (λb6=>?_)
 ·obtain rfl:a1=[]:=ue (hb b6);refine R_sq f227 52 53 (by kernel_rfl) (R_rn f227 52 2 [] [.own 2 0 93 2 (rf qF [])] 0 ⟨[(2,vo 0 0 2 0)],[(0,ro 0 93 2 0 (rf qF []))]⟩ o0 (by kernel_rfl) (by kernel_rfl) ?_);exact qAp (by kernel_rfl) (HI (by kernel_rfl) (by kernel_rfl))
 ·refine qHJ (by kernel_rfl) (R_sq f227 14 15 (by kernel_rfl) ?_);refine R_rn f227 14 3 [(0,drw 0 0 (rf qF [])),(2,drw 0 1 (rf qF ([]++a1)))] [.len 0 a1.length] 0 ⟨[(2,vo 0 1 2 a1.length)],[(0,ro 1 93 2 a1.length (rf qF ([]++a1)))]⟩ (o1 (And.intro (And.intro (litP qF dd 2 (λ_=>rfl) ([]:List qA) 0 rfl) (apP qF dd ([]:List qA) a1 0 a1.length 2 16 True trivial rfl rfl (λ_=>rfl) (by have:=wA g1;rw[kz];exact this))) (And.intro (And.intro (kz a1.length) (kz a1.length)) (kz a1.length)))) (by kernel_rfl) (by kernel_rfl) (qAp (by kernel_rfl) ?_);exact HI (by kernel_rfl) (by kernel_rfl)
def qPB (r:Bool):V:=vb r
def qO8 (r:Bool):List (Nat×(Nat×O)):=[]
theorem qDO (a1:Int) (r:Bool) (hm:NK a1=some r):CtX Tryz.prog (markG::globs) 254 0 0 [.one (ci a1)] [] (qPB r) (qO8 r):=by
 unfold NK at hm;refine q_T f254 6 λE=>?_;refine s_vn [] 0 ⟨[(0,vi a1)],[]⟩ (s_vn [] 0 ⟨[(2,vb (a1 !=a1))],[]⟩ ?_);obtain rfl:=oi hm;exact q_rt q_rm
def qLD (r:Int):V:=vi r
def qLW (r:Int):List (Nat×(Nat×O)):=[]
theorem qBa (a1:Int) (a2:Int) (r:Int) (hm:XI a1 a2=some r):CtX Tryz.prog (markG::globs) 231 0 0 [.one (ci a1),.one (ci a2)] [] (qLD r) (qLW r):=by
 unfold XI at hm;refine q_T f231 20 λE=>?_;refine s_vn [] 0 ⟨[(0,vi a1),(1,vi a2)],[]⟩ ?_;obtain⟨v3,h4,hm⟩:=qC hm;refine s_vv [qc 1 [7] 0 (qDO a1 v3 h4)] 0 [] [(5,vb v3)] ?_;obtain⟨v5,h6,hm⟩:=qC hm;refine s_vv [qc 1 [9] 0 (qDO a2 v5 h6)] 0 [] [(6,vb v5)] (q_sq ?_);refine s_vv [] 0 [5] [(11,vb v3)] (q_cq hm (λhm=>?_) (λhm=>?_))
 ·refine q_sq (s_vn [] 0 ⟨[(12,vb v5)],[]⟩ ?_);refine q_cq hm (λhm=>?_) (λhm=>?_)
  ·refine s_vn [] 0 ⟨[(4,vi 0)],[]⟩ ?_;obtain rfl:=oi hm;exact q_rt q_rm
  ·refine q_sk (s_vn [] 0 ⟨[(4,vi (-1))],[]⟩ ?_);obtain rfl:=oi hm;exact q_rt q_rm
 ·refine q_sk (q_sq ?_);refine s_vv [] 0 [6,11] [(13,vb v5)] (q_cq hm (λhm=>?_) (λhm=>?_))
  ·refine s_vn [] 0 ⟨[(4,vi 1)],[]⟩ ?_;obtain rfl:=oi hm;exact q_rt q_rm
  ·refine q_sk (q_sq ?_);refine s_vv [] 0 [13] [(16,vb (decide (a1<a2)))] (q_cq hm (λhm=>?_) (λhm=>?_))
   ·refine s_vn [] 0 ⟨[(4,vi (-1))],[]⟩ ?_;obtain rfl:=oi hm;exact q_rt q_rm
   ·refine q_sk (q_sq ?_);refine s_vn [] 0 ⟨[(19,vb (decide (a1>a2)))],[]⟩ (q_cq hm (λhm=>?_) (λhm=>?_))
    ·refine s_vn [] 0 ⟨[(4,vi 1)],[]⟩ ?_;obtain rfl:=oi hm;exact q_rt q_rm
    ·refine q_sk (s_vn [] 0 ⟨[(4,vi 0)],[]⟩ ?_);obtain rfl:=oi hm;exact q_rt q_rm
open Go.Proofs Go.Proofs.Tryz
def zbQ (r:Int):V:=vi r
def TO (r:Int):List (Nat×(Nat×O)):=[]
theorem qTb (r:Int):ZE (TO r):=by
 intro i k o h;unfold TO at h;cases h
def OF (a1:List Int) (x2:Int):St:=
 ⟨[(3,vi 0),(6,vc (tl qD dd a1)),(7,vi (a1.length:Int)),(8,vi x2)],[]⟩
def qFb :St:=
 ⟨[(3,vi 0)],[]⟩
theorem qKg (E:Env 0) (a1:List Int):∀(n:Nat) (x2:Int) (res:Int⊕Unit),PS a1 n x2=some res->HL (kt E 18 0) (nd f230 116) (wL 0 (λo=>qFb) (λv st=>RetQ Tryz.prog f230 (zbQ v) (TO v) .ret st) res) n (OF a1 x2):=by
 intro n
 induction n with
 |zero=>
  intro x2 res hm;cases hm
 |succ n ih=>
  intro x2 res hm;refine qS (s_va 0 [(9,vb (decide (x2<(a1.length:Int))))] ?_);refine q_sq (q_cq hm (λhm=>?_) (λhm=>?_))
  ·refine q_sk (q_sq ?_);refine q_bk 1 ?_;obtain⟨g4,hm⟩:=qJ hm;refine s_vv [qi 0 g4] 0 [9] [(5,vi (a1.getD x2.toNat dd))] (s_va 0 [(14,vb ((a1.getD x2.toNat dd) !=0))] ?_);refine q_cq hm (λhm=>?_) (λhm=>?_)
   ·refine s_vn [] 0 ⟨[(2,vi (a1.getD x2.toNat dd))],[]⟩ ?_;obtain rfl:=oi hm;refine q_rt (zJ (a1.getD x2.toNat dd) ?_);exact q_rm
   ·refine q_sk (q_vv [] 0 [5,8,14] [(8,vi (w64 (x2+1)))] ?_);exact q_hl (OF a1 (w64 (x2+1))) (ih (w64 (x2+1)) _ hm)
  ·refine q_ex 0 ?_;obtain rfl:=oi hm;exact q_l1 ()
theorem qQx (a1:List Int) (r:Int) (hm:AA a1=some r):CtX Tryz.prog (markG::globs) 230 0 0 [.one (tl qD dd a1)] [] (zbQ r) (TO r):=by
 unfold AA at hm;refine q_T f230 18 λE=>?_;refine s_vn [] 0 ⟨[(0,vc (tl qD dd a1))],[]⟩ (s_va 0 [(3,vi 0)] ?_);refine q_sq (s_vv [] 0 [0] [(6,vc (tl qD dd a1)),(7,vi (a1.length:Int)),(8,vi 0)] ?_);obtain⟨u8,h7,hm⟩:=qC hm;refine zO (nd f230 116) 0 (by kernel_rfl) FUEL (λo=>qFb) (λv st=>RetQ Tryz.prog f230 (zbQ v) (TO v) .ret st) u8 (q_hl (OF a1 0) (qKg E a1 FUEL 0 u8 h7)) ?_ ?_
 ·rintro v9 rfl st hr;obtain rfl:=oi hm;exact hr
 ·rintro o6 rfl;replace hm:_=some r:=hm;refine s_vn [] 0 ⟨[(2,vi 0)],[]⟩ ?_;obtain rfl:=oi hm;exact q_rt q_rm
def qS0 (r:Int):V:=vi r
def qSJ (r:Int):List (Nat×(Nat×O)):=[]
theorem qO0 (a1:qA) (a2:qA) (r:Int) (hm:poly_Hull_1 a1 a2=some r):CtX Tryz.prog (markG::globs) 229 0 0 [.agg (qF a1),.agg (qF a2)] [] (qS0 r) (qSJ r):=by
 unfold poly_Hull_1 at hm;refine q_T f229 17 λE=>?_;refine s_vn [] 0 ⟨[(2,vp 0 0),(3,vp 1 0)],[(0,bx 93 (qF a1)),(1,bx 93 (qF a2))]⟩ ?_;obtain⟨v3,h4,hm⟩:=qC hm;obtain⟨v5,h6,hm⟩:=qC hm;obtain⟨v7,h8,hm⟩:=qC hm
 refine s_dn [qc 4 [6,8] 2 (qBa a1.X a2.X v3 h4),qc 9 [11,13] 2 (qBa a1.Y a2.Y v5 h6),qd 10 (drw 2 0 (rf qD [v3,v5])) (litP qD dd 1 (λ_=>rfl) ([v3,v5]:List Int) 2 rfl),qd 11 (dex (cen [] [] 3 0 (zbQ v7) (TO v7) [15] [2])) (wK (K:=(kt E 17 0)) (xs':=[.one (.lst 2 (rf qD [v3,v5]))]) (b:=false) ⟨[(15,vo 2 0 1 2)],[(2,ro 0 3 1 2 (rf qD [v3,v5]))]⟩ (opAt (rg f229 6) 11) [] [] 3 (o1 (ke 2)) (by simp only[tl,rf,show([v3,v5]:List Int).length=2 from rfl]) (qQx ([v3,v5]:List Int) v7 h8) (.inr ⟨(by kernel_rfl),qTb v7⟩) (by kernel_rfl))] [0,1,0,4,15,0,32,0,128,511,1023,2047,4095] 2 ⟨[(4,vi v7)],[]⟩ ?_
 obtain rfl:=oi hm;exact q_rt q_rm
open Go.Proofs
def LB (a1:List qA) (r:List qA):V:= .undef
def LT (a1:List qA) (r:List qA):List (Nat×(Nat×O)):=[(0,ro 0 93 2 r.length (rf qF r))]
theorem lfB {α:Type} {o:Option α} {a b:α} (h:o=some a) (e:a=b:=by kernel_rfl):o=some b:=h.trans (congrArg some e)
def slices_SortFunc_SPoint_lay_ren :Go.Shelf.Ren:=⟨fun |6=>228|15=>213|14=>253|28=>247|29=>248|20=>269|21=>270|22=>271|23=>272|24=>273|25=>274|26=>275|27=>276|46=>288|47=>259|48=>260|49=>289|50=>290|57=>293|n=>n,fun |22=>111|24=>93|25=>256|3=>3|39=>246|0=>0|53=>267|55=>161|4=>4|46=>260|45=>259|50=>221|5=>5|9=>9|66=>274|70=>278|76=>294|77=>107|n=>n,fun n=>n⟩
theorem slices_SortFunc_SPoint_lay : Go.Proofs.SlLaysF0.n6 Tryz.prog slices_SortFunc_SPoint_lay_ren :={mixed:=by kernel_rfl,f6:=⟨Tryz.f228.name,by decide,lfB Tryz.func228⟩,f14:=⟨Tryz.f253.name,by decide,lfB Tryz.func253⟩,f15:=lfB Tryz.func213,f20:=⟨Tryz.f269.name,by decide,lfB Tryz.func269⟩,f21:=⟨Tryz.f270.name,by decide,lfB Tryz.func270⟩,f22:=⟨Tryz.f271.name,by decide,lfB Tryz.func271⟩,f23:=⟨Tryz.f272.name,by decide,lfB Tryz.func272⟩,f24:=⟨Tryz.f273.name,by decide,lfB Tryz.func273⟩,f25:=⟨Tryz.f274.name,by decide,lfB Tryz.func274⟩,f26:=⟨Tryz.f275.name,by decide,lfB Tryz.func275⟩,f27:=⟨Tryz.f276.name,by decide,lfB Tryz.func276⟩,f28:=lfB Tryz.func247,f29:=lfB Tryz.func248,f46:=⟨Tryz.f288.name,by decide,lfB Tryz.func288⟩,f47:=lfB Tryz.func259,f48:=lfB Tryz.func260,f49:=⟨Tryz.f289.name,by decide,lfB Tryz.func289⟩,f50:=⟨Tryz.f290.name,by decide,lfB Tryz.func290⟩,f57:=⟨Tryz.f293.name,by decide,lfB Tryz.func293⟩,t0:=Tryz.underlying0,a0:=Tryz.isAgg0,z0:=Tryz.sizeOf0,v0:=Tryz.zeroValue0,t3:=Tryz.underlying3,a3:=Tryz.isAgg3,z3:=Tryz.sizeOf3,v3:=Tryz.zeroValue3,t4:=Tryz.underlying4,a4:=Tryz.isAgg4,z4:=Tryz.sizeOf4,v4:=Tryz.zeroValue4,t5:=Tryz.underlying5,a5:=Tryz.isAgg5,z5:=Tryz.sizeOf5,v5:=Tryz.zeroValue5,t9:=Tryz.underlying9,a9:=Tryz.isAgg9,z9:=Tryz.sizeOf9,v9:=Tryz.zeroValue9,t22:=Tryz.underlying111,a22:=Tryz.isAgg111,z22:=Tryz.sizeOf111,v22:=Tryz.zeroValue111,t25:=Tryz.underlying256,a25:=Tryz.isAgg256,z25:=Tryz.sizeOf256,v25:=Tryz.zeroValue256,t39:=Tryz.underlying246,a39:=Tryz.isAgg246,z39:=Tryz.sizeOf246,v39:=Tryz.zeroValue246,t45:=Tryz.underlying259,a45:=Tryz.isAgg259,z45:=Tryz.sizeOf259,v45:=Tryz.zeroValue259,t46:=Tryz.underlying260,a46:=Tryz.isAgg260,z46:=Tryz.sizeOf260,v46:=Tryz.zeroValue260,t50:=Tryz.underlying221,a50:=Tryz.isAgg221,z50:=Tryz.sizeOf221,v50:=Tryz.zeroValue221,t53:=Tryz.underlying267,a53:=Tryz.isAgg267,z53:=Tryz.sizeOf267,v53:=Tryz.zeroValue267,t55:=Tryz.underlying161,a55:=Tryz.isAgg161,z55:=Tryz.sizeOf161,v55:=Tryz.zeroValue161,t66:=Tryz.underlying274,a66:=Tryz.isAgg274,z66:=Tryz.sizeOf274,v66:=Tryz.zeroValue274,t70:=Tryz.underlying278,a70:=Tryz.isAgg278,z70:=Tryz.sizeOf278,v70:=Tryz.zeroValue278,t76:=Tryz.underlying294,a76:=Tryz.isAgg294,z76:=Tryz.sizeOf294,v76:=Tryz.zeroValue294,t77:=Tryz.underlying107,a77:=Tryz.isAgg107,z77:=Tryz.sizeOf107,v77:=Tryz.zeroValue107}
def qOR (p:qA):List Value:=[.int .i64 p.X,.int .i64 p.Y]
theorem slices_SortFunc_SPoint_swo :Go.Sort.SWO (ltOf cmpPt) where
 irrefl x:=by unfold ltOf cmpPt;simp
 trans x y z h1 h2:=by
  rw[ltPt] at*;simp only[decide_eq_true_eq] at*;omega
 ntrans x y z h1 h2:=by
  rw[ltPt] at*;simp only[decide_eq_false_iff_not] at*;omega
theorem slices_SortFunc_SPoint_anti (x y:qA) (h1:ltOf cmpPt x y=false) (h2:ltOf cmpPt y x=false):x=y:=by
 rw[ltPt] at*;simp only[decide_eq_false_iff_not] at*;cases x;cases y;simp only[qA.mk.injEq] at*;omega
theorem qEp (a1:List qA) (r:List qA) (hm:ZS a1=some r):CtX Tryz.prog globs 228 1 1 [.one (.own 0 0 2 a1.length),.one (.fn 229 [])] [(0,ro 0 93 2 a1.length (rf qF a1))] (LB a1 r) (LT a1 r):=by
 unfold ZS at hm;obtain⟨g1,hm⟩:=qJ hm;obtain rfl:=kC hm;have hs:=qYy g1;have eg:∀args w,(callFunc 229 args).run Tryz.prog w= .ok (.enter 229 args) w:=enters_of Tryz.func229 (by kernel_rfl) rfl;exact qZG (gl:=globs) slices_SortFunc_SPoint_lay 2 Tryz.isAgg93 Tryz.sizeOf93 qOR (λ_=>rfl) (λx v hv=>by simp[qOR] at hv;rcases hv with rfl|rfl<;>rfl) poly_Hull_1 cmpPt poly_Hull_1_eq slices_SortFunc_SPoint_swo slices_SortFunc_SPoint_anti 229 93 eg (λx y=>qO0 x y _ (poly_Hull_1_eq x y)) a1 hs.1 hs.2
def JR (a1:List qA) (r:(List qA)×(List qA)):V:=vo 0 0 2 r.2.length
def JS (a1:List qA) (r:(List qA)×(List qA)):List (Nat×(Nat×O)):=[(0,ro 0 93 2 r.2.length (rf qF r.2))]
def NF (l3:List qA) (x4:Int) (x12:Int) (l19:List qA) (l19n:Nat) (x20:Int):St:=
 ⟨[(0,vo 0 0 2 l19n),(3,vi x20),(4,vc (.sub 0 0 2 x4.toNat (l3.length-x4.toNat))),(5,vi x12)],[(0,ro 0 93 2 l19n (rf qF l19))]⟩
def KH (l3:List qA) (x4:Int) (l10:List qA) (l10n:Nat) (x11:Int) (x12:Int):St:=
 ⟨[(0,vo 0 0 2 l10n),(3,vi x11),(4,vc (.sub 0 0 2 x4.toNat (l3.length-x4.toNat))),(5,vi x12)],[(0,ro 0 93 2 l10n (rf qF l10))]⟩
def NL (l21:List qA) (x22:Int):St:=
 ⟨[(0,vo 0 0 2 l21.length),(3,vi x22)],[(0,ro 0 93 2 l21.length (rf qF l21))]⟩
def KE (l3:List qA) (l3n:Nat) (x4:Int):St:=
 ⟨[(0,vo 0 0 2 l3n),(3,vi x4)],[(0,ro 0 93 2 l3n (rf qF l3))]⟩
def NG (l27:List qA):St:=
 ⟨[(0,vo 0 0 2 l27.length)],[(0,ro 0 93 2 l27.length (rf qF l27))]⟩
theorem qDb (E:Env 1) (l3:List qA) (x4:Int):∀(n:Nat) (l10:List qA) (l10n:Nat) (x11:Int) (x12:Int) (res:(List qA)×Int),l10.length=l10n->jD l3 x4 n l10 x11 x12=some res->HL (kx E 61 1) (nd f232 119380) (zL 2 (λo=>NL o.1 o.2) res) n (KH l3 x4 l10 l10n x11 x12):=by
 intro n
 induction n with
 |zero=>
  intro l10 l10n x11 x12 res hl0 hm;cases hm
 |succ n ih=>
  intro l10 l10n x11 x12 res hl0 hm;subst hl0;refine qS (q_sq ?_);refine s_va 1 [(32,vb (decide (x12<(((l3.length-x4.toNat):Nat):Int))))] (q_cq hm (λhm=>?_) (λhm=>?_))
  ·refine q_sk (q_jn (ι:=(List qA)×Nat×Int) (λp=>NF l3 x4 x12 p.1 p.2.1 p.2.2) (λp=>p.1.length=p.2.1/\WX x12 (jD l3 x4 n) p.1 p.2.2=some res) ?_ ?_)
   ·rintro⟨l19,l19n,x20⟩ ⟨el19,hm⟩;replace el19:l19.length=l19n:=el19;subst el19;show H _ (NF l3 x4 x12 l19 l19.length x20) _ _;exact q_vv [] 1 [5] [(5,vi (w64 (x12+1)))] (q_hl (KH l3 x4 l19 l19.length x20 (w64 (x12+1))) (ih l19 l19.length x20 (w64 (x12+1)) _ rfl hm))
   ·refine q_bk 3 ?_;obtain⟨g14,hm⟩:=qJ hm;obtain⟨g15,hm⟩:=qJ hm;obtain⟨g16,hm⟩:=qJ hm;refine s_du [qi 2 g14,qd 3 dN (uh (uP (qW (zC g14)) x4.toNat) (kK g15)),qi 7 g16,qd 8 dN (uh (uP (qW (zC g16)) x4.toNat) (kK g15))] [0,0,3,7,0,0,32,112,240,511] 1 [32] [(44,vb (!((((l10.getD (x4.toNat+x12.toNat) dd).X)==((l10.getD (x4.toNat+((w64 (x12-1)).toNat)) dd).X))&&((((l10.getD (x4.toNat+x12.toNat) dd).Y)==((l10.getD (x4.toNat+((w64 (x12-1)).toNat)) dd).Y))&&true))))] [] [] (q_cq hm (λhm=>?_) (λhm=>?_))
    ·obtain⟨g18,hm⟩:=qJ hm;refine s_vu [qi 4 g14,qd 5 dN (uh (uP (qW (zC g14)) x4.toNat) (kK g15)),qi 6 g18,qd 7 (drw 0 0 (rf qF (l10.set x11.toNat (l10.getD (x4.toNat+x12.toNat) dd)))) (stP qF dd (l10.getD (x4.toNat+x12.toNat) dd) l10 l10.length x11.toNat 0 [ci ((l10.getD (x4.toNat+x12.toNat) dd).X),ci ((l10.getD (x4.toNat+x12.toNat) dd).Y)] rfl (qW (zC g18)) rfl)] 1 [44] [] [0] [(0,ro 0 93 2 l10.length (rf qF (l10.set x11.toNat (l10.getD (x4.toNat+x12.toNat) dd))))] (q_vv [] 1 [3] [(3,vi (w64 (x11+1)))] ?_)
     exact q_J ((l10.set x11.toNat (l10.getD (x4.toNat+x12.toNat) dd)),l10.length,w64 (x11+1)) ⟨(QC rfl),hm⟩
    ·exact q_sk (q_J (l10,l10.length,x11) ⟨rfl,hm⟩)
  ·refine q_ex 2 ?_;obtain rfl:=oi hm;exact q_l0
theorem qCL (E:Env 1) (a1:List qA):∀(n:Nat) (l3:List qA) (l3n:Nat) (x4:Int) (res:((List qA)×(List qA))⊕(List qA)),l3.length=l3n->jT n l3 x4=some res->HL (kx E 61 1) (nd f232 116) (wL 0 NG (λv st=>RetQ Tryz.prog f232 (JR a1 v) (JS a1 v) .ret st) res) n (KE l3 l3n x4):=by
 intro n
 induction n with
 |zero=>
  intro l3 l3n x4 res hl0 hm;cases hm
 |succ n ih=>
  intro l3 l3n x4 res hl0 hm;subst hl0;refine qS (q_sq ?_);refine s_va 1 [(13,vb (decide (x4<(l3.length:Int))))] (q_cq hm (λhm=>?_) (λhm=>?_))
  ·refine q_sk (q_sq ?_);refine q_bk 1 ?_;obtain⟨g6,hm⟩:=qJ hm;obtain⟨g7,hm⟩:=qJ hm;refine s_du [qi 2 g6,qd 3 dN (qW (zC g6)),qi 7 g7,qd 8 dN (qW (zC g7))] [0,0,3,7,0,0,32,112,240,511] 1 [13] [(25,vb ((((l3.getD x4.toNat dd).X)==((l3.getD ((w64 (x4-1)).toNat) dd).X))&&((((l3.getD x4.toNat dd).Y)==((l3.getD ((w64 (x4-1)).toNat) dd).Y))&&true)))] [] [] (q_cq hm (λhm=>?_) (λhm=>?_))
   ·obtain⟨g9,hm⟩:=qJ hm;refine s_vv [qd 2 dN (And.intro (zU g9).1 (zU g9).2.1)] 1 [25] [(4,vc (.sub 0 0 2 x4.toNat (l3.length-x4.toNat)))] (q_sq ?_);refine s_va 1 [(5,vi 1)] ?_;obtain⟨o23,h24,hm⟩:=qC hm;refine zG (nd f232 119380) 2 (by kernel_rfl) FUEL (λo=>NL o.1 o.2) o23 (q_hl (KH l3 x4 l3 l3.length x4 1) (qDb E l3 x4 FUEL l3 l3.length x4 1 o23 rfl h24)) ?_;obtain⟨g25,hm⟩:=qJ hm
    refine s_wu [qd 2 dN (And.intro (zU g25).1 (zU g25).2.1),qd 3 (drw 0 0 (rf qF o23.1)) (show o23.2.toNat+(o23.1.length-o23.2.toNat)<=o23.1.length by have:=(zU g25);omega)] [.row 0 o23.2.toNat (rf qF (o23.1.take o23.2.toNat))] (o1 (tkP qF dd o23.1 o23.2.toNat o23.2.toNat (ke _))) 1 [] [] [0] [(0,ro 0 93 2 o23.2.toNat (rf qF (o23.1.take o23.2.toNat)))] ?_;obtain⟨g26,hm⟩:=qJ hm
    refine s_vv [qd 2 dN (And.intro (zU g26).2.1 (zU g26).2.2)] 1 [0,3] [(2,vo 0 0 2 o23.2.toNat)] (q_fn [.len 0 ((o23.1.take o23.2.toNat).length)] ⟨[(2,vo 0 0 2 ((o23.1.take o23.2.toNat).length))],[(0,ro 0 93 2 ((o23.1.take o23.2.toNat).length) (rf qF (o23.1.take o23.2.toNat)))]⟩ (o1 (And.intro (Eq.symm (show(o23.1.take o23.2.toNat).length=o23.2.toNat from(PY rfl (uq (gj _ _) (show o23.2.toNat+(o23.1.length-o23.2.toNat)<=o23.1.length by have:=(zU g25);omega))))) (Eq.symm (show(o23.1.take o23.2.toNat).length=o23.2.toNat from(PY rfl (uq (gj _ _) (show o23.2.toNat+(o23.1.length-o23.2.toNat)<=o23.1.length by have:=(zU g25);omega))))))) ?_)
    obtain rfl:=oi hm;refine q_rt (zJ ((o23.1.take o23.2.toNat),(o23.1.take o23.2.toNat)) ?_);exact q_rm
   ·refine q_sk (q_vv [] 1 [3,25] [(3,vi (w64 (x4+1)))] ?_);exact q_hl (KE l3 l3.length (w64 (x4+1))) (ih l3 l3.length (w64 (x4+1)) _ rfl hm)
  ·refine q_ex 0 ?_;obtain rfl:=oi hm;exact q_l1 l3
theorem qEN (a1:List qA) (r:(List qA)×(List qA)) (hm:QD a1=some r):CtX Tryz.prog globs 232 1 1 [.one (.own 0 0 2 a1.length)] [(0,ro 0 93 2 a1.length (rf qF a1))] (JR a1 r) (JS a1 r):=by
 unfold QD at hm;refine q_E f232 61 λE=>?_;refine s_vn [] 1 ⟨[(0,vo 0 0 2 a1.length)],[(0,ro 0 93 2 a1.length (rf qF a1))]⟩ (q_sq ?_);refine s_va 1 [(8,vb (decide ((a1.length:Int)<2)))] (q_cq hm (λhm=>?_) (λhm=>?_))
 ·refine s_vv [] 1 [0,8] [(2,vo 0 0 2 a1.length)] ?_;obtain rfl:=oi hm;exact q_rt q_rm
 ·refine q_sk (q_sq ?_);refine s_vv [] 1 [8] [(3,vi 1)] ?_;obtain⟨u30,h29,hm⟩:=qC hm;refine zO (nd f232 116) 0 (by kernel_rfl) FUEL NG (λv st=>RetQ Tryz.prog f232 (JR a1 v) (JS a1 v) .ret st) u30 (q_hl (KE a1 a1.length 1) (qCL E a1 FUEL a1 a1.length 1 u30 rfl h29)) ?_ ?_
  ·rintro v31 rfl st hr;obtain rfl:=oi hm;exact hr
  ·rintro o28 rfl;replace hm:_=some r:=hm;refine s_vv [] 1 [0] [(2,vo 0 0 2 o28.length)] ?_;obtain rfl:=oi hm;exact q_rt q_rm
open Go.Proofs Go.Proofs.Tryz
def qTV (r:Int):V:=vi r
def qVM (r:Int):List (Nat×(Nat×O)):=[]
theorem qTe (a1:qA) (a2:qA) (a3:qA) (r:Int) (hm:CW a1 a2 a3=some r):CtX Tryz.prog globs 255 0 0 [.agg (qF a1),.agg (qF a2),.agg (qF a3)] [] (qTV r) (qVM r):=by
 unfold CW at hm;refine q_E f255 30 λE=>?_;refine s_vn [] 0 ⟨[(3,vp 0 0),(4,vp 1 0),(5,vp 2 0)],[(0,bx 93 (qF a1)),(1,bx 93 (qF a2)),(2,bx 93 (qF a3))]⟩ (s_vn [] 3 ⟨[(6,vi (w64 ((w64 ((w64 (a2.X-a1.X))*(w64 (a3.Y-a1.Y))))-(w64 ((w64 (a3.X-a1.X))*(w64 (a2.Y-a1.Y)))))))],[]⟩ ?_);obtain rfl:=oi hm;exact q_rt q_rm
end Saw
end Go.SL

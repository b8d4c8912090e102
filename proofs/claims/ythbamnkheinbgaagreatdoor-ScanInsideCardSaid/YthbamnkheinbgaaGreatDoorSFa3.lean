import Derived.Test.YthbamnkheinbgaaGreatDoorSBase
import Derived.Test.YthbamnkheinbgaaGreatDoorSFa2
import Derived.Test.YthbamnkheinbgaaGreatDoorSFa1
set_option linter.unusedVariables false
set_option linter.unusedSimpArgs false
namespace Go.SL
namespace Saw
open Go.Proofs Go.Proofs.Tryz
set_option maxHeartbeats 4000000
set_option maxRecDepth 100000
def qKG (r:Int):V:=vi r
def qKf (r:Int):List (Nat×(Nat×O)):=[]
def qGV (x5:Int):St:=
 ⟨[(5,vi x5)],[]⟩
theorem qCn (a1:Int) (a2:Int) (r:Int) (hm:TO a1 a2=some r):CtX Tryz.prog globs 145 0 0 [.one (ci a1),.one (ci a2)] [] (qKG r) (qKf r):=by
 unfold TO at hm;refine q_E f145 16 λE=>?_;refine s_vn [] 0 ⟨[(0,vi a1),(1,vi a2)],[]⟩ ?_;obtain⟨g3,hm⟩:=qH hm;refine s_vv [qd 2 dN (MN g3)] 0 [] [(5,vi (w64 (Int.tdiv a1 a2)))] (q_jn (qGV) (λp=>GQ p=some r) ?_ ?_)
 ·rintro x5 hm;refine s_vn [] 0 ⟨[(4,vi x5)],[]⟩ ?_;obtain rfl:=oi hm;exact q_rt q_rm
 ·refine s_vv [qd 2 dN (MN g3)] 0 [0,1] [(12,vb (decide ((Int.tmod a1 a2)<0)))] (q_cq hm (λhm=>?_) (λhm=>?_))
  ·exact q_vn [] 0 ⟨[(5,vi (w64 ((w64 (Int.tdiv a1 a2))-1)))],[]⟩ (q_J (w64 ((w64 (Int.tdiv a1 a2))-1)) hm)
  ·exact q_sk (q_J (w64 (Int.tdiv a1 a2)) hm)
def EA (r:Int):V:=vi r
def KO (r:Int):List (Nat×(Nat×O)):=[]
theorem qCr (r:Int):yX (KO r):=by
 intro i k o h;unfold KO at h;cases h
theorem qBh (a1:Ring) (a2:List Int) (a3:Int) (r:Int) (hm:PF a1 a2 a3=some r):CtX Tryz.prog globs 72 0 0 [.agg (qN a1),.one (tl qK dd a2),.one (ci a3)] [] (EA r) (KO r):=by
 unfold PF at hm;refine q_E f72 36 λE=>?_;refine s_vn [] 0 ⟨[(1,vc (tl qK dd a2)),(2,vi a3),(3,vp 0 0)],[(0,bx 45 (qN a1))]⟩ (q_sq ?_);refine s_va 1 [(11,vb (decide ((w64 (a3+1))<(a2.length:Int))))] (q_cq hm (λhm=>?_) (λhm=>?_))
 ·obtain⟨g5,hm⟩:=qH hm;obtain⟨g6,hm⟩:=qH hm;refine s_dn [qi 3 g5,qi 7 g6] [0,0,2,7,15,0,0,96,224,511,1023,2047] 1 ⟨[(6,vi (w64 ((w64 ((a2.getD (w64 (a3+1)).toNat dd)-(a2.getD a3.toNat dd)))-1)))],[]⟩ ?_;obtain rfl:=oi hm;exact q_rt q_rm
 ·refine q_sk ?_;obtain⟨g7,hm⟩:=qH hm;obtain⟨g8,hm⟩:=qH hm;refine s_dn [qi 1 g7,qi 9 g8] [0,1,3,0,8,24,63,0,0,384,896,2047,4095,8191] 1 ⟨[(6,vi (w64 ((w64 ((w64 ((a2.getD (0:Int).toNat dd)+(a1.Read.length:Int)))-(a2.getD a3.toNat dd)))-1)))],[]⟩ ?_;obtain rfl:=oi hm;exact q_rt q_rm
def qLy (r:Int×Int):V:= .tup [.one (ci r.1),.one (ci r.2)]
def qLR (r:Int×Int):List (Nat×(Nat×O)):=[]
def FV (a1:Ring) (v2:(List Int)) (x5:Int) (x6:Int):St:=
 ⟨[(1,vp 0 0),(4,vo 1 0 1 v2.length),(5,vi (w64 ((a1.Read.length:Int)-(v2.length:Int)))),(6,vi x5),(22,vi (v2.length:Int)),(23,vi x6)],[(0,bx 45 (qN a1)),(1,ro 0 3 1 v2.length (rf qK v2))]⟩
def qBn (a1:Ring) (v2:(List Int)) (x10:Int):St:=
 ⟨[(5,vi (w64 ((a1.Read.length:Int)-(v2.length:Int)))),(6,vi x10)],[]⟩
theorem qF0 (E:Env 0) (a1:Ring) (v2:(List Int)):∀(n:Nat) (x5:Int) (x6:Int) (res:Int),XC a1 v2 n x5 x6=some res->HL (kx E 35 0) (nd f32 1012) (zW 0 (λo=>qBn a1 v2 o) res) n (FV a1 v2 x5 x6):=by
 intro n
 induction n with
 |zero=>
  intro x5 x6 res hm;cases hm
 |succ n ih=>
  intro x5 x6 res hm;refine qU (s_va 2 [(24,vb (decide (x6<(v2.length:Int))))] ?_);refine q_sq (q_cq hm (λhm=>?_) (λhm=>?_))
  ·refine q_sk (q_sq ?_);refine q_bk 1 (s_vv [] 2 [24] [(7,vi x6)] ?_);obtain⟨v8,h9,hm⟩:=qE hm;refine q_vv [qd 4 (dex (cen [] [] 2 0 (EA v8) (KO v8) [27,28,29] [1])) (zI (K:=(kx E 35 0)) (b:=false) ⟨[(27,va (qN a1)),(28,vo 1 0 1 v2.length),(29,vi x6)],[(1,ro 0 3 1 v2.length (rf qK v2))]⟩ (opAt (rg f32 32409) 4) [] [] 2 (o1 (kr v2.length)) rfl (qBh a1 v2 x6 v8 h9) (.inr ⟨(by kernel_rfl),qCr v8⟩) (by kernel_rfl))] 2 [6,7] [(6,vi (imax x5 v8))] (q_vv [] 2 [23] [(23,vi (w64 (x6+1)))] ?_);exact q_hl (FV a1 v2 (imax x5 v8) (w64 (x6+1))) (ih (imax x5 v8) (w64 (x6+1)) _ hm)
  ·refine q_ex 0 ?_;obtain rfl:=oi hm;exact q_l0
theorem qJL (a1:Ring) (r:Int×Int) (hm:BJ a1=some r):CtX Tryz.prog globs 32 0 0 [.agg (qN a1)] [] (qLy r) (qLR r):=by
 unfold BJ at hm;refine q_E f32 35 λE=>?_;refine s_vn [] 0 ⟨[(1,vp 0 0)],[(0,bx 45 (qN a1))]⟩ ?_;obtain⟨v2,h3,hm⟩:=qE hm;refine s_vu [qc 1 [8] 1 (DN a1 v2 h3)] 1 [] [(4,vo 1 0 1 v2.length)] [] [(1,ro 0 3 1 v2.length (rf qK v2))] (s_va 2 [(5,vi (w64 ((a1.Read.length:Int)-(v2.length:Int))))] ?_);refine q_sq (s_va 2 [(18,vb ((v2.length:Int)==0))] ?_);refine q_cq hm (λhm=>?_) (λhm=>?_)
 ·refine s_vn [] 2 ⟨[(2,vi (w64 ((a1.Read.length:Int)-(v2.length:Int)))),(3,vi (w64 ((a1.Read.length:Int)-(v2.length:Int))))],[]⟩ ?_;obtain rfl:=oi hm;exact q_rt q_rm
 ·refine q_sk (s_vv [] 2 [18] [(6,vi 0)] ?_);refine q_sq (s_va 2 [(22,vi (v2.length:Int)),(23,vi 0)] ?_);obtain⟨o11,h12,hm⟩:=qE hm;refine zU (nd f32 1012) 0 (by kernel_rfl) FUEL (λo=>qBn a1 v2 o) o11 (q_hl (FV a1 v2 0 0) (qF0 E a1 v2 FUEL 0 0 o11 h12)) (s_vn [] 2 ⟨[(2,vi (w64 ((a1.Read.length:Int)-(v2.length:Int)))),(3,vi o11)],[]⟩ ?_);obtain rfl:=oi hm;exact q_rt q_rm
open Go.Proofs Go.Proofs.Tryz
def qCj (r:(List qA)×Int):V:= .tup [.one (.own 0 0 2 r.1.length),.one (ci r.2)]
def GT (r:(List qA)×Int):List (Nat×(Nat×O)):=[(0,ro 0 71 2 r.1.length (rf qB r.1))]
theorem qIS (r:(List qA)×Int):yX (GT r):=by
 intro i k o h;unfold GT at h;rw[look_cons] at h;split at h
 ·cases h;exact λ_ _=>rfl
 ·cases h
def TM (a1:Ring) (v6:(List Int)) (x16:Int):St:=
 ⟨[(2,vp 0 0),(7,vo 1 0 1 v6.length),(45,vo 1 0 1 v6.length),(46,vi (v6.length:Int)),(47,vi x16)],[(0,bx 45 (qN a1)),(1,ro 0 3 1 v6.length (rf qK v6))]⟩
def DG (a1:Ring) (v6:(List Int)) (x16:Int) (v24:Int) (l26:List qA) (l26n:Nat) (x27:Int):St:=
 (TM a1 v6 x16).up [] [(10,vo 2 0 2 l26n),(12,vi (v6.getD x16.toNat dd)),(13,vp 3 0),(14,vp 4 0),(15,vi v24),(16,vi x27)] [] [(2,ro 0 71 2 l26n (rf qB l26)),(3,bx 71 (qB ((a1.Read.getD (v6.getD x16.toNat dd).toNat dd).P))),(4,bx 71 (qB ((a1.Read.getD (v6.getD ((Int.tmod (w64 (x16+1)) (v6.length:Int)).toNat) dd).toNat dd).P)))]
def IM (a1:Ring) (v6:(List Int)) (x16:Int) (l35:List qA):St:=
 (TM a1 v6 x16).up [] [(10,vo 2 0 2 l35.length)] [] [(2,ro 0 71 2 l35.length (rf qB l35))]
def DC (a1:Ring) (v6:(List Int)) (l15:List qA) (l15n:Nat) (x16:Int):St:=
 (TM a1 v6 x16).up [] [(10,vo 2 0 2 l15n)] [] [(2,ro 0 71 2 l15n (rf qB l15))]
def ID (l38:List qA):St:=
 ⟨[(10,vo 2 0 2 l38.length)],[(2,ro 0 71 2 l38.length (rf qB l38))]⟩
def qFq (a1:Ring) (v6:(List Int)) (x12:Bool):St:=
 ⟨[(2,vp 0 0),(7,vo 1 0 1 v6.length),(40,vb x12)],[(0,bx 45 (qN a1)),(1,ro 0 3 1 v6.length (rf qK v6))]⟩
theorem qEu (E:Env 0) (a1:Ring) (v6:(List Int)) (x16:Int) (v24:Int):∀(n:Nat) (l26:List qA) (l26n:Nat) (x27:Int) (res:(List qA)),l26.length=l26n->ZT a1 v6 x16 v24 n l26 x27=some res->HL (kx E 121 0) (nd f90 4171388) (zW 2 (λo=>IM a1 v6 x16 o) res) n (DG a1 v6 x16 v24 l26 l26n x27):=by
 intro n
 induction n with
 |zero=>
  intro l26 l26n x27 res hl0 hm;cases hm
 |succ n ih=>
  intro l26 l26n x27 res hl0 hm;subst hl0;refine qU (q_sq ?_);refine s_va 5 [(81,vb (decide (x27<=v24)))] (q_cq hm (λhm=>?_) (λhm=>?_))
  ·refine q_sk (q_sq ?_);refine q_bk 3 ?_;obtain⟨g29,hm⟩:=qH hm;obtain⟨v30,h31,hm⟩:=qE hm;obtain⟨v32,h33,hm⟩:=qE hm;obtain⟨g34,hm⟩:=qH hm
   refine q_du [qd 6 dN (MN g29),qc 18 [99,101] 5 (qCn (w64 ((w64 ((((a1.Read.getD (v6.getD ((Int.tmod (w64 (x16+1)) (v6.length:Int)).toNat) dd).toNat dd).P).X)-(((a1.Read.getD (v6.getD x16.toNat dd).toNat dd).P).X)))*x27)) (w64 (v24+1)) v30 h31),qc 31 [112,114] 5 (qCn (w64 ((w64 ((((a1.Read.getD (v6.getD ((Int.tmod (w64 (x16+1)) (v6.length:Int)).toNat) dd).toNat dd).P).Y)-(((a1.Read.getD (v6.getD x16.toNat dd).toNat dd).P).Y)))*x27)) (w64 (v24+1)) v32 h33),qi 34 g34,qd 35 (drw 0 0 (rf qB (l26.set ((Int.tmod (w64 ((v6.getD x16.toNat dd)+x27)) (l26.length:Int)).toNat) (qA.mk (w64 ((((a1.Read.getD (v6.getD x16.toNat dd).toNat dd).P).X)+v30)) (w64 ((((a1.Read.getD (v6.getD x16.toNat dd).toNat dd).P).Y)+v32)))))) (stP qB dd (qA.mk (w64 ((((a1.Read.getD (v6.getD x16.toNat dd).toNat dd).P).X)+v30)) (w64 ((((a1.Read.getD (v6.getD x16.toNat dd).toNat dd).P).Y)+v32))) l26 l26.length ((Int.tmod (w64 ((v6.getD x16.toNat dd)+x27)) (l26.length:Int)).toNat) 0 [ci (w64 ((((a1.Read.getD (v6.getD x16.toNat dd).toNat dd).P).X)+v30)),ci (w64 ((((a1.Read.getD (v6.getD x16.toNat dd).toNat dd).P).Y)+v32))] rfl (zC (zJ g34)) rfl)] [0,0,0,6,0,16,62,0,128,0,512,0,2048,7680,0,32256,0,65536,261632,524160,0,1048576,0,4194304,0,16777216,62914560,0,264241152,0,536870912,2143813120,4294442496,8589934464,17179869183,34359738367] 5 [81] [] [2] [(2,ro 0 71 2 l26.length (rf qB (l26.set ((Int.tmod (w64 ((v6.getD x16.toNat dd)+x27)) (l26.length:Int)).toNat) (qA.mk (w64 ((((a1.Read.getD (v6.getD x16.toNat dd).toNat dd).P).X)+v30)) (w64 ((((a1.Read.getD (v6.getD x16.toNat dd).toNat dd).P).Y)+v32))))))] ?_
   exact q_vv [] 5 [16] [(16,vi (w64 (x27+1)))] (q_hl (DG a1 v6 x16 v24 (l26.set ((Int.tmod (w64 ((v6.getD x16.toNat dd)+x27)) (l26.length:Int)).toNat) (qA.mk (w64 ((((a1.Read.getD (v6.getD x16.toNat dd).toNat dd).P).X)+v30)) (w64 ((((a1.Read.getD (v6.getD x16.toNat dd).toNat dd).P).Y)+v32)))) l26.length (w64 (x27+1))) (ih (l26.set ((Int.tmod (w64 ((v6.getD x16.toNat dd)+x27)) (l26.length:Int)).toNat) (qA.mk (w64 ((((a1.Read.getD (v6.getD x16.toNat dd).toNat dd).P).X)+v30)) (w64 ((((a1.Read.getD (v6.getD x16.toNat dd).toNat dd).P).Y)+v32)))) l26.length (w64 (x27+1)) _ (UD rfl) hm))
  ·refine q_ex 2 ?_;obtain rfl:=oi hm;exact q_l0
theorem qEc (E:Env 0) (a1:Ring) (v6:(List Int)):∀(n:Nat) (l15:List qA) (l15n:Nat) (x16:Int) (res:(List qA)),l15.length=l15n->QF a1 v6 n l15 x16=some res->HL (kx E 121 0) (nd f90 2036) (zW 0 ID res) n (DC a1 v6 l15 l15n x16):=by
 intro n
 induction n with
 |zero=>
  intro l15 l15n x16 res hl0 hm;cases hm
 |succ n ih=>
  intro l15 l15n x16 res hl0 hm;subst hl0;refine qU (s_va 3 [(48,vb (decide (x16<(v6.length:Int))))] ?_);refine q_sq (q_cq hm (λhm=>?_) (λhm=>?_))
  ·refine q_sk (q_sq ?_);refine q_bk 1 ?_;obtain⟨g18,hm⟩:=qH hm;refine s_vv [qi 1 g18,qd 2 dN (zC (zJ g18))] 3 [48] [(11,vi x16),(12,vi (v6.getD x16.toNat dd))] ?_;obtain⟨g19,hm⟩:=qH hm;obtain⟨g20,hm⟩:=qH hm;obtain⟨g21,hm⟩:=qH hm;obtain⟨g22,hm⟩:=qH hm
   refine s_du [qi 3 g19,qd 13 dN (MN g20),qi 14 g21,qd 15 dN (zC (zJ g21)),qi 16 g22] [0,1,0,7,15,31,0,64,0,0,512,0,2048,7680,16128,32512,65472,131008,262080,0,0,1572927,4194303] 3 [] [(13,vp 3 0),(14,vp 4 0)] [] [(3,bx 71 (qB ((a1.Read.getD (v6.getD x16.toNat dd).toNat dd).P))),(4,bx 71 (qB ((a1.Read.getD (v6.getD ((Int.tmod (w64 (x16+1)) (v6.length:Int)).toNat) dd).toNat dd).P)))] ?_;obtain⟨g23,hm⟩:=qH hm
   refine s_vu [qi 3 g23,qd 4 (drw 0 0 (rf qB (l15.set ((v6.getD x16.toNat dd).toNat) ((a1.Read.getD (v6.getD x16.toNat dd).toNat dd).P)))) (stP qB dd ((a1.Read.getD (v6.getD x16.toNat dd).toNat dd).P) l15 l15.length ((v6.getD x16.toNat dd).toNat) 0 [ci (((a1.Read.getD (v6.getD x16.toNat dd).toNat dd).P).X),ci (((a1.Read.getD (v6.getD x16.toNat dd).toNat dd).P).Y)] rfl (zC (zJ g23)) rfl)] 5 [] [] [2] [(2,ro 0 71 2 l15.length (rf qB (l15.set ((v6.getD x16.toNat dd).toNat) ((a1.Read.getD (v6.getD x16.toNat dd).toNat dd).P))))] ?_;obtain⟨v24,h25,hm⟩:=qE hm
   refine s_vv [qd 3 (dex (cen [] [] 5 0 (EA v24) (KO v24) [75,76,77] [1])) (zI (K:=(kx E 121 0)) (b:=false) ⟨[(75,va (qN a1)),(76,vo 1 0 1 v6.length),(77,vi x16)],[(1,ro 0 3 1 v6.length (rf qK v6))]⟩ (opAt (rg f90 521422) 3) [] [] 5 (o1 (kr v6.length)) rfl (qBh a1 v6 x16 v24 h25) (.inr ⟨(by kernel_rfl),qCr v24⟩) (by kernel_rfl))] 5 [11] [(15,vi v24)] (s_va 5 [(16,vi 1)] ?_);obtain⟨o36,h37,hm⟩:=qE hm
   refine zU (nd f90 4171388) 2 (by kernel_rfl) FUEL (λo=>IM a1 v6 x16 o) o36 (q_hl (DG a1 v6 x16 v24 (l15.set ((v6.getD x16.toNat dd).toNat) ((a1.Read.getD (v6.getD x16.toNat dd).toNat dd).P)) l15.length 1) (qEu E a1 v6 x16 v24 FUEL (l15.set ((v6.getD x16.toNat dd).toNat) ((a1.Read.getD (v6.getD x16.toNat dd).toNat dd).P)) l15.length 1 o36 (UD rfl) h37)) (q_vv [] 5 [47] [(47,vi (w64 (x16+1)))] ?_);exact q_hl (DC a1 v6 o36 o36.length (w64 (x16+1))) (ih o36 o36.length (w64 (x16+1)) _ rfl hm)
  ·refine q_ex 0 ?_;obtain rfl:=oi hm;exact q_l0
theorem qHf (a1:Ring) (a2:Int) (r:(List qA)×Int) (hm:VV a1 a2=some r):CtX Tryz.prog globs 90 0 0 [.agg (qN a1),.one (ci a2)] [] (qCj r) (GT r):=by
 unfold VV at hm;refine q_E f90 121 λE=>?_;refine s_vn [] 0 ⟨[(1,vi a2),(2,vp 0 0)],[(0,bx 45 (qN a1))]⟩ (q_sq ?_);obtain⟨v3,h4,hm⟩:=qE hm;refine s_vv [qc 1 [17] 1 (EK a1 v3 h4)] 1 [] [(6,vi v3)] (s_va 1 [(20,vb (v3 !=0))] ?_);refine q_cq hm (λhm=>?_) (λhm=>?_)
 ·refine s_vn [] 1 ⟨[(4,vc (.emp)),(5,vi v3)],[]⟩ (q_fo 4 1 71 2 qB ?_);refine q_fl 4 1 71 2 qB ?_;obtain rfl:=oi hm;exact q_sw 1 0 (q_rt q_rm)
 ·refine q_sk ?_;obtain⟨v6,h7,hm⟩:=qE hm;refine s_vu [qc 1 [22] 1 (DN a1 v6 h7)] 1 [6,20] [(7,vo 1 0 1 v6.length)] [] [(1,ro 0 3 1 v6.length (rf qK v6))] ?_;obtain⟨v8,h9,hm⟩:=qE hm;refine s_vv [qc 1 [25] 2 (qJL a1 v8 h9)] 2 [] [(8,vi v8.1),(9,vi v8.2)] (q_sq ?_);refine q_jn (qFq a1 v6) (λp=>XA a1 v6 p=some r) ?_ ?_
  ·rintro x12 hm;refine q_cq hm (λhm=>?_) (λhm=>?_)
   ·refine s_vn [] 2 ⟨[(4,vc (.emp)),(5,vi 30)],[]⟩ (q_fo 4 2 71 2 qB ?_);refine q_fl 4 2 71 2 qB ?_;obtain rfl:=oi hm;exact q_sw 2 0 (q_rt q_rm)
   ·refine q_sk ?_;obtain⟨g14,hm⟩:=qH hm;refine s_vu [qd 3 (drw 2 0 (rf qB (List.replicate ((a1.Read.length:Int).toNat) (qA.mk 0 0)))) (mkP qB dd (qA.mk 0 0) (a1.Read.length:Int) 16 [ci 0,ci 0] (qHs g14) rfl)] 2 [40] [(10,vo 2 0 2 ((a1.Read.length:Int).toNat))] [] [(2,ro 0 71 2 ((a1.Read.length:Int).toNat) (rf qB (List.replicate ((a1.Read.length:Int).toNat) (qA.mk 0 0))))] (q_sq ?_);refine s_va 3 [(45,vo 1 0 1 v6.length),(46,vi (v6.length:Int)),(47,vi 0)] ?_;obtain⟨o39,h40,hm⟩:=qE hm
    refine zU (nd f90 2036) 0 (by kernel_rfl) FUEL ID o39 (q_hl (DC a1 v6 (List.replicate ((a1.Read.length:Int).toNat) (qA.mk 0 0)) ((a1.Read.length:Int).toNat) 0) (qEc E a1 v6 FUEL (List.replicate ((a1.Read.length:Int).toNat) (qA.mk 0 0)) ((a1.Read.length:Int).toNat) 0 o39 qHL h40)) (s_vv [] 3 [10] [(4,vo 2 0 2 o39.length),(5,vi 0)] ?_);obtain rfl:=oi hm;exact q_sw 2 0 (q_rt q_rm)
  ·rcases bif_c hm with⟨b10,hm⟩|⟨b10,hm⟩
   ·exact q_vv [qf 3 b10] 2 [1,8,9] [(40,vb true)] (q_J (true) hm)
   ·rcases bif_c hm with⟨b11,hm⟩|⟨b11,hm⟩
    ·exact q_vv [qf 3 b10,qf 6 b11] 2 [1,8,9] [(40,vb (decide (v8.2>a2)))] (q_J (decide (v8.2>a2)) hm)
    ·exact q_vv [qf 3 b10,qf 6 b11] 2 [1,8,9] [(40,vb false)] (q_J (false) hm)
def qEp (r:Span):V:=va (qI r)
def qD8 (r:Span):List (Nat×(Nat×O)):=[]
theorem qCT (a1:Int) (a2:Int) (r:Span) (hm:RG a1 a2=some r):CtX Tryz.prog globs 148 0 0 [.one (ci a1),.one (ci a2)] [] (qEp r) (qD8 r):=by
 unfold RG at hm;refine q_E f148 10 λE=>?_;refine s_vn [] 0 ⟨[(0,vi a1),(1,vi a2),(4,vp 0 0)],[(0,bx 64 [ci 0,ci 0])]⟩ (s_vu [] 1 [0,1] [] [0] [(0,bx 64 [ci (w64 (10*a1)),ci (w64 (10*a2))])] ?_);obtain rfl:=oi hm;exact q_rt q_rm
def qCd (r:Rect):V:=va (JJ r)
def GO (r:Rect):List (Nat×(Nat×O)):=[]
theorem qJf (r:Rect):yX (GO r):=by
 intro i k o h;unfold GO at h;cases h
def GV (a1:List qA) (x4:Int) (x5:Rect):St:=
 ⟨[(2,vp 0 0),(3,vp 1 0),(29,vc (tl qB dd a1)),(30,vi (a1.length:Int)),(31,vi x4)],[(0,bx 190 [ci 0,ci 0,ci 0,ci 0]),(1,bx 190 (JJ x5))]⟩
def OA (x8:Rect):St:=
 ⟨[(2,vp 0 0),(3,vp 1 0)],[(0,bx 190 [ci 0,ci 0,ci 0,ci 0]),(1,bx 190 (JJ x8))]⟩
theorem qEd (E:Env 0) (a1:List qA):∀(n:Nat) (x4:Int) (x5:Rect) (res:Rect),XE a1 n x4 x5=some res->HL (kx E 65 0) (nd f177 244) (zW 0 OA res) n (GV a1 x4 x5):=by
 intro n
 induction n with
 |zero=>
  intro x4 x5 res hm;cases hm
 |succ n ih=>
  intro x4 x5 res hm;refine qU (s_va 2 [(32,vb (decide (x4<(a1.length:Int))))] ?_);refine q_sq (q_cq hm (λhm=>?_) (λhm=>?_))
  ·refine q_sk (q_sq ?_);refine q_bk 1 ?_;obtain⟨g7,hm⟩:=qH hm;refine s_vu [qi 0 g7] 2 [32] [(5,vp 2 0)] [] [(2,bx 71 (qB (a1.getD x4.toNat dd)))] (s_vu [] 3 [] [] [1] [(1,bx 190 [ci (imin x5.X.A ((a1.getD x4.toNat dd).X)),ci (imax x5.X.B ((a1.getD x4.toNat dd).X)),ci x5.Y.A,ci x5.Y.B])] ?_);refine q_vu [] 3 [5] [] [1,2] [(1,bx 190 [ci (imin x5.X.A ((a1.getD x4.toNat dd).X)),ci (imax x5.X.B ((a1.getD x4.toNat dd).X)),ci (imin x5.Y.A ((a1.getD x4.toNat dd).Y)),ci (imax x5.Y.B ((a1.getD x4.toNat dd).Y))])] (q_vv [] 3 [31] [(31,vi (w64 (x4+1)))] ?_)
   exact q_hl (GV a1 (w64 (x4+1)) (Rect.mk (Span.mk (imin x5.X.A ((a1.getD x4.toNat dd).X)) (imax x5.X.B ((a1.getD x4.toNat dd).X))) (Span.mk (imin x5.Y.A ((a1.getD x4.toNat dd).Y)) (imax x5.Y.B ((a1.getD x4.toNat dd).Y))))) (ih (w64 (x4+1)) (Rect.mk (Span.mk (imin x5.X.A ((a1.getD x4.toNat dd).X)) (imax x5.X.B ((a1.getD x4.toNat dd).X))) (Span.mk (imin x5.Y.A ((a1.getD x4.toNat dd).Y)) (imax x5.Y.B ((a1.getD x4.toNat dd).Y)))) _ hm)
  ·refine q_ex 0 ?_;obtain rfl:=oi hm;exact q_l0
theorem qHH (a1:List qA) (r:Rect) (hm:VZ a1=some r):CtX Tryz.prog globs 177 0 0 [.one (tl qB dd a1)] [] (qCd r) (GO r):=by
 unfold VZ at hm;refine q_E f177 65 λE=>?_;refine s_vn [] 0 ⟨[(0,vc (tl qB dd a1)),(2,vp 0 0)],[(0,bx 190 [ci 0,ci 0,ci 0,ci 0])]⟩ (q_sq ?_);refine s_va 1 [(8,vb ((a1.length:Int)==0))] (q_cq hm (λhm=>?_) (λhm=>?_))
 ·refine s_vv [] 1 [0,8] [] ?_;obtain rfl:=oi hm;exact q_rt q_rm
 ·refine q_sk ?_;obtain⟨g3,hm⟩:=qH hm;refine s_du [qi 1 g3,qi 5 g3,qi 10 g3,qi 14 g3] [0,1,3,7,0,16,48,112,255,0,512,1536,3584,0,8192,24576,57344,130560,262143,0,1048575] 1 [8] [(3,vp 1 0)] [] [(1,bx 190 [ci ((a1.getD (0:Int).toNat dd).X),ci ((a1.getD (0:Int).toNat dd).X),ci ((a1.getD (0:Int).toNat dd).Y),ci ((a1.getD (0:Int).toNat dd).Y)])] (q_sq ?_);refine s_vv [] 2 [0] [(29,vc (tl qB dd a1)),(30,vi (a1.length:Int)),(31,vi 0)] ?_;obtain⟨o9,h10,hm⟩:=qE hm
  refine zU (nd f177 244) 0 (by kernel_rfl) FUEL OA o9 (q_hl (GV a1 0 (Rect.mk (Span.mk ((a1.getD (0:Int).toNat dd).X) ((a1.getD (0:Int).toNat dd).X)) (Span.mk ((a1.getD (0:Int).toNat dd).Y) ((a1.getD (0:Int).toNat dd).Y)))) (qEd E a1 FUEL 0 (Rect.mk (Span.mk ((a1.getD (0:Int).toNat dd).X) ((a1.getD (0:Int).toNat dd).X)) (Span.mk ((a1.getD (0:Int).toNat dd).Y) ((a1.getD (0:Int).toNat dd).Y))) o9 h10)) (s_vu [] 2 [3] [] [0,1] [(0,bx 190 (JJ o9))] ?_);obtain rfl:=oi hm;exact q_rt q_rm
open Go.Proofs Go.Proofs.Tryz
def qJx (r:Int):V:=vi r
def qLi (r:Int):List (Nat×(Nat×O)):=[]
def qGg (x5:Int):St:=
 ⟨[(5,vi x5)],[]⟩
theorem qCm (a1:Int) (a2:Int) (r:Int) (hm:TZ a1 a2=some r):CtX Tryz.prog globs 179 0 0 [.one (ci a1),.one (ci a2)] [] (qJx r) (qLi r):=by
 unfold TZ at hm;refine q_E f179 16 λE=>?_;refine s_vn [] 0 ⟨[(0,vi a1),(1,vi a2)],[]⟩ ?_;obtain⟨g3,hm⟩:=qH hm;refine s_vv [qd 2 dN (MN g3)] 0 [] [(5,vi (w64 (Int.tdiv a1 a2)))] (q_jn (qGg) (λp=>GG p=some r) ?_ ?_)
 ·rintro x5 hm;refine s_vn [] 0 ⟨[(4,vi x5)],[]⟩ ?_;obtain rfl:=oi hm;exact q_rt q_rm
 ·refine s_vv [qd 2 dN (MN g3)] 0 [0,1] [(12,vb (decide ((Int.tmod a1 a2)<0)))] (q_cq hm (λhm=>?_) (λhm=>?_))
  ·exact q_vn [] 0 ⟨[(5,vi (w64 ((w64 (Int.tdiv a1 a2))-1)))],[]⟩ (q_J (w64 ((w64 (Int.tdiv a1 a2))-1)) hm)
  ·exact q_sk (q_J (w64 (Int.tdiv a1 a2)) hm)
def LO (a1:Int) (a2:Rect) (a3:List qA) (r:Int×Int):V:= .tup [.one (ci r.1),.one (ci r.2)]
def MD (a1:Int) (a2:Rect) (a3:List qA) (r:Int×Int):List (Nat×(Nat×O)):=[(0,bx 190 (JJ a2)),(1,bx 52 [.own 2 0 2 a3.length]),(2,ro 0 71 2 a3.length (rf qB a3))]
def PU (a1:Int) (a2:Rect) (a3:List qA) (x4:Int) (x5:Int) (x6:Int):St:=
 ⟨[(0,vi a1),(2,vp 1 0),(6,vi x4),(7,vi x5),(9,vp 3 0),(10,vp 4 0),(17,vo 2 0 2 a3.length),(18,vi (a3.length:Int)),(19,vi x6)],[(0,bx 190 (JJ a2)),(1,bx 52 [.own 2 0 2 a3.length]),(2,ro 0 71 2 a3.length (rf qB a3)),(3,bx 71 (qB (a3.getD x6.toNat dd))),(4,bx 71 (qB (a3.getD ((Int.tmod (w64 (x6+1)) (a3.length:Int)).toNat) dd)))]⟩
def EP (a1:Int) (a2:Rect) (a3:List qA) (x6:Int) (x23:Int) (x24:Int):St:=
 ⟨[(0,vi a1),(2,vp 1 0),(6,vi x23),(7,vi x24),(17,vo 2 0 2 a3.length),(18,vi (a3.length:Int)),(19,vi x6)],[(0,bx 190 (JJ a2)),(1,bx 52 [.own 2 0 2 a3.length]),(2,ro 0 71 2 a3.length (rf qB a3))]⟩
def qEq (a1:Int) (a2:Rect) (a3:List qA) (x4:Int) (x5:Int) (x6:Int) (x19:Bool):St:=
 (PU a1 a2 a3 x4 x5 x6).up [] [(69,vb x19)] [] []
def qEh (a1:Int) (a2:Rect) (a3:List qA) (x4:Int) (x5:Int) (x6:Int) (x13:Bool):St:=
 (PU a1 a2 a3 x4 x5 x6).up [] [(32,vb x13)] [] []
def VI (a1:Int) (a2:Rect) (a3:List qA) (x4:Int) (x5:Int) (x6:Int):St:=
 (PU a1 a2 a3 x4 x5 x6).up [9,10] [] [3,4] []
def EY (a2:Rect) (a3:List qA) (x25:Int) (x26:Int):St:=
 ⟨[(6,vi x25),(7,vi x26)],[(0,bx 190 (JJ a2)),(1,bx 52 [.own 2 0 2 a3.length]),(2,ro 0 71 2 a3.length (rf qB a3))]⟩
theorem qDo (E:Env 3) (a1:Int) (a2:Rect) (a3:List qA):∀(n:Nat) (x4:Int) (x5:Int) (x6:Int) (res:Int×Int),zX a1 a3 n x4 x5 x6=some res->HL (kx E 109 2) (nd f178 116) (zW 0 (λo=>EY a2 a3 o.1 o.2) res) n (VI a1 a2 a3 x4 x5 x6):=by
 intro n
 induction n with
 |zero=>
  intro x4 x5 x6 res hm;cases hm
 |succ n ih=>
  intro x4 x5 x6 res hm;refine qU (s_va 3 [(20,vb (decide (x6<(a3.length:Int))))] ?_);refine q_sq (q_cq hm (λhm=>?_) (λhm=>?_))
  ·refine q_sk (q_jn (ι:=Int×Int) (λp=>EP a1 a2 a3 x6 p.1 p.2) (λp=>JO x6 (zX a1 a3 n) p.1 p.2=some res) ?_ ?_)
   ·rintro⟨x23,x24⟩ hm;show H _ (EP a1 a2 a3 x6 x23 x24) _ _;exact q_vv [] 5 [19] [(19,vi (w64 (x6+1)))] (q_hl (VI a1 a2 a3 x23 x24 (w64 (x6+1))) (ih x23 x24 (w64 (x6+1)) _ hm))
   ·refine q_bk 1 ?_;obtain⟨g8,hm⟩:=qH hm;refine s_vu [qi 1 g8,qd 2 dN (zC (zJ g8))] 3 [20] [(8,vi x6),(9,vp 3 0)] [] [(3,bx 71 (qB (a3.getD x6.toNat dd)))] ?_;obtain⟨g9,hm⟩:=qH hm;obtain⟨g10,hm⟩:=qH hm;refine s_du [qd 5 dN (MN g9),qi 6 g10,qd 7 dN (zC (zJ g10))] [0,0,2,0,8,30,63,127,0,511] 4 [8] [(10,vp 4 0)] [] [(4,bx 71 (qB (a3.getD ((Int.tmod (w64 (x6+1)) (a3.length:Int)).toNat) dd)))] (q_bk 2 ?_);refine q_jn (qEh a1 a2 a3 x4 x5 x6) (λp=>JG a1 a3 x4 x5 x6 (zX a1 a3 n) p=some res) ?_ ?_
    ·rintro x13 hm;refine q_cq hm (λhm=>?_) (λhm=>?_)
     ·obtain⟨v15,h16,hm⟩:=qE hm;exact q_du [qc 17 [61,66] 5 (qCm (w64 ((w64 (((a3.getD ((Int.tmod (w64 (x6+1)) (a3.length:Int)).toNat) dd).X)-((a3.getD x6.toNat dd).X)))*(w64 (a1-((a3.getD x6.toNat dd).Y))))) (w64 (((a3.getD ((Int.tmod (w64 (x6+1)) (a3.length:Int)).toNat) dd).Y)-((a3.getD x6.toNat dd).Y))) v15 h16)] [0,1,0,4,0,16,60,0,0,256,896,2044,0,4096,0,16384,61440,131068,262143,524287] 5 [7,9,10,32] [(7,vi (w64 (((a3.getD x6.toNat dd).X)+v15)))] [3,4] [] (q_J (x4,w64 (((a3.getD x6.toNat dd).X)+v15)) hm)
     ·refine q_jn (qEq a1 a2 a3 x4 x5 x6) (λp=>JI a1 a3 x4 x5 x6 (zX a1 a3 n) p=some res) ?_ ?_
      ·rintro x19 hm;refine q_cq hm (λhm=>?_) (λhm=>?_)
       ·obtain⟨v21,h22,hm⟩:=qE hm
        exact q_du [qc 17 [98,103] 5 (qCm (w64 ((w64 (((a3.getD ((Int.tmod (w64 (x6+1)) (a3.length:Int)).toNat) dd).X)-((a3.getD x6.toNat dd).X)))*(w64 (a1-((a3.getD ((Int.tmod (w64 (x6+1)) (a3.length:Int)).toNat) dd).Y))))) (w64 (((a3.getD x6.toNat dd).Y)-((a3.getD ((Int.tmod (w64 (x6+1)) (a3.length:Int)).toNat) dd).Y))) v21 h22)] [0,1,0,4,0,16,60,0,0,256,896,2044,0,4096,0,16384,61440,131068,262143,524287] 5 [6,9,10,69] [(6,vi (w64 (((a3.getD ((Int.tmod (w64 (x6+1)) (a3.length:Int)).toNat) dd).X)-v21)))] [3,4] [] (q_J (w64 (((a3.getD ((Int.tmod (w64 (x6+1)) (a3.length:Int)).toNat) dd).X)-v21),x5) hm)
       ·exact q_sk (q_J (x4,x5) hm)
      ·rcases bif_c hm with⟨b17,hm⟩|⟨b17,hm⟩
       ·rcases bif_c hm with⟨b18,hm⟩|⟨b18,hm⟩
        ·exact q_vv [qf 5 b17,qf 11 b18] 5 [32] [(69,vb (decide (a1<=((a3.getD x6.toNat dd).Y))))] (q_J (decide (a1<=((a3.getD x6.toNat dd).Y))) hm)
        ·exact q_vv [qf 5 b17,qf 11 b18] 5 [32] [(69,vb false)] (q_J (false) hm)
       ·exact q_vv [qf 5 b17] 5 [32] [(69,vb false)] (q_J (false) hm)
    ·rcases bif_c hm with⟨b11,hm⟩|⟨b11,hm⟩
     ·rcases bif_c hm with⟨b12,hm⟩|⟨b12,hm⟩
      ·exact q_vv [qf 5 b11,qf 11 b12] 5 [] [(32,vb (decide (a1<=((a3.getD ((Int.tmod (w64 (x6+1)) (a3.length:Int)).toNat) dd).Y))))] (q_J (decide (a1<=((a3.getD ((Int.tmod (w64 (x6+1)) (a3.length:Int)).toNat) dd).Y))) hm)
      ·exact q_vv [qf 5 b11,qf 11 b12] 5 [] [(32,vb false)] (q_J (false) hm)
     ·exact q_vv [qf 5 b11] 5 [] [(32,vb false)] (q_J (false) hm)
  ·refine q_ex 0 ?_;obtain rfl:=oi hm;exact q_l0
theorem CH (a1:Int) (a2:Rect) (a3:List qA) (r:Int×Int) (hm:YP a1 a2 a3=some r):CtX Tryz.prog globs 178 3 2 [.one (ci a1),.one (.bptr 0 0 0),.one (.bptr 1 0 0)] [(0,bx 190 (JJ a2)),(1,bx 52 [.own 2 0 2 a3.length]),(2,ro 0 71 2 a3.length (rf qB a3))] (LO a1 a2 a3 r) (MD a1 a2 a3 r):=by
 unfold YP at hm;refine q_E f178 109 λE=>?_;refine s_vn [] 3 ⟨[(0,vi a1),(1,vp 0 0),(2,vp 1 0)],[(0,bx 190 (JJ a2)),(1,bx 52 [.own 2 0 2 a3.length]),(2,ro 0 71 2 a3.length (rf qB a3))]⟩ (s_du [] [0,1,3,0,8,24,7,127] 3 [1] [(6,vi a2.X.A),(7,vi a2.X.B)] [] [] ?_);refine q_sq (s_va 3 [(17,vo 2 0 2 a3.length),(18,vi (a3.length:Int)),(19,vi 0)] ?_);obtain⟨o27,h28,hm⟩:=qE hm;refine zU (nd f178 116) 0 (by kernel_rfl) FUEL (λo=>EY a2 a3 o.1 o.2) o27 (q_hl (VI a1 a2 a3 a2.X.A a2.X.B 0) (qDo E a1 a2 a3 FUEL a2.X.A a2.X.B 0 o27 h28)) (s_vv [] 3 [6,7] [(4,vi o27.1),(5,vi o27.2)] ?_)
 obtain rfl:=oi hm;exact q_rt q_rm
def qJI (r:Span):V:=va (qI r)
def qK6 (r:Span):List (Nat×(Nat×O)):=[]
def qFT (a2:Int) (a3:Int) (v4:(List qA)) (v6:Rect) (x11:Bool):St:=
 ⟨[(1,vi a2),(2,vi a3),(6,vp 0 0),(7,vp 2 0),(8,vp 3 0),(40,vb x11)],[(0,bx 64 [ci 0,ci 0]),(1,ro 0 71 2 v4.length (rf qB v4)),(2,bx 52 [.own 1 0 2 v4.length]),(3,bx 190 (JJ v6))]⟩
theorem qIJ (a1:List qA) (a2:Int) (a3:Int) (r:Span) (hm:BY a1 a2 a3=some r):CtX Tryz.prog globs 149 0 0 [.one (tl qB dd a1),.one (ci a2),.one (ci a3)] [] (qJI r) (qK6 r):=by
 unfold BY at hm;refine q_E f149 69 λE=>?_;refine s_vn [] 0 ⟨[(0,vc (tl qB dd a1)),(1,vi a2),(2,vi a3),(6,vp 0 0)],[(0,bx 64 [ci 0,ci 0])]⟩ ?_;obtain⟨v4,h5,hm⟩:=qE hm;refine s_vu [qc 1 [15] 1 (qDc a1 v4 h5)] 1 [0] [(7,vp 2 0)] [] [(1,ro 0 71 2 v4.length (rf qB v4)),(2,bx 52 [.own 1 0 2 v4.length])] ?_;obtain⟨v6,h7,hm⟩:=qE hm
 refine s_vu [qd 1 (dex (cen [] [] 3 0 (qCd v6) (GO v6) [17] [1])) (zI (K:=(kx E 69 0)) (b:=false) ⟨[(17,vo 1 0 2 v4.length)],[(1,ro 0 71 2 v4.length (rf qB v4))]⟩ (opAt (rg f149 14) 1) [] [] 3 (o1 (kr v4.length)) rfl (qHH v4 v6 h7) (.inr ⟨(by kernel_rfl),qJf v6⟩) (by kernel_rfl))] 3 [] [(8,vp 3 0)] [] [(3,bx 190 (JJ v6))] (q_sq ?_);refine q_jn (qFT a2 a3 v4 v6) (λp=>WY a2 a3 v4 v6 p=some r) ?_ ?_
 ·rintro x11 hm;refine q_cq hm (λhm=>?_) (λhm=>?_)
  ·refine s_vu [] 4 [1,2,7,8,40] [] [1,2,3] [] ?_;obtain rfl:=oi hm;exact q_rt q_rm
  ·refine q_sk (s_vv [] 4 [7,8,40] [(9,vc (.fn 178 [.bptr 3 0 0,.bptr 2 0 0]))] ?_);obtain⟨v13,h14,hm⟩:=qE hm
   refine s_vu [qd 2 (dex (cen [(3,0),(2,0),(1,0)] [0,0,1] 1 2 (LO a2 v6 v4 v13) (MD a2 v6 v4 v13) [44,45] [3,2,1])) (zI (K:=(kx E 69 0)) ⟨[(44,vc (.fn 178 [.bptr 3 0 0,.bptr 2 0 0])),(45,vi a2)],[(3,bx 190 (JJ v6)),(2,bx 52 [.own 1 0 2 v4.length]),(1,ro 0 71 2 v4.length (rf qB v4))]⟩ (opAt (rg f149 126) 2) [(3,0),(2,0),(1,0)] [0,0,1] 1 o0 rfl (CH a2 v6 v4 v13 h14) (.inl rfl) (by kernel_rfl))] 4 [1] [(10,vi v13.1),(11,vi v13.2)] [1,2] [(1,ro 1 71 2 v4.length (rf qB v4)),(2,bx 52 [.own 1 1 2 v4.length])] ?_;obtain⟨v15,h16,hm⟩:=qE hm
   refine s_vu [qd 2 (dex (cen [(3,0),(2,0),(1,1)] [0,0,2] 1 2 (LO a3 v6 v4 v15) (MD a3 v6 v4 v15) [50,51] [3,2,1])) (zI (K:=(kx E 69 0)) ⟨[(50,vc (.fn 178 [.bptr 3 0 0,.bptr 2 0 0])),(51,vi a3)],[(3,bx 190 (JJ v6)),(2,bx 52 [.own 1 1 2 v4.length]),(1,ro 1 71 2 v4.length (rf qB v4))]⟩ (opAt (rg f149 254) 2) [(3,0),(2,0),(1,1)] [0,0,2] 1 o0 rfl (CH a3 v6 v4 v15 h16) (.inl rfl) (by kernel_rfl))] 4 [2,9] [(12,vi v15.1),(13,vi v15.2)] [1,2,3] [] (s_vu [] 4 [10,11,12,13] [(14,vp 4 0)] [] [(4,bx 64 [ci (imax v13.1 v15.1),ci (imin v13.2 v15.2)])] ?_)
   refine q_sq (s_va 5 [(66,vb (decide ((imax v13.1 v15.1)≥(imin v13.2 v15.2))))] ?_);refine q_cq hm (λhm=>?_) (λhm=>?_)
   ·refine s_vu [] 5 [14,66] [] [4] [] ?_;obtain rfl:=oi hm;exact q_rt q_rm
   ·refine q_sk (s_vn [] 5 ⟨[(6,vp 0 0)],[(0,bx 64 [ci (imax v13.1 v15.1),ci (imin v13.2 v15.2)])]⟩ ?_);obtain rfl:=oi hm;exact q_rt q_rm
 ·rcases bif_c hm with⟨b8,hm⟩|⟨b8,hm⟩
  ·exact q_vv [qf 3 b8] 4 [] [(40,vb true)] (q_J (true) hm)
  ·rcases bif_c hm with⟨b9,hm⟩|⟨b9,hm⟩
   ·exact q_vv [qf 3 b8,qf 8 b9] 4 [] [(40,vb true)] (q_J (true) hm)
   ·rcases bif_c hm with⟨b10,hm⟩|⟨b10,hm⟩
    ·exact q_vv [qf 3 b8,qf 8 b9,qf 15 b10] 4 [] [(40,vb true)] (q_J (true) hm)
    ·exact q_vv [qf 3 b8,qf 8 b9,qf 15 b10] 4 [] [(40,vb (decide (a3>v6.Y.B)))] (q_J (decide (a3>v6.Y.B)) hm)
open Go.Proofs Go.Proofs.Tryz
def qBl (a1:Int) (a2:List qA) (r:Span):V:=va (qI r)
def qA0 (a1:Int) (a2:List qA) (r:Span):List (Nat×(Nat×O)):=[(0,bx 52 [tl qB dd a2])]
theorem qGe (a1:Int) (a2:List qA) (r:Span) (hm:RM a1 a2=some r):CtX Tryz.prog globs 147 1 1 [.one (ci a1),.one (.bptr 0 0 0)] [(0,bx 52 [tl qB dd a2])] (qBl a1 a2 r) (qA0 a1 a2 r):=by
 unfold RM at hm;refine q_E f147 15 λE=>?_;refine s_vn [] 1 ⟨[(0,vi a1),(1,vp 0 0),(3,vp 1 0)],[(0,bx 52 [tl qB dd a2]),(1,bx 64 [ci 0,ci 0])]⟩ ?_;obtain⟨v3,h4,hm⟩:=qE hm;refine s_vu [qc 3 [5,7] 2 (qCT a1 (w64 (a1+1)) v3 h4)] 2 [0] [(4,vp 2 0)] [] [(2,bx 64 (qI v3))] ?_;obtain⟨v5,h6,hm⟩:=qE hm;refine s_vu [qc 5 [9,11,13] 3 (qIJ a2 v3.A v3.B v5 h6)] 3 [1,4] [] [1,2] [(1,bx 64 (qI v5))] ?_;obtain rfl:=oi hm;exact q_rt q_rm
def qEm (r:Bool):V:=vb r
def qEw (r:Bool):List (Nat×(Nat×O)):=[]
theorem wX (a1:Span) (r:Bool) (hm:jE a1=some r):CtX Tryz.prog globs 118 0 0 [.agg (qI a1)] [] (qEm r) (qEw r):=by
 unfold jE at hm;refine q_E f118 8 λE=>?_;refine s_vn [] 0 ⟨[(1,vp 0 0)],[(0,bx 64 (qI a1))]⟩ (s_vn [] 1 ⟨[(2,vb (decide (a1.A≥a1.B)))],[]⟩ ?_);obtain rfl:=oi hm;exact q_rt q_rm
def CN (a1:List qA) (r:qC):V:=va [ci r.Low,.own 1 0 2 r.Rows.length]
def qAj (a1:List qA) (r:qC):List (Nat×(Nat×O)):=[(0,bx 52 [tl qB dd a1]),(1,ro 0 64 2 r.Rows.length (rf qI r.Rows))]
def KH (a1:List qA) (x3:Int):St:=
 ⟨[(0,vc (.fn 147 [.bptr 0 0 0])),(2,vp 1 0),(3,vp 2 0),(5,vi x3)],[(0,bx 52 [tl qB dd a1]),(1,bx 48 [ci 0,.emp])]⟩
def SS (a1:List qA) (x3:Int) (x17:Int) (x18:Int) (l19:List Span) (l19n:Nat):St:=
 (KH a1 x3).up [] [(4,vi x17)] [] [(2,bx 48 [ci x18,.own 3 0 2 l19n]),(3,ro 0 64 2 l19n (rf qI l19))]
def qDp (a1:List qA) (x3:Int) (l5:List Span) (v7:Span) (x13:Int):St:=
 (KH a1 x3).up [] [(6,vp 4 0)] [] [(2,bx 48 [ci x13,.own 3 0 2 l5.length]),(3,ro 0 64 2 l5.length (rf qI l5)),(4,bx 64 (qI v7))]
def RJ (a1:List qA) (x2:Int) (x3:Int) (x4:Int) (l5:List Span) (l5n:Nat):St:=
 (KH a1 x3).up [] [(4,vi x2)] [] [(2,bx 48 [ci x4,.own 3 0 2 l5n]),(3,ro 0 64 2 l5n (rf qI l5))]
def SU (a1:List qA) (x20:Int) (x21:Int) (l22:List Span):St:=
 ⟨[(2,vp 1 0),(3,vp 2 0),(4,vi x20)],[(0,bx 52 [tl qB dd a1]),(1,bx 48 [ci 0,.emp]),(2,bx 48 [ci x21,.own 3 0 2 l22.length]),(3,ro 0 64 2 l22.length (rf qI l22))]⟩
theorem qCE (E:Env 1) (a1:List qA):∀(n:Nat) (x2:Int) (x3:Int) (x4:Int) (l5:List Span) (l5n:Nat) (res:Int×Int×(List Span)),l5.length=l5n->zT a1 n x2 x3 x4 l5=some res->HL (kx E 46 1) (nd f80 244) (zW 0 (λo=>SU a1 o.1 o.2.1 o.2.2) res) n (RJ a1 x2 x3 x4 l5 l5n):=by
 intro n
 induction n with
 |zero=>
  intro x2 x3 x4 l5 l5n res hl0 hm;cases hm
 |succ n ih=>
  intro x2 x3 x4 l5 l5n res hl0 hm;subst hl0;refine qU (q_sq ?_);refine s_va 4 [(8,vb (decide (x3<60)))] (q_cq hm (λhm=>?_) (λhm=>?_))
  ·refine q_sk (q_jn (ι:=Int×Int×(List Span)×Nat) (λp=>SS a1 x3 p.1 p.2.1 p.2.2.1 p.2.2.2) (λp=>p.2.2.1.length=p.2.2.2/\WE x3 (zT a1 n) p.1 p.2.1 p.2.2.1=some res) ?_ ?_)
   ·rintro⟨x17,x18,l19,l19n⟩ ⟨el19,hm⟩;replace el19:l19.length=l19n:=el19;subst el19;show H _ (SS a1 x3 x17 x18 l19 l19.length) _ _;exact q_vv [] 6 [5] [(5,vi (w64 (x3+1)))] (q_hl (RJ a1 x17 (w64 (x3+1)) x18 l19 l19.length) (ih x17 (w64 (x3+1)) x18 l19 l19.length _ rfl hm))
   ·refine q_bk 1 ?_;obtain⟨v7,h8,hm⟩:=qE hm;refine s_vu [qd 2 (dex (cen [(0,0)] [0] 3 1 (qBl x3 a1 v7) (qA0 x3 a1 v7) [11,12] [0])) (zI (K:=(kx E 46 1)) ⟨[(11,vc (.fn 147 [.bptr 0 0 0])),(12,vi x3)],[(0,bx 52 [tl qB dd a1])]⟩ (opAt (rg f80 3912) 2) [(0,0)] [0] 3 o0 rfl (qGe x3 a1 v7 h8) (.inl rfl) (by kernel_rfl))] 4 [8] [(6,vp 4 0)] [] [(4,bx 64 (qI v7))] (q_bk 2 ?_);obtain⟨v9,h10,hm⟩:=qE hm;refine s_vv [qc 1 [15] 5 (wX v7 v9 h10)] 5 [] [(14,vb (!v9))] (q_cq hm (λhm=>?_) (λhm=>?_))
    ·refine q_jn (qDp a1 x3 l5 v7) (λp=>KF x3 l5 (zT a1 n) v7 p=some res) ?_ ?_
     ·rintro x13 hm;obtain⟨g14,hm⟩:=qH hm;refine s_vu [qd 3 (drw 5 0 (rf qI [v7])) (litP qI dd 2 (λ_=>rfl) ([v7]:List Span) 1 rfl),qd 4 (drw 3 1 (rf qI (l5++[v7]))) (apP qI dd l5 ([v7]:List Span) l5.length 1 2 16 (1<=1) (kr _) rfl rfl (λ_=>rfl) (wE g14))] 5 [6] [] [2,3,4] [(2,bx 48 [ci x13,.own 3 1 2 (l5.length+1)]),(3,ro 1 64 2 (l5.length+1) (rf qI (l5++[v7])))] (q_va 6 [(4,vi (((l5.length+1):Nat):Int))] ?_);exact q_J ((((l5.length+1):Nat):Int),x13,(l5++[v7]),(l5.length+1)) ⟨(wS rfl rfl),hm⟩
     ·refine s_vv [] 5 [4,14] [(19,vb (x2==0))] (q_cq hm (λhm=>?_) (λhm=>?_))
      ·exact q_vu [] 5 [19] [] [2] [(2,bx 48 [ci x3,.own 3 0 2 l5.length])] (q_J (x3) hm)
      ·exact q_sk (q_J (x4) hm)
    ·refine s_vu [] 5 [6,14] [(31,vb (decide (x2>0)))] [4] [] (q_cq hm (λhm=>?_) (λhm=>?_))
     ·obtain⟨g16,hm⟩:=qH hm;exact q_vu [qd 3 (drw 5 0 (rf qI [(Span.mk 0 0)])) (litP qI dd 2 (λ_=>rfl) ([(Span.mk 0 0)]:List Span) 1 rfl),qd 4 (drw 3 1 (rf qI (l5++[(Span.mk 0 0)]))) (apP qI dd l5 ([(Span.mk 0 0)]:List Span) l5.length 1 2 16 (1<=1) (kr _) rfl rfl (λ_=>rfl) (wE g16))] 5 [31] [] [2,3] [(2,bx 48 [ci x4,.own 3 1 2 (l5.length+1)]),(3,ro 1 64 2 (l5.length+1) (rf qI (l5++[(Span.mk 0 0)])))] (q_J (x2,x4,(l5++[(Span.mk 0 0)]),(l5.length+1)) ⟨(wS rfl rfl),hm⟩)
     ·exact q_sk (q_J (x2,x4,l5,l5.length) ⟨rfl,hm⟩)
  ·refine q_ex 0 ?_;obtain rfl:=oi hm;exact q_l0
theorem qEW (a1:List qA) (r:qC) (hm:PA a1=some r):CtX Tryz.prog globs 80 1 1 [.one (.fn 147 [.bptr 0 0 0])] [(0,bx 52 [tl qB dd a1])] (CN a1 r) (qAj a1 r):=by
 unfold PA at hm;refine q_E f80 46 λE=>?_;refine s_vn [] 1 ⟨[(0,vc (.fn 147 [.bptr 0 0 0])),(2,vp 1 0)],[(0,bx 52 [tl qB dd a1]),(1,bx 48 [ci 0,.emp])]⟩ (s_vu [] 2 [] [(3,vp 2 0)] [] [(2,bx 48 [ci 0,.emp])] ?_);refine s_va 3 [(4,vi 0)] (q_sq ?_);refine s_va 3 [(5,vi (-60))] (q_fu [.ownB 2 1 3 64 2 (rf qI [])] [] [] [2] [(2,bx 48 [ci 0,.own 3 0 2 0]),(3,ro 0 64 2 0 (rf qI []))] o0 ?_);obtain⟨o23,h24,hm⟩:=qE hm;refine zU (nd f80 244) 0 (by kernel_rfl) FUEL (λo=>SU a1 o.1 o.2.1 o.2.2) o23 (q_hl (RJ a1 0 (-60) 0 ([]:List Span) 0) (qCE E a1 FUEL 0 (-60) 0 ([]:List Span) 0 o23 rfl h24)) ?_
 obtain⟨g25,hm⟩:=qH hm;refine s_wu [qd 3 dN (And.intro (zG g25).2.1 (zG g25).2.2)] [.row 3 o23.1.toNat (rf qI (o23.2.2.take o23.1.toNat))] (o1 (tkP qI dd o23.2.2 o23.2.2.length o23.1.toNat (show o23.1.toNat<=o23.2.2.length by have:=(zG g25);omega))) 4 [4] [] [2,3] [(2,bx 48 [ci o23.2.1,.own 3 0 2 o23.1.toNat]),(3,ro 0 64 2 o23.1.toNat (rf qI (o23.2.2.take o23.1.toNat)))] (s_vu [] 4 [3] [] [1,2] [(1,bx 48 [ci o23.2.1,.own 3 0 2 o23.1.toNat])] ?_)
 refine q_fu [.len 3 ((o23.2.2.take o23.1.toNat).length)] [] [] [1,3] [(1,bx 48 [ci o23.2.1,.own 3 0 2 ((o23.2.2.take o23.1.toNat).length)]),(3,ro 0 64 2 ((o23.2.2.take o23.1.toNat).length) (rf qI (o23.2.2.take o23.1.toNat)))] (o1 (And.intro (Eq.symm (show(o23.2.2.take o23.1.toNat).length=o23.1.toNat from(KL rfl (show o23.1.toNat<=o23.2.2.length by have:=(zG g25);omega)))) (Eq.symm (show(o23.2.2.take o23.1.toNat).length=o23.1.toNat from(KL rfl (show o23.1.toNat<=o23.2.2.length by have:=(zG g25);omega)))))) ?_;obtain rfl:=oi hm;exact q_sw 3 1 (q_rt q_rm)
open Go.Proofs Go.Proofs.Tryz
def qDi (r:qC×Int):V:= .tup [.agg [ci r.1.Low,.own 0 0 2 r.1.Rows.length],.one (ci r.2)]
def FD (r:qC×Int):List (Nat×(Nat×O)):=[(0,ro 0 64 2 r.1.Rows.length (rf qI r.1.Rows))]
theorem qJO (r:qC×Int):yX (FD r):=by
 intro i k o h;unfold FD at h;rw[look_cons] at h;split at h
 ·cases h;exact λ_ _=>rfl
 ·cases h
theorem qI6 (a1:List qA) (r:qC×Int) (hm:BV a1=some r):CtX Tryz.prog globs 92 0 0 [.one (tl qB dd a1)] [] (qDi r) (FD r):=by
 unfold BV at hm;refine q_E f92 20 λE=>?_;refine s_vn [] 0 ⟨[(1,vp 0 0),(2,vp 1 0)],[(0,bx 52 [tl qB dd a1]),(1,bx 48 [ci 0,.emp])]⟩ (q_sq ?_);obtain⟨v2,h3,hm⟩:=qE hm;refine s_vv [qc 1 [6] 2 (GE a1 v2 h3)] 2 [] [(4,vi v2)] (s_va 2 [(9,vb (v2 !=0))] ?_);refine q_cq hm (λhm=>?_) (λhm=>?_)
 ·refine s_vu [] 2 [1,4,9] [(3,vi v2)] [0] [] (q_fu [.ownB 1 1 2 64 2 (rf qI [])] [] [] [1] [(1,bx 48 [ci 0,.own 2 0 2 0]),(2,ro 0 64 2 0 (rf qI []))] o0 ?_);refine q_fu [.len 2 (([]:List Span).length)] [] [] [1,2] [(1,bx 48 [ci 0,.own 2 0 2 (([]:List Span).length)]),(2,ro 0 64 2 (([]:List Span).length) (rf qI []))] (o1 (And.intro (show 0=([]:List Span).length from rfl) (show 0=([]:List Span).length from rfl))) ?_;obtain rfl:=oi hm;exact q_sw 2 0 (q_rt q_rm)
 ·refine q_sk ?_;obtain⟨v5,h6,hm⟩:=qE hm;refine s_vu [qd 1 (dex (cen [(0,0)] [0] 1 1 (CN a1 v5) (qAj a1 v5) [12] [0])) (zI (K:=(kx E 20 0)) ⟨[(12,vc (.fn 147 [.bptr 0 0 0]))],[(0,bx 52 [tl qB dd a1])]⟩ (opAt (rg f92 14) 1) [(0,0)] [0] 1 o0 rfl (qEW a1 v5 h6) (.inl rfl) (by kernel_rfl))] 2 [1,4,9] [(5,vp 3 0)] [0] [(2,ro 0 64 2 v5.Rows.length (rf qI v5.Rows)),(3,bx 48 [ci v5.Low,.own 2 0 2 v5.Rows.length])] (q_sq ?_);refine s_va 4 [(17,vb ((v5.Rows.length:Int)==0))] (q_cq hm (λhm=>?_) (λhm=>?_))
  ·refine s_vu [] 4 [5,17] [(3,vi 18)] [2,3] [] (q_fu [.ownB 1 1 4 64 2 (rf qI [])] [] [] [1] [(1,bx 48 [ci 0,.own 4 0 2 0]),(4,ro 0 64 2 0 (rf qI []))] o0 ?_);refine q_fu [.len 4 (([]:List Span).length)] [] [] [1,4] [(1,bx 48 [ci 0,.own 4 0 2 (([]:List Span).length)]),(4,ro 0 64 2 (([]:List Span).length) (rf qI []))] (o1 (And.intro (show 0=([]:List Span).length from rfl) (show 0=([]:List Span).length from rfl))) ?_;obtain rfl:=oi hm;exact q_sw 4 0 (q_rt q_rm)
  ·refine q_sk (s_vu [] 4 [5,17] [(3,vi 0)] [1,3] [(1,bx 48 [ci v5.Low,.own 2 0 2 v5.Rows.length])] ?_);obtain rfl:=oi hm;exact q_sw 2 0 (q_rt q_rm)
def qE5 (r:qC×Int):V:= .tup [.agg [ci r.1.Low,.own 0 0 2 r.1.Rows.length],.one (ci r.2)]
def qFE (r:qC×Int):List (Nat×(Nat×O)):=[(0,ro 0 64 2 r.1.Rows.length (rf qI r.1.Rows))]
theorem qEv (a1:Ring) (a2:Int) (a3:Int) (r:qC×Int) (hm:YY a1 a2 a3=some r):CtX Tryz.prog globs 44 0 0 [.agg (qN a1),.one (ci a2),.one (ci a3)] [] (qE5 r) (qFE r):=by
 unfold YY at hm;refine q_E f44 26 λE=>?_;refine s_vn [] 0 ⟨[(1,vi a2),(2,vi a3),(3,vp 0 0),(6,vp 1 0)],[(0,bx 45 (qN a1)),(1,bx 48 [ci 0,.emp])]⟩ ?_;obtain⟨v4,h5,hm⟩:=qE hm;obtain⟨v6,h7,hm⟩:=qE hm
 refine s_vu [qc 2 [11,12] 2 (qIX a1 a2 v4 h5),qd 4 (dex (cen [] [] 3 0 (qCj v6) (GT v6) [13,14] [2])) (zI (K:=(kx E 26 0)) (b:=false) ⟨[(13,va [ci v4.Z,.own 2 0 3 v4.Read.length]),(14,vi a3)],[(2,ro 0 73 3 v4.Read.length (rf qG v4.Read))]⟩ (opAt (rg f44 6) 4) [] [] 3 (o1 (kr v4.Read.length)) rfl (qHf (Ring.mk v4.Z v4.Read) a3 v6 h7) (.inr ⟨(by kernel_rfl),qIS v6⟩) (by kernel_rfl))] 2 [1,2,3] [(8,vo 3 0 2 v6.1.length),(9,vi v6.2)] [0] [(3,ro 0 71 2 v6.1.length (rf qB v6.1))] (q_sq ?_);refine s_va 4 [(19,vb (v6.2 !=0))] (q_cq hm (λhm=>?_) (λhm=>?_))
 ·refine s_vu [] 4 [8,9,19] [(7,vi v6.2)] [3] [] (q_fu [.ownB 1 1 4 64 2 (rf qI [])] [] [] [1] [(1,bx 48 [ci 0,.own 4 0 2 0]),(4,ro 0 64 2 0 (rf qI []))] o0 ?_);refine q_fu [.len 4 (([]:List Span).length)] [] [] [1,4] [(1,bx 48 [ci 0,.own 4 0 2 (([]:List Span).length)]),(4,ro 0 64 2 (([]:List Span).length) (rf qI []))] (o1 (And.intro (show 0=([]:List Span).length from rfl) (show 0=([]:List Span).length from rfl))) ?_;obtain rfl:=oi hm;exact q_sw 4 0 (q_rt q_rm)
 ·refine q_sk ?_;obtain⟨v9,h10,hm⟩:=qE hm;refine s_vn [qd 1 (dex (cen [] [] 4 0 (qDi v9) (FD v9) [22] [3])) (zI (K:=(kx E 26 0)) (b:=false) ⟨[(22,vo 3 0 2 v6.1.length)],[(3,ro 0 71 2 v6.1.length (rf qB v6.1))]⟩ (opAt (rg f44 30) 1) [] [] 4 (o1 (kr v6.1.length)) rfl (qI6 v6.1 v9 h10) (.inr ⟨(by kernel_rfl),qJO v9⟩) (by kernel_rfl))] 4 ⟨[(6,vp 1 0),(7,vi v9.2)],[(1,bx 48 [ci v9.1.Low,.own 4 0 2 v9.1.Rows.length]),(4,ro 0 64 2 v9.1.Rows.length (rf qI v9.1.Rows))]⟩ ?_;obtain rfl:=oi hm;exact q_sw 4 0 (q_rt q_rm)
end Saw
end Go.SL

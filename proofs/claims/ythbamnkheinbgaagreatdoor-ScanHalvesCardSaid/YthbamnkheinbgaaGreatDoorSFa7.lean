import Derived.Test.YthbamnkheinbgaaGreatDoorSBase
import Derived.Test.YthbamnkheinbgaaGreatDoorSFa6
import Derived.Test.YthbamnkheinbgaaGreatDoorSFa1
import Derived.Test.YthbamnkheinbgaaGreatDoorSFa2
set_option linter.unusedVariables false
set_option linter.unusedSimpArgs false
namespace Go.SL
namespace Saw
open Go.Proofs Go.Proofs.Tryz
set_option maxHeartbeats 4000000
set_option maxRecDepth 100000
def JD (r:Bool):V:=vb r
def WV (r:Bool):List (Nat×(Nat×O)):=[]
def ZK (a1:List Ring) (a2:List Ring) (x4:Int):St:=
 ⟨[(1,vc (tl qM dd a2)),(2,vc (.fn 58 [])),(15,vc (tl qM dd a1)),(16,vi (a1.length:Int)),(17,vi x4)],[]⟩
def PD :St:=
 ⟨[],[]⟩
theorem SC (E:Env 0) (a1:List Ring) (a2:List Ring):∀(n:Nat) (x4:Int) (res:Bool⊕Unit),zX a1 a2 n x4=some res->HL (kx E 32 0) (nd f60 116) (jS 0 (λo=>PD) (λv st=>RetQ Tryz.prog f60 (JD v) (WV v) .ret st) res) n (ZK a1 a2 x4):=by
 intro n
 induction n with
 |zero=>
  intro x4 res hm;cases hm
 |succ n ih=>
  intro x4 res hm;refine qS (s_va 0 [(18,vb (decide (x4<(a1.length:Int))))] ?_);refine q_sq (q_cq hm (λhm=>?_) (λhm=>?_))
  ·refine q_sk (q_sq ?_);refine q_bk 1 ?_;obtain⟨g6,hm⟩:=qK hm;refine s_vu [qi 1 g6] 0 [18] [(7,vi x4),(8,vp 0 0)] [] [(0,bx 45 (qM (a1.getD x4.toNat dd)))] ?_;obtain⟨g7,hm⟩:=qK hm;refine s_vu [qi 2 g7] 1 [7] [(9,vp 1 0)] [] [(1,bx 45 (qM (a2.getD x4.toNat dd)))] ?_;obtain⟨v8,h9,hm⟩:=qE hm
   refine s_vu [qk 3 [26,27,28] 2 ⟨[(26,vc (.fn 58 [])),(27,va [ci ((a1.getD x4.toNat dd).Z),tl qH dd ((a1.getD x4.toNat dd).Read)]),(28,va [ci ((a2.getD x4.toNat dd).Z),tl qH dd ((a2.getD x4.toNat dd).Read)])],[]⟩ (qI2 (a1.getD x4.toNat dd) (a2.getD x4.toNat dd) v8 h9)] 2 [8,9] [(30,vb (!v8))] [0,1] [] (q_cq hm (λhm=>?_) (λhm=>?_))
   ·refine s_vn [] 2 ⟨[(6,vb false)],[]⟩ ?_;obtain rfl:=oi hm;refine q_rt (zZ false ?_);exact q_rm
   ·refine q_sk (q_vv [] 2 [17,30] [(17,vi (w64 (x4+1)))] ?_);exact q_hl (ZK a1 a2 (w64 (x4+1))) (ih (w64 (x4+1)) _ hm)
  ·refine q_ex 0 ?_;obtain rfl:=oi hm;exact q_l1 ()
theorem UA (a1:List Ring) (a2:List Ring) (r:Bool) (hm:ZE a1 a2=some r):CtX Tryz.prog globs 60 0 0 [.one (tl qM dd a1),.one (tl qM dd a2),.one (.fn 58 [])] [] (JD r) (WV r):=by
 unfold ZE at hm;refine q_E f60 32 λE=>?_;refine s_vn [] 0 ⟨[(0,vc (tl qM dd a1)),(1,vc (tl qM dd a2)),(2,vc (.fn 58 []))],[]⟩ (q_sq ?_);refine s_va 0 [(14,vb ((a1.length:Int) !=(a2.length:Int)))] (q_cq hm (λhm=>?_) (λhm=>?_))
 ·refine s_vn [] 0 ⟨[(6,vb false)],[]⟩ ?_;obtain rfl:=oi hm;exact q_rt q_rm
 ·refine q_sk (q_sq ?_);refine s_vv [] 0 [0,14] [(15,vc (tl qM dd a1)),(16,vi (a1.length:Int)),(17,vi 0)] ?_;obtain⟨u13,h12,hm⟩:=qE hm;refine wJ (nd f60 116) 0 (by kernel_rfl) FUEL (λo=>PD) (λv st=>RetQ Tryz.prog f60 (JD v) (WV v) .ret st) u13 (q_hl (ZK a1 a2 0) (SC E a1 a2 FUEL 0 u13 h12)) ?_ ?_
  ·rintro v14 rfl st hr;obtain rfl:=oi hm;exact hr
  ·rintro o11 rfl;replace hm:_=some r:=hm;refine s_vn [] 0 ⟨[(6,vb true)],[]⟩ ?_;obtain rfl:=oi hm;exact q_rt q_rm
def XH (r:Bool):V:=vb r
def XG (r:Bool):List (Nat×(Nat×O)):=[]
def WJ (a1:List qF) (a2:List qF) (x4:Int):St:=
 ⟨[(0,vc (tl qJ dd a1)),(1,vc (tl qJ dd a2)),(12,vi (a1.length:Int)),(13,vi x4)],[]⟩
def TQ :St:=
 ⟨[],[]⟩
theorem IK (E:Env 0) (a1:List qF) (a2:List qF):∀(n:Nat) (x4:Int) (res:Bool⊕Unit),wE a1 a2 n x4=some res->HL (kx E 26 0) (nd f61 116) (jS 0 (λo=>TQ) (λv st=>RetQ Tryz.prog f61 (XH v) (XG v) .ret st) res) n (WJ a1 a2 x4):=by
 intro n
 induction n with
 |zero=>
  intro x4 res hm;cases hm
 |succ n ih=>
  intro x4 res hm;refine qS (s_va 0 [(14,vb (decide (x4<(a1.length:Int))))] ?_);refine q_sq (q_cq hm (λhm=>?_) (λhm=>?_))
  ·refine q_sk (q_sq ?_);refine q_bk 1 (s_vv [] 0 [14] [(5,vi x4)] ?_);obtain⟨g6,hm⟩:=qK hm;obtain⟨g7,hm⟩:=qK hm
   refine s_du [qi 2 g6,qi 6 g7] [0,0,3,7,0,0,48,112,255] 0 [5] [(24,vb (!((((a1.getD x4.toNat dd).Kind)==((a2.getD x4.toNat dd).Kind))&&((((((((a1.getD x4.toNat dd).Box).X).A)==((((a2.getD x4.toNat dd).Box).X).A))&&((((((a1.getD x4.toNat dd).Box).X).B)==((((a2.getD x4.toNat dd).Box).X).B))&&true))&&(((((((a1.getD x4.toNat dd).Box).Y).A)==((((a2.getD x4.toNat dd).Box).Y).A))&&((((((a1.getD x4.toNat dd).Box).Y).B)==((((a2.getD x4.toNat dd).Box).Y).B))&&true))&&(((((((a1.getD x4.toNat dd).Box).Z).A)==((((a2.getD x4.toNat dd).Box).Z).A))&&((((((a1.getD x4.toNat dd).Box).Z).B)==((((a2.getD x4.toNat dd).Box).Z).B))&&true))&&true)))&&true))))] [] [] (q_cq hm (λhm=>?_) (λhm=>?_))
   ·refine s_vn [] 0 ⟨[(4,vb false)],[]⟩ ?_;obtain rfl:=oi hm;refine q_rt (zZ false ?_);exact q_rm
   ·refine q_sk (q_vv [] 0 [13,24] [(13,vi (w64 (x4+1)))] ?_);exact q_hl (WJ a1 a2 (w64 (x4+1))) (ih (w64 (x4+1)) _ hm)
  ·refine q_ex 0 ?_;obtain rfl:=oi hm;exact q_l1 ()
theorem qAI (a1:List qF) (a2:List qF) (r:Bool) (hm:yS a1 a2=some r):CtX Tryz.prog globs 61 0 0 [.one (tl qJ dd a1),.one (tl qJ dd a2)] [] (XH r) (XG r):=by
 unfold yS at hm;refine q_E f61 26 λE=>?_;refine s_vn [] 0 ⟨[(0,vc (tl qJ dd a1)),(1,vc (tl qJ dd a2))],[]⟩ (q_sq ?_);refine s_va 0 [(10,vb ((a1.length:Int) !=(a2.length:Int)))] (q_cq hm (λhm=>?_) (λhm=>?_))
 ·refine s_vn [] 0 ⟨[(4,vb false)],[]⟩ ?_;obtain rfl:=oi hm;exact q_rt q_rm
 ·refine q_sk (q_sq ?_);refine s_vv [] 0 [10] [(12,vi (a1.length:Int)),(13,vi 0)] ?_;obtain⟨u11,h10,hm⟩:=qE hm;refine wJ (nd f61 116) 0 (by kernel_rfl) FUEL (λo=>TQ) (λv st=>RetQ Tryz.prog f61 (XH v) (XG v) .ret st) u11 (q_hl (WJ a1 a2 0) (IK E a1 a2 FUEL 0 u11 h10)) ?_ ?_
  ·rintro v12 rfl st hr;obtain rfl:=oi hm;exact hr
  ·rintro o9 rfl;replace hm:_=some r:=hm;refine s_vn [] 0 ⟨[(4,vb true)],[]⟩ ?_;obtain rfl:=oi hm;exact q_rt q_rm
def qGf (r:Bool):V:=vb r
def EJ (r:Bool):List (Nat×(Nat×O)):=[]
theorem qNS (r:Bool):QM (EJ r):=by
 intro i k o h;unfold EJ at h;cases h
def qJE (x8:Bool):St:=
 ⟨[(4,vb x8)],[]⟩
theorem qEW (a1:Scan) (a2:Scan) (r:Bool) (hm:PC a1 a2=some r):CtX Tryz.prog globs 24 0 0 [.agg (qX a1),.agg (qX a2)] [] (qGf r) (EJ r):=by
 unfold PC at hm;refine q_E f24 19 λE=>?_;refine s_vn [] 0 ⟨[(2,vp 0 0),(3,vp 1 0)],[(0,bx 25 (qX a1)),(1,bx 25 (qX a2))]⟩ (s_va 2 [(5,vc (.fn 58 []))] ?_);refine q_jn (qJE) (λp=>LC p=some r) ?_ ?_
 ·rintro x8 hm;obtain rfl:=oi hm;exact q_rt q_rm
 ·obtain⟨v3,h4,hm⟩:=qE hm;rcases bif_c hm with⟨b5,hm⟩|⟨b5,hm⟩
  ·obtain⟨v6,h7,hm⟩:=qE hm;exact q_vn [qc 5 [7,9,10] 2 (UA a1.Rings a2.Rings v3 h4),qf 6 b5,qk 11 [12,14,16] 2 ⟨[(12,vb true),(14,vc (tl qJ dd a1.Defects)),(16,vc (tl qJ dd a2.Defects))],[]⟩ (qAI a1.Defects a2.Defects v6 h7)] 2 ⟨[(4,vb v6)],[]⟩ (q_J (v6) hm)
  ·exact q_vn [qc 5 [7,9,10] 2 (UA a1.Rings a2.Rings v3 h4),qf 6 b5] 2 ⟨[(4,vb false)],[]⟩ (q_J (false) hm)
open Go.Proofs Go.Proofs.Tryz
def qND (r:Int):V:=vc (.val (.int .u64 r))
def qNB (r:Int):List (Nat×(Nat×O)):=[]
theorem qNb (a1:Span) (r:Int) (hm:qFh a1=some r):CtX Tryz.prog globs 176 0 0 [.agg (qG a1)] [] (qND r) (qNB r):=by
 unfold qFh at hm;refine q_E f176 15 λE=>?_;refine s_vn [] 0 ⟨[(1,vp 0 0)],[(0,bx 64 (qG a1))]⟩ (q_sq ?_);refine s_va 1 [(7,vb (decide (a1.A≥a1.B)))] (q_cq hm (λhm=>?_) (λhm=>?_))
 ·refine s_vn [] 1 ⟨[(2,vc (.val (.int .u64 0)))],[]⟩ ?_;obtain rfl:=oi hm;exact q_rt q_rm
 ·refine q_sk (s_vn [] 1 ⟨[(2,vc (.val (.int .u64 (IntKind.u64.wrap ((IntKind.u64.wrap (a1.B))-(IntKind.u64.wrap (a1.A)))))))],[]⟩ ?_);obtain rfl:=oi hm;exact q_rt q_rm
def qJh (r:Int):V:=vi r
def qJb (r:Int):List (Nat×(Nat×O)):=[]
theorem qIQ (a1:Int) (r:Int) (hm:qAa a1=some r):CtX Tryz.prog globs 175 0 0 [.one (.val (.int .u64 a1))] [] (qJh r) (qJb r):=by
 unfold qAa at hm;refine q_E f175 6 λE=>?_;refine s_vn [] 0 ⟨[(0,vc (.val (.int .u64 a1)))],[]⟩ (s_vn [] 0 ⟨[(2,vi (w64 (imin a1 9223372036854775807)))],[]⟩ ?_);obtain rfl:=oi hm;exact q_rt q_rm
def qOR (r:Int):V:=vi r
def qOJ (r:Int):List (Nat×(Nat×O)):=[]
theorem qNN (a1:Span) (r:Int) (hm:qG8 a1=some r):CtX Tryz.prog globs 144 0 0 [.agg (qG a1)] [] (qOR r) (qOJ r):=by
 unfold qG8 at hm;refine q_E f144 6 λE=>?_;refine s_vn [] 0 ⟨[(1,vp 0 0)],[(0,bx 64 (qG a1))]⟩ ?_;obtain⟨v2,h3,hm⟩:=qE hm;obtain⟨v4,h5,hm⟩:=qE hm;refine s_vn [qc 1 [3] 1 (qNb a1 v2 h3),qc 2 [4] 1 (qIQ v2 v4 h5)] 1 ⟨[(2,vi v4)],[]⟩ ?_;obtain rfl:=oi hm;exact q_rt q_rm
open Go.Proofs Go.Proofs.Tryz
def qJH (r:Int):V:=vi r
def qI0 (r:Int):List (Nat×(Nat×O)):=[]
def GY (v2:qB) (x4:Int) (x5:Int):St:=
 ⟨[(3,vi x4),(8,vc (tl qG dd v2.Rows)),(9,vi (v2.Rows.length:Int)),(10,vi x5)],[]⟩
def IY (x10:Int):St:=
 ⟨[(3,vi x10)],[]⟩
theorem qEV (E:Env 0) (v2:qB):∀(n:Nat) (x4:Int) (x5:Int) (res:Int),LD v2 n x4 x5=some res->HL (kx E 21 0) (nd f89 116) (zS 0 IY res) n (GY v2 x4 x5):=by
 intro n
 induction n with
 |zero=>
  intro x4 x5 res hm;cases hm
 |succ n ih=>
  intro x4 x5 res hm;refine qS (s_va 1 [(11,vb (decide (x5<(v2.Rows.length:Int))))] ?_);refine q_sq (q_cq hm (λhm=>?_) (λhm=>?_))
  ·refine q_sk (q_sq ?_);refine q_bk 1 ?_;obtain⟨g7,hm⟩:=qK hm;refine s_vu [qi 0 g7] 1 [11] [(5,vp 1 0)] [] [(1,bx 64 (qG (v2.Rows.getD x5.toNat dd)))] ?_;obtain⟨v8,h9,hm⟩:=qE hm;refine q_vu [qc 2 [15] 2 (qNN (v2.Rows.getD x5.toNat dd) v8 h9)] 2 [3,5] [(3,vi (w64 (x4+v8)))] [1] [] (q_vv [] 2 [10] [(10,vi (w64 (x5+1)))] ?_);exact q_hl (GY v2 (w64 (x4+v8)) (w64 (x5+1))) (ih (w64 (x4+v8)) (w64 (x5+1)) _ hm)
  ·refine q_ex 0 ?_;obtain rfl:=oi hm;exact q_l0
theorem qIA (a1:qB) (r:Int) (hm:CK a1=some r):CtX Tryz.prog globs 89 0 0 [.agg (qL a1)] [] (qJH r) (qI0 r):=by
 unfold CK at hm;refine q_E f89 21 λE=>?_;refine s_vn [] 0 ⟨[(1,vp 0 0)],[(0,bx 48 (qL a1))]⟩ (s_va 1 [(3,vi 0)] ?_);refine q_sq ?_;obtain⟨v2,h3,hm⟩:=qE hm;refine s_vu [qc 1 [6] 1 (jY a1 v2 h3)] 1 [1] [(8,vc (tl qG dd v2.Rows)),(9,vi (v2.Rows.length:Int)),(10,vi 0)] [0] [] ?_;obtain⟨o11,h12,hm⟩:=qE hm;refine zL (nd f89 116) 0 (by kernel_rfl) FUEL IY o11 (q_hl (GY v2 0 0) (qEV E v2 FUEL 0 0 o11 h12)) (s_vn [] 1 ⟨[(2,vi (w64 (10*o11)))],[]⟩ ?_);obtain rfl:=oi hm;exact q_rt q_rm
def IL (r:Int):V:=vi r
def IR (r:Int):List (Nat×(Nat×O)):=[]
def qGZ (a1:List qT) (x4:Int) (x5:Int) (x13:Bool):St:=
 ⟨[(3,vi x4),(5,vp 0 0),(13,vc (tl zB dd a1)),(14,vi (a1.length:Int)),(15,vi x5),(39,vb x13)],[(0,bx 50 (zB (a1.getD x5.toNat dd)))]⟩
def BY (a1:List qT) (x4:Int) (x5:Int):St:=
 ⟨[(3,vi x4),(13,vc (tl zB dd a1)),(14,vi (a1.length:Int)),(15,vi x5)],[]⟩
def CW :St:=
 ⟨[],[]⟩
theorem qGa (E:Env 0) (a1:List qT):∀(n:Nat) (x4:Int) (x5:Int) (res:Int⊕Unit),XZ a1 n x4 x5=some res->HL (kx E 45 0) (nd f26 500) (jS 0 (λo=>CW) (λv st=>RetQ Tryz.prog f26 (IL v) (IR v) .ret st) res) n (BY a1 x4 x5):=by
 intro n
 induction n with
 |zero=>
  intro x4 x5 res hm;cases hm
 |succ n ih=>
  intro x4 x5 res hm;refine qS (s_va 0 [(16,vb (decide (x5<(a1.length:Int))))] ?_);refine q_sq (q_cq hm (λhm=>?_) (λhm=>?_))
  ·refine q_sk (q_sq ?_);refine q_bk 1 ?_;obtain⟨g7,hm⟩:=qK hm;refine s_vu [qi 0 g7] 0 [16] [(5,vp 0 0)] [] [(0,bx 50 (zB (a1.getD x5.toNat dd)))] (q_sq ?_);obtain⟨v8,h9,hm⟩:=qE hm;refine s_vv [qc 2 [20] 1 (CH ((a1.getD x5.toNat dd).Sec) v8 h9)] 1 [] [(6,vi v8)] (s_va 1 [(23,vb (v8 !=0))] ?_);refine q_cq hm (λhm=>?_) (λhm=>?_)
   ·refine s_vn [] 1 ⟨[(2,vi v8)],[]⟩ ?_;obtain rfl:=oi hm;refine q_rt (zZ v8 ?_);exact q_rm
   ·refine q_sk (q_sq ?_);refine s_vv [] 1 [6,23] [(29,vb ((((((a1.getD x5.toNat dd).Sec).Rows).length:Nat):Int)==0))] (q_cq hm (λhm=>?_) (λhm=>?_))
    ·refine s_vn [] 1 ⟨[(2,vi 18)],[]⟩ ?_;obtain rfl:=oi hm;refine q_rt (zZ 18 ?_);exact q_rm
    ·refine q_sk (q_sq ?_);refine q_jn (qGZ a1 x4 x5) (λp=>HX a1 x4 x5 (XZ a1 n) p=some res) ?_ ?_
     ·rintro x13 hm;refine q_cq hm (λhm=>?_) (λhm=>?_)
      ·refine s_vn [] 1 ⟨[(2,vi 9)],[]⟩ ?_;obtain rfl:=oi hm;refine q_rt (zZ 9 ?_);exact q_rm
      ·refine q_sk (q_vu [] 1 [3,5,39] [(3,vi (w64 (x4+((a1.getD x5.toNat dd).Len))))] [0] [] ?_);exact q_vv [] 1 [15] [(15,vi (w64 (x5+1)))] (q_hl (BY a1 (w64 (x4+((a1.getD x5.toNat dd).Len))) (w64 (x5+1))) (ih (w64 (x4+((a1.getD x5.toNat dd).Len))) (w64 (x5+1)) _ hm))
     ·rcases bif_c hm with⟨b12,hm⟩|⟨b12,hm⟩
      ·exact q_vv [qf 3 b12] 1 [29] [(39,vb true)] (q_J (true) hm)
      ·exact q_vv [qf 3 b12] 1 [29] [(39,vb (decide (((a1.getD x5.toNat dd).Len)>(w64 (20000-x4)))))] (q_J (decide (((a1.getD x5.toNat dd).Len)>(w64 (20000-x4)))) hm)
  ·refine q_ex 0 ?_;obtain rfl:=oi hm;exact q_l1 ()
theorem qI3 (a1:List qT) (r:Int) (hm:qBR a1=some r):CtX Tryz.prog globs 26 0 0 [.one (tl zB dd a1)] [] (IL r) (IR r):=by
 unfold qBR at hm;refine q_E f26 45 λE=>?_;refine s_vn [] 0 ⟨[(0,vc (tl zB dd a1))],[]⟩ (q_sq ?_);refine s_va 0 [(9,vb ((a1.length:Int)==0))] (q_cq hm (λhm=>?_) (λhm=>?_))
 ·refine s_vn [] 0 ⟨[(2,vi 3)],[]⟩ ?_;obtain rfl:=oi hm;exact q_rt q_rm
 ·refine q_sk (q_sq ?_);refine s_vv [] 0 [9] [(12,vb (decide ((a1.length:Int)>24)))] (q_cq hm (λhm=>?_) (λhm=>?_))
  ·refine s_vn [] 0 ⟨[(2,vi 4)],[]⟩ ?_;obtain rfl:=oi hm;exact q_rt q_rm
  ·refine q_sk (s_vv [] 0 [12] [(3,vi 0)] ?_);refine q_sq (s_vv [] 0 [0] [(13,vc (tl zB dd a1)),(14,vi (a1.length:Int)),(15,vi 0)] ?_);obtain⟨u17,h16,hm⟩:=qE hm;refine wJ (nd f26 500) 0 (by kernel_rfl) FUEL (λo=>CW) (λv st=>RetQ Tryz.prog f26 (IL v) (IR v) .ret st) u17 (q_hl (BY a1 0 0) (qGa E a1 FUEL 0 0 u17 h16)) ?_ ?_
   ·rintro v18 rfl st hr;obtain rfl:=oi hm;exact hr
   ·rintro o15 rfl;replace hm:_=some r:=hm;refine s_vn [] 0 ⟨[(2,vi 0)],[]⟩ ?_;obtain rfl:=oi hm;exact q_rt q_rm
def qKH (r:(List qT)):V:=vc (tl zB dd r)
def qKB (r:(List qT)):List (Nat×(Nat×O)):=[]
theorem qJk (a1:List qT) (r:(List qT)) (hm:qBE a1=some r):CtX Tryz.prog globs 63 0 0 [.one (tl zB dd a1)] [] (qKH r) (qKB r):=by
 unfold qBE at hm;refine q_E f63 7 λE=>?_;refine s_vn [] 0 ⟨[(0,vc (tl zB dd a1))],[]⟩ (q_sq ?_);obtain⟨v2,h3,hm⟩:=qE hm;refine s_vv [qc 1 [3] 0 (qI3 a1 v2 h3)] 0 [] [(5,vb (v2 !=0))] (q_cq hm (λhm=>?_) (λhm=>?_))
 ·refine s_vn [] 0 ⟨[(2,vc (.emp))],[]⟩ (q_fn [.own 2 0 50 3 (rf zB [])] ⟨[(2,vo 0 0 3 0)],[(0,ro 0 50 3 0 (rf zB []))]⟩ o0 ?_);refine q_fn [.len 0 (([]:List qT).length),.frz 0] ⟨[(2,vc (tl zB dd ([]:List qT)))],[]⟩ (o1 (And.intro (And.intro (show 0=([]:List qT).length from rfl) (show 0=([]:List qT).length from rfl)) (kr (([]:List qT).length)))) ?_;obtain rfl:=oi hm;exact q_rt q_rm
 ·refine q_sk (s_vn [] 0 ⟨[(2,vc (tl zB dd a1))],[]⟩ ?_);obtain rfl:=oi hm;exact q_rt q_rm
open Go.Proofs Go.Proofs.Tryz
def qJm (r:Int):V:=vi r
def qJt (r:Int):List (Nat×(Nat×O)):=[]
def GS (v2:(List qT)) (x4:Int) (x5:Int):St:=
 ⟨[(3,vi x4),(7,vc (tl zB dd v2)),(8,vi (v2.length:Int)),(9,vi x5)],[]⟩
def OE (x10:Int):St:=
 ⟨[(3,vi x10)],[]⟩
theorem qEE (E:Env 0) (v2:(List qT)):∀(n:Nat) (x4:Int) (x5:Int) (res:Int),LH v2 n x4 x5=some res->HL (kx E 23 0) (nd f43 116) (zS 0 OE res) n (GS v2 x4 x5):=by
 intro n
 induction n with
 |zero=>
  intro x4 x5 res hm;cases hm
 |succ n ih=>
  intro x4 x5 res hm;refine qS (s_va 0 [(10,vb (decide (x5<(v2.length:Int))))] ?_);refine q_sq (q_cq hm (λhm=>?_) (λhm=>?_))
  ·refine q_sk (q_sq ?_);refine q_bk 1 ?_;obtain⟨g7,hm⟩:=qK hm;refine s_vu [qi 0 g7] 0 [10] [(5,vp 0 0)] [] [(0,bx 50 (zB (v2.getD x5.toNat dd)))] ?_;obtain⟨v8,h9,hm⟩:=qE hm;refine q_du [qc 5 [17] 1 (qIA ((v2.getD x5.toNat dd).Sec) v8 h9)] [0,0,2,0,8,24,62,127,255] 1 [3,5] [(3,vi (w64 (x4+(w64 (((v2.getD x5.toNat dd).Len)*v8)))))] [0] [] (q_vv [] 1 [9] [(9,vi (w64 (x5+1)))] ?_);exact q_hl (GS v2 (w64 (x4+(w64 (((v2.getD x5.toNat dd).Len)*v8)))) (w64 (x5+1))) (ih (w64 (x4+(w64 (((v2.getD x5.toNat dd).Len)*v8)))) (w64 (x5+1)) _ hm)
  ·refine q_ex 0 ?_;obtain rfl:=oi hm;exact q_l0
theorem qHu (a1:List qT) (r:Int) (hm:LE a1=some r):CtX Tryz.prog globs 43 0 0 [.one (tl zB dd a1)] [] (qJm r) (qJt r):=by
 unfold LE at hm;refine q_E f43 23 λE=>?_;refine s_vn [] 0 ⟨[(0,vc (tl zB dd a1))],[]⟩ (s_va 0 [(3,vi 0)] ?_);refine q_sq ?_;obtain⟨v2,h3,hm⟩:=qE hm;refine s_vv [qc 1 [6] 0 (qJk a1 v2 h3)] 0 [0] [(7,vc (tl zB dd v2)),(8,vi (v2.length:Int)),(9,vi 0)] ?_;obtain⟨o11,h12,hm⟩:=qE hm;refine zL (nd f43 116) 0 (by kernel_rfl) FUEL OE o11 (q_hl (GS v2 0 0) (qEE E v2 FUEL 0 0 o11 h12)) (s_vn [] 0 ⟨[(2,vi o11)],[]⟩ ?_);obtain rfl:=oi hm;exact q_rt q_rm
def MM (r:Bool):V:=vb r
def MS (r:Bool):List (Nat×(Nat×O)):=[]
def qFV (a1:List qA) (x2:Int) (x6:Bool):St:=
 ⟨[(5,vc (tl qC dd a1)),(6,vi (a1.length:Int)),(7,vi x2),(18,vb x6)],[]⟩
def GZ (a1:List qA) (x2:Int):St:=
 ⟨[(5,vc (tl qC dd a1)),(6,vi (a1.length:Int)),(7,vi x2)],[]⟩
def IW :St:=
 ⟨[],[]⟩
theorem qEr (E:Env 0) (a1:List qA):∀(n:Nat) (x2:Int) (res:Bool⊕Unit),jO a1 n x2=some res->HL (kx E 20 0) (nd f174 52) (jS 0 (λo=>IW) (λv st=>RetQ Tryz.prog f174 (MM v) (MS v) .ret st) res) n (GZ a1 x2):=by
 intro n
 induction n with
 |zero=>
  intro x2 res hm;cases hm
 |succ n ih=>
  intro x2 res hm;refine qS (s_va 0 [(8,vb (decide (x2<(a1.length:Int))))] ?_);refine q_sq (q_cq hm (λhm=>?_) (λhm=>?_))
  ·refine q_sk (q_sq ?_);refine q_bk 1 ?_;obtain⟨g4,hm⟩:=qK hm;refine s_vu [qi 0 g4] 0 [8] [(4,vp 0 0)] [] [(0,bx 71 (qC (a1.getD x2.toNat dd)))] (q_jn (qFV a1 x2) (λp=>TW x2 (jO a1 n) p=some res) ?_ ?_)
   ·rintro x6 hm;refine q_cq hm (λhm=>?_) (λhm=>?_)
    ·refine s_vn [] 1 ⟨[(2,vb false)],[]⟩ ?_;obtain rfl:=oi hm;refine q_rt (zZ false ?_);exact q_rm
    ·refine q_sk (q_vv [] 1 [7,18] [(7,vi (w64 (x2+1)))] ?_);exact q_hl (GZ a1 (w64 (x2+1))) (ih (w64 (x2+1)) _ hm)
   ·rcases bif_c hm with⟨b5,hm⟩|⟨b5,hm⟩
    ·exact q_vu [qf 3 b5] 1 [4] [(18,vb true)] [0] [] (q_J (true) hm)
    ·exact q_vu [qf 3 b5] 1 [4] [(18,vb (((a1.getD x2.toNat dd).Y)==(-9223372036854775808)))] [0] [] (q_J (((a1.getD x2.toNat dd).Y)==(-9223372036854775808)) hm)
  ·refine q_ex 0 ?_;obtain rfl:=oi hm;exact q_l1 ()
theorem qH4 (a1:List qA) (r:Bool) (hm:US a1=some r):CtX Tryz.prog globs 174 0 0 [.one (tl qC dd a1)] [] (MM r) (MS r):=by
 unfold US at hm;refine q_E f174 20 λE=>?_;refine s_vn [] 0 ⟨[(0,vc (tl qC dd a1))],[]⟩ (q_sq ?_);refine s_vn [] 0 ⟨[(5,vc (tl qC dd a1)),(6,vi (a1.length:Int)),(7,vi 0)],[]⟩ ?_;obtain⟨u10,h9,hm⟩:=qE hm;refine wJ (nd f174 52) 0 (by kernel_rfl) FUEL (λo=>IW) (λv st=>RetQ Tryz.prog f174 (MM v) (MS v) .ret st) u10 (q_hl (GZ a1 0) (qEr E a1 FUEL 0 u10 h9)) ?_ ?_
 ·rintro v11 rfl st hr;obtain rfl:=oi hm;exact hr
 ·rintro o8 rfl;replace hm:_=some r:=hm;refine s_vn [] 0 ⟨[(2,vb true)],[]⟩ ?_;obtain rfl:=oi hm;exact q_rt q_rm
def qGs (r:(List qA)):V:=vo 0 0 2 r.length
def SU (r:(List qA)):List (Nat×(Nat×O)):=[(0,ro 0 71 2 r.length (rf qC r))]
theorem qNH (r:(List qA)):QM (SU r):=by
 intro i k o h;unfold SU at h;rw[look_cons] at h;split at h
 ·cases h;exact λ_ _=>rfl
 ·cases h
def HA (a1:List qA) (a2:Int) (l8:List qA) (l8n:Nat) (x9:Int):St:=
 ⟨[(5,vp 0 0),(6,vo 1 0 2 l8n),(21,vc (tl qC dd a1)),(22,vi (a1.length:Int)),(23,vi x9)],[(0,bx 71 (qC (qV.getD (Int.tmod (w64 ((Int.tmod a2 4)+4)) 4).toNat dd))),(1,ro 0 71 2 l8n (rf qC l8))]⟩
def qCT (l13:List qA):St:=
 ⟨[(6,vo 1 0 2 l13.length)],[(1,ro 0 71 2 l13.length (rf qC l13))]⟩
theorem qHK (E:Env 0) (a1:List qA) (a2:Int):∀(n:Nat) (l8:List qA) (l8n:Nat) (x9:Int) (res:(List qA)),l8.length=l8n->KF a1 a2 n l8 x9=some res->HL (kx E 56 0) (nd f137 500) (zS 0 qCT res) n (HA a1 a2 l8 l8n x9):=by
 intro n
 induction n with
 |zero=>
  intro l8 l8n x9 res hl0 hm;cases hm
 |succ n ih=>
  intro l8 l8n x9 res hl0 hm;subst hl0;refine qS (s_va 2 [(24,vb (decide (x9<(a1.length:Int))))] ?_);refine q_sq (q_cq hm (λhm=>?_) (λhm=>?_))
  ·refine q_sk (q_sq ?_);refine q_bk 1 ?_;obtain⟨g11,hm⟩:=qK hm;refine s_vu [qi 1 g11] 2 [24] [(7,vi x9),(8,vp 2 0)] [] [(2,bx 71 (qC (a1.getD x9.toNat dd)))] ?_;obtain⟨g12,hm⟩:=qK hm
   refine q_vu [qi 25 g12,qd 26 (drw 0 0 (rf qC (l8.set x9.toNat (qA.mk (w64 ((w64 (((qV.getD (Int.tmod (w64 ((Int.tmod a2 4)+4)) 4).toNat dd).X)*((a1.getD x9.toNat dd).X)))-(w64 (((qV.getD (Int.tmod (w64 ((Int.tmod a2 4)+4)) 4).toNat dd).Y)*((a1.getD x9.toNat dd).Y))))) (w64 ((w64 (((qV.getD (Int.tmod (w64 ((Int.tmod a2 4)+4)) 4).toNat dd).Y)*((a1.getD x9.toNat dd).X)))+(w64 (((qV.getD (Int.tmod (w64 ((Int.tmod a2 4)+4)) 4).toNat dd).X)*((a1.getD x9.toNat dd).Y))))))))) (stP qC dd (qA.mk (w64 ((w64 (((qV.getD (Int.tmod (w64 ((Int.tmod a2 4)+4)) 4).toNat dd).X)*((a1.getD x9.toNat dd).X)))-(w64 (((qV.getD (Int.tmod (w64 ((Int.tmod a2 4)+4)) 4).toNat dd).Y)*((a1.getD x9.toNat dd).Y))))) (w64 ((w64 (((qV.getD (Int.tmod (w64 ((Int.tmod a2 4)+4)) 4).toNat dd).Y)*((a1.getD x9.toNat dd).X)))+(w64 (((qV.getD (Int.tmod (w64 ((Int.tmod a2 4)+4)) 4).toNat dd).X)*((a1.getD x9.toNat dd).Y)))))) l8 l8.length x9.toNat 0 [ci (w64 ((w64 (((qV.getD (Int.tmod (w64 ((Int.tmod a2 4)+4)) 4).toNat dd).X)*((a1.getD x9.toNat dd).X)))-(w64 (((qV.getD (Int.tmod (w64 ((Int.tmod a2 4)+4)) 4).toNat dd).Y)*((a1.getD x9.toNat dd).Y))))),ci (w64 ((w64 (((qV.getD (Int.tmod (w64 ((Int.tmod a2 4)+4)) 4).toNat dd).Y)*((a1.getD x9.toNat dd).X)))+(w64 (((qV.getD (Int.tmod (w64 ((Int.tmod a2 4)+4)) 4).toNat dd).X)*((a1.getD x9.toNat dd).Y)))))] rfl (qW (zG g12)) rfl)] 3 [7,8] [] [1,2] [(1,ro 0 71 2 l8.length (rf qC (l8.set x9.toNat (qA.mk (w64 ((w64 (((qV.getD (Int.tmod (w64 ((Int.tmod a2 4)+4)) 4).toNat dd).X)*((a1.getD x9.toNat dd).X)))-(w64 (((qV.getD (Int.tmod (w64 ((Int.tmod a2 4)+4)) 4).toNat dd).Y)*((a1.getD x9.toNat dd).Y))))) (w64 ((w64 (((qV.getD (Int.tmod (w64 ((Int.tmod a2 4)+4)) 4).toNat dd).Y)*((a1.getD x9.toNat dd).X)))+(w64 (((qV.getD (Int.tmod (w64 ((Int.tmod a2 4)+4)) 4).toNat dd).X)*((a1.getD x9.toNat dd).Y)))))))))] ?_
   refine q_vv [] 3 [23] [(23,vi (w64 (x9+1)))] ?_
   exact q_hl (HA a1 a2 (l8.set x9.toNat (qA.mk (w64 ((w64 (((qV.getD (Int.tmod (w64 ((Int.tmod a2 4)+4)) 4).toNat dd).X)*((a1.getD x9.toNat dd).X)))-(w64 (((qV.getD (Int.tmod (w64 ((Int.tmod a2 4)+4)) 4).toNat dd).Y)*((a1.getD x9.toNat dd).Y))))) (w64 ((w64 (((qV.getD (Int.tmod (w64 ((Int.tmod a2 4)+4)) 4).toNat dd).Y)*((a1.getD x9.toNat dd).X)))+(w64 (((qV.getD (Int.tmod (w64 ((Int.tmod a2 4)+4)) 4).toNat dd).X)*((a1.getD x9.toNat dd).Y))))))) l8.length (w64 (x9+1))) (ih (l8.set x9.toNat (qA.mk (w64 ((w64 (((qV.getD (Int.tmod (w64 ((Int.tmod a2 4)+4)) 4).toNat dd).X)*((a1.getD x9.toNat dd).X)))-(w64 (((qV.getD (Int.tmod (w64 ((Int.tmod a2 4)+4)) 4).toNat dd).Y)*((a1.getD x9.toNat dd).Y))))) (w64 ((w64 (((qV.getD (Int.tmod (w64 ((Int.tmod a2 4)+4)) 4).toNat dd).Y)*((a1.getD x9.toNat dd).X)))+(w64 (((qV.getD (Int.tmod (w64 ((Int.tmod a2 4)+4)) 4).toNat dd).X)*((a1.getD x9.toNat dd).Y))))))) l8.length (w64 (x9+1)) _ (QT rfl) hm)
  ·refine q_ex 0 ?_;obtain rfl:=oi hm;exact q_l0
theorem qLT (a1:List qA) (a2:Int) (r:(List qA)) (hm:IB a1 a2=some r):CtX Tryz.prog globs 137 0 0 [.one (tl qC dd a1),.one (ci a2)] [] (qGs r) (SU r):=by
 unfold IB at hm;refine q_E f137 56 λE=>?_;refine s_vn [] 0 ⟨[(0,vc (tl qC dd a1)),(1,vi a2)],[]⟩ (q_sq ?_);obtain⟨v3,h4,hm⟩:=qE hm;refine s_vv [qc 1 [9] 0 (qH4 a1 v3 h4)] 0 [] [(11,vb (!v3))] (q_cq hm (λhm=>?_) (λhm=>?_))
 ·refine s_vn [] 0 ⟨[(4,vc (.emp))],[]⟩ (q_fn [.own 4 0 71 2 (rf qC [])] ⟨[(4,vo 0 0 2 0)],[(0,ro 0 71 2 0 (rf qC []))]⟩ o0 ?_);refine q_fn [.len 0 (([]:List qA).length)] ⟨[(4,vo 0 0 2 (([]:List qA).length))],[(0,ro 0 71 2 (([]:List qA).length) (rf qC []))]⟩ (o1 (And.intro (show 0=([]:List qA).length from rfl) (show 0=([]:List qA).length from rfl))) ?_;obtain rfl:=oi hm;exact q_rt q_rm
 ·refine q_sk ?_;obtain⟨g6,hm⟩:=qK hm;refine s_vu [qd 1 dN (show(4:Int)≠0 by decide),qd 3 dN (show(4:Int)≠0 by decide),qi 4 g6] 0 [1,11] [(5,vp 0 0)] [] [(0,bx 71 (qC (qV.getD (Int.tmod (w64 ((Int.tmod a2 4)+4)) 4).toNat dd)))] ?_;obtain⟨g7,hm⟩:=qK hm;refine s_vu [qd 2 (drw 1 0 (rf qC (List.replicate ((a1.length:Int).toNat) (qA.mk 0 0)))) (mkP qC dd (qA.mk 0 0) (a1.length:Int) 16 [ci 0,ci 0] (HK g7) rfl)] 1 [] [(6,vo 1 0 2 ((a1.length:Int).toNat))] [] [(1,ro 0 71 2 ((a1.length:Int).toNat) (rf qC (List.replicate ((a1.length:Int).toNat) (qA.mk 0 0))))] (q_sq ?_)
  refine s_vv [] 2 [0] [(21,vc (tl qC dd a1)),(22,vi (a1.length:Int)),(23,vi 0)] ?_;obtain⟨o14,h15,hm⟩:=qE hm;refine zL (nd f137 500) 0 (by kernel_rfl) FUEL qCT o14 (q_hl (HA a1 a2 (List.replicate ((a1.length:Int).toNat) (qA.mk 0 0)) ((a1.length:Int).toNat) 0) (qHK E a1 a2 FUEL (List.replicate ((a1.length:Int).toNat) (qA.mk 0 0)) ((a1.length:Int).toNat) 0 o14 MU h15)) (s_vv [] 2 [6] [(4,vo 1 0 2 o14.length)] ?_);obtain rfl:=oi hm;exact q_sw 1 0 (q_rt q_rm)
open Go.Proofs Go.Proofs.Tryz
def qNR (r:Ring):V:=va [ci r.Z,.own 0 0 3 r.Read.length]
def qNI (r:Ring):List (Nat×(Nat×O)):=[(0,ro 0 73 3 r.Read.length (rf qH r.Read))]
def CX (a2:Int) (v3:Ring):St:=
 ⟨[(1,vi a2),(4,vp 1 0),(5,vp 3 0)],[(1,bx 45 [ci 0,.emp]),(2,ro 0 73 3 v3.Read.length (rf qH v3.Read)),(3,bx 45 [ci v3.Z,.own 2 0 3 v3.Read.length])]⟩
def MX (a1:Ring) (a2:Int) (v3:Ring) (l9:List qA) (l9n:Nat) (x10:Int):St:=
 (CX a2 v3).up [] [(6,vo 4 0 2 l9n),(22,vc (tl qH dd a1.Read)),(23,vi (a1.Read.length:Int)),(24,vi x10)] [] [(4,ro 0 71 2 l9n (rf qC l9))]
def qCN (a2:Int) (v3:Ring) (l14:List qA):St:=
 (CX a2 v3).up [] [(6,vo 4 0 2 l14.length)] [] [(4,ro 0 71 2 l14.length (rf qC l14))]
def SI (v3:Ring) (v17:(List qA)) (x19:Int) (l20:List qD) (l20n:Nat):St:=
 ⟨[(4,vp 1 0),(5,vp 3 0),(37,vo 5 0 2 v17.length),(38,vi (v17.length:Int)),(39,vi x19)],[(1,bx 45 [ci 0,.emp]),(2,ro 0 73 3 l20n (rf qH l20)),(3,bx 45 [ci v3.Z,.own 2 0 3 l20n]),(5,ro 0 71 2 v17.length (rf qC v17))]⟩
def qCh (v3:Ring) (l24:List qD):St:=
 ⟨[(4,vp 1 0),(5,vp 3 0)],[(1,bx 45 [ci 0,.emp]),(2,ro 0 73 3 l24.length (rf qH l24)),(3,bx 45 [ci v3.Z,.own 2 0 3 l24.length])]⟩
theorem qIm (E:Env 0) (a1:Ring) (a2:Int) (v3:Ring):∀(n:Nat) (l9:List qA) (l9n:Nat) (x10:Int) (res:(List qA)),l9.length=l9n->KA a1 n l9 x10=some res->HL (kx E 52 0) (nd f75 500) (zS 0 (λo=>qCN a2 v3 o) res) n (MX a1 a2 v3 l9 l9n x10):=by
 intro n
 induction n with
 |zero=>
  intro l9 l9n x10 res hl0 hm;cases hm
 |succ n ih=>
  intro l9 l9n x10 res hl0 hm;subst hl0;refine qS (s_va 5 [(25,vb (decide (x10<(a1.Read.length:Int))))] ?_);refine q_sq (q_cq hm (λhm=>?_) (λhm=>?_))
  ·refine q_sk (q_sq ?_);refine q_bk 1 ?_;obtain⟨g12,hm⟩:=qK hm;refine s_vu [qi 1 g12] 5 [25] [(7,vi x10),(8,vp 5 0)] [] [(5,bx 73 (qH (a1.Read.getD x10.toNat dd)))] ?_;obtain⟨g13,hm⟩:=qK hm
   refine q_vu [qi 4 g13,qd 5 (drw 0 0 (rf qC (l9.set x10.toNat ((a1.Read.getD x10.toNat dd).P)))) (stP qC dd ((a1.Read.getD x10.toNat dd).P) l9 l9.length x10.toNat 0 [ci (((a1.Read.getD x10.toNat dd).P).X),ci (((a1.Read.getD x10.toNat dd).P).Y)] rfl (qW (zG g13)) rfl)] 6 [7,8] [] [4,5] [(4,ro 0 71 2 l9.length (rf qC (l9.set x10.toNat ((a1.Read.getD x10.toNat dd).P))))] (q_vv [] 6 [24] [(24,vi (w64 (x10+1)))] ?_)
   exact q_hl (MX a1 a2 v3 (l9.set x10.toNat ((a1.Read.getD x10.toNat dd).P)) l9.length (w64 (x10+1))) (ih (l9.set x10.toNat ((a1.Read.getD x10.toNat dd).P)) l9.length (w64 (x10+1)) _ (QT rfl) hm)
  ·refine q_ex 0 ?_;obtain rfl:=oi hm;exact q_l0
theorem qHC (E:Env 0) (v3:Ring) (v17:(List qA)):∀(n:Nat) (x19:Int) (l20:List qD) (l20n:Nat) (res:(List qD)),l20.length=l20n->KR v17 n x19 l20=some res->HL (kx E 52 0) (nd f75 1012) (zS 2 (λo=>qCh v3 o) res) n (SI v3 v17 x19 l20 l20n):=by
 intro n
 induction n with
 |zero=>
  intro x19 l20 l20n res hl0 hm;cases hm
 |succ n ih=>
  intro x19 l20 l20n res hl0 hm;subst hl0;refine qS (s_va 6 [(40,vb (decide (x19<(v17.length:Int))))] ?_);refine q_sq (q_cq hm (λhm=>?_) (λhm=>?_))
  ·refine q_sk (q_sq ?_);refine q_bk 3 ?_;obtain⟨g22,hm⟩:=qK hm;refine s_vu [qi 1 g22,qd 2 dN (qW (zG g22))] 6 [40] [(9,vi x19),(10,vp 6 0)] [] [(6,bx 71 (qC (v17.getD x19.toNat dd)))] ?_;obtain⟨g23,hm⟩:=qK hm
   refine q_vu [qi 4 g23,qd 6 (drw 0 0 (rf qH (l20.set x19.toNat (qD.mk (v17.getD x19.toNat dd) ((l20.getD x19.toNat dd).Ok))))) (stP qH dd (qD.mk (v17.getD x19.toNat dd) ((l20.getD x19.toNat dd).Ok)) l20 l20.length x19.toNat 0 [ci ((v17.getD x19.toNat dd).X),ci ((v17.getD x19.toNat dd).Y)] rfl (qW (zG g23)) rfl)] 7 [9,10] [] [2,6] [(2,ro 0 73 3 l20.length (rf qH (l20.set x19.toNat (qD.mk (v17.getD x19.toNat dd) ((l20.getD x19.toNat dd).Ok)))))] (q_vv [] 7 [39] [(39,vi (w64 (x19+1)))] ?_)
   exact q_hl (SI v3 v17 (w64 (x19+1)) (l20.set x19.toNat (qD.mk (v17.getD x19.toNat dd) ((l20.getD x19.toNat dd).Ok))) l20.length) (ih (w64 (x19+1)) (l20.set x19.toNat (qD.mk (v17.getD x19.toNat dd) ((l20.getD x19.toNat dd).Ok))) l20.length _ (QT rfl) hm)
  ·refine q_ex 2 ?_;obtain rfl:=oi hm;exact q_l0
theorem qMV (a1:Ring) (a2:Int) (r:Ring) (hm:AP a1 a2=some r):CtX Tryz.prog globs 75 0 0 [.agg (qM a1),.one (ci a2)] [] (qNR r) (qNI r):=by
 unfold AP at hm;refine q_E f75 52 λE=>?_;refine s_vn [] 0 ⟨[(1,vi a2),(2,vp 0 0),(4,vp 1 0)],[(0,bx 45 (qM a1)),(1,bx 45 [ci 0,.emp])]⟩ ?_;obtain⟨v3,h4,hm⟩:=qE hm;refine s_vu [qc 1 [11] 2 (qDS a1 v3 h4)] 2 [] [(5,vp 3 0)] [] [(2,ro 0 73 3 v3.Read.length (rf qH v3.Read)),(3,bx 45 [ci v3.Z,.own 2 0 3 v3.Read.length])] (q_sq ?_);obtain⟨v5,h6,hm⟩:=qE hm;refine s_vv [qc 1 [13] 4 (DV a1 v5 h6)] 4 [] [(15,vb (v5 !=0))] (q_cq hm (λhm=>?_) (λhm=>?_))
 ·refine s_vu [] 4 [1,2,5,15] [] [0,1,3] [(1,bx 45 [ci v3.Z,.own 2 0 3 v3.Read.length])] ?_;obtain rfl:=oi hm;exact q_sw 2 0 (q_rt q_rm)
 ·refine q_sk ?_;obtain⟨g8,hm⟩:=qK hm;refine s_vu [qd 3 (drw 4 0 (rf qC (List.replicate ((a1.Read.length:Int).toNat) (qA.mk 0 0)))) (mkP qC dd (qA.mk 0 0) (a1.Read.length:Int) 16 [ci 0,ci 0] (HK g8) rfl)] 4 [15] [(6,vo 4 0 2 ((a1.Read.length:Int).toNat))] [] [(4,ro 0 71 2 ((a1.Read.length:Int).toNat) (rf qC (List.replicate ((a1.Read.length:Int).toNat) (qA.mk 0 0))))] (q_sq ?_);refine s_vu [] 5 [2] [(22,vc (tl qH dd a1.Read)),(23,vi (a1.Read.length:Int)),(24,vi 0)] [0] [] ?_;obtain⟨o15,h16,hm⟩:=qE hm
  refine zL (nd f75 500) 0 (by kernel_rfl) FUEL (λo=>qCN a2 v3 o) o15 (q_hl (MX a1 a2 v3 (List.replicate ((a1.Read.length:Int).toNat) (qA.mk 0 0)) ((a1.Read.length:Int).toNat) 0) (qIm E a1 a2 v3 FUEL (List.replicate ((a1.Read.length:Int).toNat) (qA.mk 0 0)) ((a1.Read.length:Int).toNat) 0 o15 MU h16)) (q_sq ?_);obtain⟨v17,h18,hm⟩:=qE hm
  refine s_vu [qd 2 (dex (cen [] [] 5 0 (qGs v17) (SU v17) [35,36] [4])) (zK (K:=(kx E 52 0)) (b:=false) ⟨[(35,vo 4 0 2 o15.length),(36,vi a2)],[(4,ro 0 71 2 o15.length (rf qC o15))]⟩ (opAt (rg f75 252) 2) [] [] 5 (o1 (kr o15.length)) rfl (qLT o15 a2 v17 h18) (.inr ⟨(by kernel_rfl),qNH v17⟩) (by kernel_rfl))] 5 [1,6] [(37,vo 5 0 2 v17.length),(38,vi (v17.length:Int)),(39,vi 0)] [4] [(5,ro 0 71 2 v17.length (rf qC v17))] ?_;obtain⟨o25,h26,hm⟩:=qE hm
  refine zL (nd f75 1012) 2 (by kernel_rfl) FUEL (λo=>qCh v3 o) o25 (q_hl (SI v3 v17 0 v3.Read v3.Read.length) (qHC E v3 v17 FUEL 0 v3.Read v3.Read.length o25 rfl h26)) (s_vu [] 6 [5] [] [1,3] [(1,bx 45 [ci v3.Z,.own 2 0 3 o25.length])] ?_);obtain rfl:=oi hm;exact q_sw 2 0 (q_rt q_rm)
def qDp (r:List Ring):V:=vo 0 0 2 r.length
def qDD (r:List Ring):List (Nat×(Nat×O)):=[(0,ro 0 45 2 r.length (rf qM r))]
theorem qCg (a1:List Ring) (r:List Ring) (hm:VB a1=some r):CtX Tryz.prog globs 135 0 0 [.one (tl qM dd a1)] [] (qDp r) (qDD r):=by
 unfold VB at hm;obtain⟨g1,hm⟩:=qK hm;obtain rfl:=kK hm;refine qAj (fn:=f135) (c:=nd f135 1) (nt:=8) (by kernel_rfl) (by kernel_rfl) (by kernel_rfl) (by kernel_rfl) λE=>?_;refine R_sq f135 2 3 (by kernel_rfl) (R_rn f135 2 0 [] [] 0 ⟨[(0,vc (tl qM dd a1))],[]⟩ o0 (by kernel_rfl) (by kernel_rfl) ?_);refine R_sq f135 6 7 (by kernel_rfl) (R_sq f135 12 13 (by kernel_rfl) ?_);refine qK5 f135 12 1 1 ⟨[(0,vc (tl qM dd a1)),(3,vc (tl qM dd a1))],[]⟩ 22 22 45 4 (.tmp 3) a1.length (rf qM a1) (by kernel_rfl) (by kernel_rfl) (by kernel_rfl) (λb hb=>?_)
 refine R_cn f135 (.tmp 4) 26 27 (by kernel_rfl) b (by kernel_rfl) (λb6=>?_) (λb6=>?_)
 ·obtain rfl:a1=[]:=ge (hb b6);refine R_sq f135 52 53 (by kernel_rfl) (R_rn f135 52 2 [] [.own 2 0 45 2 (rf qM [])] 0 ⟨[(2,vo 0 0 2 0)],[(0,ro 0 45 2 0 (rf qM []))]⟩ o0 (by kernel_rfl) (by kernel_rfl) ?_);exact OI (by kernel_rfl) (FW (by kernel_rfl) (by kernel_rfl))
 ·refine qEF (by kernel_rfl) (R_sq f135 14 15 (by kernel_rfl) ?_);refine R_rn f135 14 3 [(0,drw 0 0 (rf qM [])),(2,drw 0 1 (rf qM ([]++a1)))] [.len 0 a1.length] 0 ⟨[(2,vo 0 1 2 a1.length)],[(0,ro 1 45 2 a1.length (rf qM ([]++a1)))]⟩ (o1 (And.intro (And.intro (litP qM dd 2 (λ_=>rfl) ([]:List Ring) 0 rfl) (apP qM dd ([]:List Ring) a1 0 a1.length 2 32 True trivial rfl rfl (λ_=>rfl) (by have:=zW g1;rw[kz];exact this))) (And.intro (And.intro (kz a1.length) (kz a1.length)) (kz a1.length)))) (by kernel_rfl) (by kernel_rfl) (OI (by kernel_rfl) ?_);exact FW (by kernel_rfl) (by kernel_rfl)
def qBN (r:List qF):V:=vo 0 0 7 r.length
def qBK (r:List qF):List (Nat×(Nat×O)):=[(0,ro 0 68 7 r.length (rf qJ r))]
theorem qAG (a1:List qF) (r:List qF) (hm:PM a1=some r):CtX Tryz.prog globs 66 0 0 [.one (tl qJ dd a1)] [] (qBN r) (qBK r):=by
 unfold PM at hm;obtain⟨g1,hm⟩:=qK hm;obtain rfl:=kK hm;refine qAj (fn:=f66) (c:=nd f66 1) (nt:=8) (by kernel_rfl) (by kernel_rfl) (by kernel_rfl) (by kernel_rfl) λE=>?_;refine R_sq f66 2 3 (by kernel_rfl) (R_rn f66 2 0 [] [] 0 ⟨[(0,vc (tl qJ dd a1))],[]⟩ o0 (by kernel_rfl) (by kernel_rfl) ?_);refine R_sq f66 6 7 (by kernel_rfl) (R_sq f66 12 13 (by kernel_rfl) ?_);refine qK5 f66 12 1 1 ⟨[(0,vc (tl qJ dd a1)),(3,vc (tl qJ dd a1))],[]⟩ 23 23 68 4 (.tmp 3) a1.length (rf qJ a1) (by kernel_rfl) (by kernel_rfl) (by kernel_rfl) (λb hb=>?_)
 refine R_cn f66 (.tmp 4) 26 27 (by kernel_rfl) b (by kernel_rfl) (λb6=>?_) (λb6=>?_)
 ·obtain rfl:a1=[]:=ge (hb b6);refine R_sq f66 52 53 (by kernel_rfl) (R_rn f66 52 2 [] [.own 2 0 68 7 (rf qJ [])] 0 ⟨[(2,vo 0 0 7 0)],[(0,ro 0 68 7 0 (rf qJ []))]⟩ o0 (by kernel_rfl) (by kernel_rfl) ?_);exact OI (by kernel_rfl) (FW (by kernel_rfl) (by kernel_rfl))
 ·refine qEF (by kernel_rfl) (R_sq f66 14 15 (by kernel_rfl) ?_);refine R_rn f66 14 3 [(0,drw 0 0 (rf qJ [])),(2,drw 0 1 (rf qJ ([]++a1)))] [.len 0 a1.length] 0 ⟨[(2,vo 0 1 7 a1.length)],[(0,ro 1 68 7 a1.length (rf qJ ([]++a1)))]⟩ (o1 (And.intro (And.intro (litP qJ dd 7 (λ_=>rfl) ([]:List qF) 0 rfl) (apP qJ dd ([]:List qF) a1 0 a1.length 7 56 True trivial rfl rfl (λ_=>rfl) (by have:=zW g1;rw[kz];exact this))) (And.intro (And.intro (kz a1.length) (kz a1.length)) (kz a1.length)))) (by kernel_rfl) (by kernel_rfl) (OI (by kernel_rfl) ?_);exact FW (by kernel_rfl) (by kernel_rfl)
open Go.Proofs Go.Proofs.Tryz
def qLN (r:Scan):V:=va [.own 0 0 2 r.Rings.length,.own 1 0 7 r.Defects.length]
def qL0 (r:Scan):List (Nat×(Nat×O)):=[(0,ro 0 45 2 r.Rings.length (rf qM r.Rings)),(1,ro 0 68 7 r.Defects.length (rf qJ r.Defects))]
def LL (v2:List Ring) (v4:List qF) (x6:Int) (l7:List Ring) (l7n:Nat):St:=
 ⟨[(2,vp 1 0),(3,vp 4 0),(14,vi (v2.length:Int)),(15,vi x6)],[(1,bx 25 [.emp,.emp]),(2,ro 0 45 2 l7n (rf qM l7)),(3,ro 0 68 7 v4.length (rf qJ v4)),(4,bx 25 [.own 2 0 2 l7n,.own 3 0 7 v4.length])]⟩
def qBf (v4:List qF) (l15:List Ring):St:=
 ⟨[(2,vp 1 0),(3,vp 4 0)],[(1,bx 25 [.emp,.emp]),(2,ro 0 45 2 l15.length (rf qM l15)),(3,ro 0 68 7 v4.length (rf qJ v4)),(4,bx 25 [.own 2 0 2 l15.length,.own 3 0 7 v4.length])]⟩
theorem qGC (E:Env 0) (v2:List Ring) (v4:List qF):∀(n:Nat) (x6:Int) (l7:List Ring) (l7n:Nat) (res:(List Ring)),l7.length=l7n->IG v2 n x6 l7=some res->HL (kx E 32 0) (nd f73 116) (zS 0 (λo=>qBf v4 o) res) n (LL v2 v4 x6 l7 l7n):=by
 intro n
 induction n with
 |zero=>
  intro x6 l7 l7n res hl0 hm;cases hm
 |succ n ih=>
  intro x6 l7 l7n res hl0 hm;subst hl0;refine qS (s_va 5 [(16,vb (decide (x6<(v2.length:Int))))] ?_);refine q_sq (q_cq hm (λhm=>?_) (λhm=>?_))
  ·refine q_sk (q_sq ?_);refine q_bk 1 (s_vv [] 5 [16] [(4,vi x6)] ?_);obtain⟨g12,hm⟩:=qK hm;obtain⟨v13,h14,hm⟩:=qE hm
   refine q_du [qi 6 g12,qd 8 dN (qW (zG g12)),qc 9 [26] 5 (CtX.frz (x':=vc (tl qH dd v13)) (ob':=[]) (UV ((l7.getD x6.toNat dd).Read) v13 h14) 0 (o1 (kr v13.length)) (by kernel_rfl)),qi 10 g12,qd 12 (drw 0 0 (rf qM (l7.set x6.toNat (Ring.mk ((l7.getD x6.toNat dd).Z) v13)))) (stP qM dd (Ring.mk ((l7.getD x6.toNat dd).Z) v13) l7 l7.length x6.toNat 1 [tl qH dd v13] rfl (qW (zG g12)) rfl)] [0,1,0,0,8,0,56,120,248,504,1023,2047,4095] 5 [4] [] [2] [(2,ro 0 45 2 l7.length (rf qM (l7.set x6.toNat (Ring.mk ((l7.getD x6.toNat dd).Z) v13))))] (q_vv [] 5 [15] [(15,vi (w64 (x6+1)))] ?_)
   exact q_hl (LL v2 v4 (w64 (x6+1)) (l7.set x6.toNat (Ring.mk ((l7.getD x6.toNat dd).Z) v13)) l7.length) (ih (w64 (x6+1)) (l7.set x6.toNat (Ring.mk ((l7.getD x6.toNat dd).Z) v13)) l7.length _ (QT rfl) hm)
  ·refine q_ex 0 ?_;obtain rfl:=oi hm;exact q_l0
theorem qKn (a1:Scan) (r:Scan) (hm:qDH a1=some r):CtX Tryz.prog globs 73 0 0 [.agg (qX a1)] [] (qLN r) (qL0 r):=by
 unfold qDH at hm;refine q_E f73 32 λE=>?_;refine s_vn [] 0 ⟨[(1,vp 0 0),(2,vp 1 0)],[(0,bx 25 (qX a1)),(1,bx 25 [.emp,.emp])]⟩ ?_;obtain⟨v2,h3,hm⟩:=qE hm;obtain⟨v4,h5,hm⟩:=qE hm;refine s_du [qc 2 [6] 2 (qCg a1.Rings v2 h3),qc 5 [9] 3 (qAG a1.Defects v4 h5)] [0,1,3,0,8,31,63,0,255] 2 [1] [(3,vp 4 0)] [0] [(2,ro 0 45 2 v2.length (rf qM v2)),(3,ro 0 68 7 v4.length (rf qJ v4)),(4,bx 25 [.own 2 0 2 v2.length,.own 3 0 7 v4.length])] (q_sq ?_);refine s_va 5 [(14,vi (v2.length:Int)),(15,vi 0)] ?_;obtain⟨o16,h17,hm⟩:=qE hm
 refine zL (nd f73 116) 0 (by kernel_rfl) FUEL (λo=>qBf v4 o) o16 (q_hl (LL v2 v4 0 v2 v2.length) (qGC E v2 v4 FUEL 0 v2 v2.length o16 rfl h17)) (s_vu [] 5 [3] [] [1,4] [(1,bx 25 [.own 2 0 2 o16.length,.own 3 0 7 v4.length])] ?_);obtain rfl:=oi hm;refine q_sw 2 0 (q_sw 3 1 ?_);exact q_rt q_rm
end Saw
end Go.SL

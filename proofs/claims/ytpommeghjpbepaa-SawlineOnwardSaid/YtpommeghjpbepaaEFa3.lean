import Derived.Test.YtpommeghjpbepaaEBase
import Derived.Test.YtpommeghjpbepaaEFa2
import Derived.Test.YtpommeghjpbepaaEFa1
set_option linter.unusedVariables false
set_option linter.unusedSimpArgs false
namespace Go.SL
namespace Saw
open Go.Proofs Go.Proofs.Try
set_option maxHeartbeats 4000000
set_option maxRecDepth 100000
def qHW (r:Int):V:=vi r
def qHM (r:Int):List (Nat×(Nat×O)):=[]
def GR (a1:List qR) (a2:Span) (x4:Int):St:=
 ⟨[(3,vp 0 0),(8,vc (tl zB du a1)),(9,vi (a1.length:Int)),(10,vi x4)],[(0,bx 26 (qN a2))]⟩
def qD6 (a1:List qR) (a2:Span) (x4:Int) (x10:Int):St:=
 (GR a1 a2 x4).up [] [(5,vi x10)] [] []
def qEe (a1:List qR) (a2:Span) (x3:Int) (x4:Int) (x8:Bool):St:=
 (GR a1 a2 x4).up [] [(5,vi x3),(7,vp 1 0),(27,vb x8)] [] [(1,bx 182 (zB (a1.getD x4.toNat du)))]
def FM (a1:List qR) (a2:Span) (x3:Int) (x4:Int):St:=
 (GR a1 a2 x4).up [] [(5,vi x3)] [] []
def AP (x11:Int):St:=
 ⟨[(5,vi x11)],[]⟩
theorem qDB (E:Env 0) (a1:List qR) (a2:Span):∀(n:Nat) (x3:Int) (x4:Int) (res:Int),QC a1 a2 n x3 x4=some res->HL (kx E 34 0) (nd f90 116) (jS 0 AP res) n (FM a1 a2 x3 x4):=by
 intro n
 induction n with
 |zero=>
  intro x3 x4 res hm;cases hm
 |succ n ih=>
  intro x3 x4 res hm;refine zE (s_va 1 [(11,vb (decide (x4<(a1.length:Int))))] ?_);refine q_sq (q_cq hm (λhm=>?_) (λhm=>?_))
  ·refine q_sk (q_jn (qD6 a1 a2 x4) (λp=>BC x4 (QC a1 a2 n) p=some res) ?_ ?_)
   ·rintro x10 hm;exact q_vv [] 2 [10] [(10,vi (w64 (x4+1)))] (q_hl (FM a1 a2 x10 (w64 (x4+1))) (ih x10 (w64 (x4+1)) _ hm))
   ·refine q_bk 1 ?_;obtain⟨g6,hm⟩:=qU hm;refine s_vu [qi 0 g6] 1 [11] [(7,vp 1 0)] [] [(1,bx 182 (zB (a1.getD x4.toNat du)))] (q_jn (qEe a1 a2 x3 x4) (λp=>DO a1 x3 x4 (QC a1 a2 n) p=some res) ?_ ?_)
    ·rintro x8 hm;refine q_cq hm (λhm=>?_) (λhm=>?_)
     ·exact q_vu [] 2 [5,7,27] [(5,vi (imax x3 ((a1.getD x4.toNat du).lack)))] [1] [] (q_J (imax x3 ((a1.getD x4.toNat du).lack)) hm)
     ·exact q_sk (q_J (x3) hm)
    ·rcases bif_c hm with⟨b7,hm⟩|⟨b7,hm⟩
     ·exact q_vv [qf 6 b7] 2 [] [(27,vb (decide (a2.A<(((a1.getD x4.toNat du).z).B))))] (q_J (decide (a2.A<(((a1.getD x4.toNat du).z).B))) hm)
     ·exact q_vv [qf 6 b7] 2 [] [(27,vb false)] (q_J (false) hm)
  ·refine q_ex 0 ?_;obtain rfl:=oi hm;exact q_l0
theorem qGr (a1:List qR) (a2:Span) (r:Int) (hm:NN a1 a2=some r):CtX Try.prog globs 90 0 0 [.one (tl zB du a1),.agg (qN a2)] [] (qHW r) (qHM r):=by
 unfold NN at hm;refine q_E f90 34 λE=>?_;refine s_vn [] 0 ⟨[(0,vc (tl zB du a1)),(3,vp 0 0)],[(0,bx 26 (qN a2))]⟩ (s_va 1 [(5,vi 0)] ?_);refine q_sq (s_vv [] 1 [0] [(8,vc (tl zB du a1)),(9,vi (a1.length:Int)),(10,vi 0)] ?_);obtain⟨o12,h13,hm⟩:=qI hm;refine jN (nd f90 116) 0 (by kernel_rfl) FUEL AP o12 (q_hl (FM a1 a2 0 0) (qDB E a1 a2 FUEL 0 0 o12 h13)) (s_vn [] 1 ⟨[(4,vi o12)],[]⟩ ?_);obtain rfl:=oi hm;exact q_rt q_rm
def PS (r:Int×Bool):V:= .tup [.one (ci r.1),.one (cb r.2)]
def ZI (r:Int×Bool):List (Nat×(Nat×O)):=[]
theorem qB8 (r:Int×Bool):GS (ZI r):=by
 intro i k o h;unfold ZI at h;cases h
def qAP (a1:qT) (a3:Int) (v14:Box) (x17:Int) (x24:Int):St:=
 ⟨[(2,vi a3),(8,vi x24),(10,vp 2 0),(45,vc (tl qE du a1.defects)),(46,vi (a1.defects.length:Int)),(47,vi x17)],[(2,bx 58 (WN v14))]⟩
def RT (a1:qT) (a3:Int) (v14:Box) (x16:Int) (x17:Int):St:=
 ⟨[(2,vi a3),(8,vi x16),(10,vp 2 0),(45,vc (tl qE du a1.defects)),(46,vi (a1.defects.length:Int)),(47,vi x17)],[(2,bx 58 (WN v14))]⟩
def zaQ (x25:Int):St:=
 ⟨[(8,vi x25)],[]⟩
def qAH (a1:qT) (a2:Span) (a3:Int) (v7:Int×Bool) (x12:Bool):St:=
 ⟨[(2,vi a3),(3,vp 0 0),(4,vp 1 0),(8,vi v7.1),(40,vb x12)],[(0,bx 149 (GG a1)),(1,bx 26 (qN a2))]⟩
theorem CV (E:Env 0) (a1:qT) (a3:Int) (v14:Box):∀(n:Nat) (x16:Int) (x17:Int) (res:(Int×Bool)⊕Int),zT a1 a3 v14 n x16 x17=some res->HL (kx E 64 0) (nd f67 1012) (JJ 0 zaQ (λv st=>RetQ Try.prog f67 (PS v) (ZI v) .ret st) res) n (RT a1 a3 v14 x16 x17):=by
 intro n
 induction n with
 |zero=>
  intro x16 x17 res hm;cases hm
 |succ n ih=>
  intro x16 x17 res hm;refine zE (s_va 3 [(48,vb (decide (x17<(a1.defects.length:Int))))] ?_);refine q_sq (q_cq hm (λhm=>?_) (λhm=>?_))
  ·refine q_sk (q_jn (qAP a1 a3 v14 x17) (λp=>KM x17 (zT a1 a3 v14 n) p=some res) ?_ ?_)
   ·rintro x24 hm;exact q_vv [] 4 [47] [(47,vi (w64 (x17+1)))] (q_hl (RT a1 a3 v14 x24 (w64 (x17+1))) (ih x24 (w64 (x17+1)) _ hm))
   ·refine q_bk 1 ?_;obtain⟨g19,hm⟩:=qU hm;refine s_vu [qi 0 g19] 3 [48] [(12,vp 3 0)] [] [(3,bx 122 (qE (a1.defects.getD x17.toNat du)))] (q_sq ?_);obtain⟨v20,h21,hm⟩:=qI hm;refine s_vv [qc 2 [51,52] 4 (SU (a1.defects.getD x17.toNat du) v14 v20 h21)] 4 [] [(54,vb (!v20))] (q_cq hm (λhm=>?_) (λhm=>?_))
    ·exact q_ex 1 (q_J (x16) hm)
    ·refine q_sk (q_sq ?_);refine s_vu [] 4 [12,54] [(57,vb (((a1.defects.getD x17.toNat du).Kind)==3))] [3] [] (q_cq hm (λhm=>?_) (λhm=>?_))
     ·refine s_vn [] 4 ⟨[(6,vi 0),(7,vb false)],[]⟩ ?_;obtain rfl:=oi hm;refine q_rt (wT (0,false) ?_);exact q_rm
     ·refine q_sk (q_vv [] 4 [8,57] [(8,vi (w64 (x16-a3)))] ?_);exact q_J (w64 (x16-a3)) hm
  ·refine q_ex 0 ?_;obtain rfl:=oi hm;exact q_l1 x16
theorem qBL (a1:qT) (a2:Span) (a3:Int) (r:Int×Bool) (hm:JH a1 a2 a3=some r):CtX Try.prog globs 67 0 0 [.agg (GG a1),.agg (qN a2),.one (ci a3)] [] (PS r) (ZI r):=by
 unfold JH at hm;refine q_E f67 64 λE=>?_;refine s_vn [] 0 ⟨[(2,vi a3),(3,vp 0 0),(4,vp 1 0)],[(0,bx 149 (GG a1)),(1,bx 26 (qN a2))]⟩ (q_sq ?_);obtain⟨v4,h5,hm⟩:=qI hm;refine s_vv [qc 3 [13,15] 2 (qDy a2 a1.length v4 h5)] 2 [] [(17,vb (!v4))] (q_cq hm (λhm=>?_) (λhm=>?_))
 ·refine s_vn [] 2 ⟨[(6,vi 0),(7,vb false)],[]⟩ ?_;obtain rfl:=oi hm;exact q_rt q_rm
 ·refine q_sk ?_;obtain⟨v7,h8,hm⟩:=qI hm;refine s_vv [qc 7 [20,25] 2 (qEK a1.product (w64 (a2.B-a2.A)) v7 h8)] 2 [17] [(8,vi v7.1),(9,vb v7.2)] (q_sq ?_);refine q_jn (qAH a1 a2 a3 v7) (λp=>KK a1 a2 a3 v7 p=some r) ?_ ?_
  ·rintro x12 hm;refine q_cq hm (λhm=>?_) (λhm=>?_)
   ·refine s_vn [] 2 ⟨[(6,vi 0),(7,vb false)],[]⟩ ?_;obtain rfl:=oi hm;exact q_rt q_rm
   ·refine q_sk ?_;obtain⟨v14,h15,hm⟩:=qI hm;refine s_vu [qc 2 [41,42] 2 (SW a1 a2 v14 h15)] 2 [4,40] [(10,vp 2 0)] [1] [(2,bx 58 (WN v14))] (q_sq ?_);refine s_vu [] 3 [3] [(45,vc (tl qE du a1.defects)),(46,vi (a1.defects.length:Int)),(47,vi 0)] [0] [] ?_;obtain⟨u28,h27,hm⟩:=qI hm;refine yO (nd f67 1012) 0 (by kernel_rfl) FUEL zaQ (λv st=>RetQ Try.prog f67 (PS v) (ZI v) .ret st) u28 (q_hl (RT a1 a3 v14 v7.1 0) (CV E a1 a3 v14 FUEL v7.1 0 u28 h27)) ?_ ?_
    ·rintro v29 rfl st hr;obtain rfl:=oi hm;exact hr
    ·rintro o26 rfl;replace hm:_=some r:=hm;refine s_vn [] 3 ⟨[(6,vi (imax o26 0)),(7,vb true)],[]⟩ ?_;obtain rfl:=oi hm;exact q_rt q_rm
  ·rcases bif_c hm with⟨b9,hm⟩|⟨b9,hm⟩
   ·exact q_du [qf 2 b9] [0,1,3,7,15,7,63,7,135,391,1023,2047] 2 [9] [(40,vb true)] [] [] (q_J (true) hm)
   ·obtain⟨v10,h11,hm⟩:=qI hm;exact q_du [qf 2 b9,qk 6 [31,33,34] 2 ⟨[(31,vb false),(33,vc (tl zB du a1.zones)),(34,va (qN a2))],[]⟩ (qGr a1.zones a2 v10 h11)] [0,1,3,7,15,7,63,7,135,391,1023,2047] 2 [9] [(40,vb (decide (v10>a1.product.Wane)))] [] [] (q_J (decide (v10>a1.product.Wane)) hm)
def qGH (r:Int):V:=vi r
def qGq (r:Int):List (Nat×(Nat×O)):=[]
theorem IV (a1:Int) (a2:Int) (r:Int) (hm:DH a1 a2=some r):CtX Try.prog globs 98 0 0 [.one (ci a1),.one (ci a2)] [] (qGH r) (qGq r):=by
 unfold DH at hm;refine q_E f98 11 λE=>?_;refine s_vn [] 0 ⟨[(0,vi a1),(1,vi a2)],[]⟩ (s_vn [qd 5 dN (show(1000:Int)≠0 by decide)] 0 ⟨[(4,vi (w64 (Int.tdiv (w64 ((w64 (a1*(w64 (1000+a2))))+999)) 1000)))],[]⟩ ?_);obtain rfl:=oi hm;exact q_rt q_rm
open Go.Proofs Go.Proofs.Try
def qDW (r:Bool):V:=vb r
def qEu (r:Bool):List (Nat×(Nat×O)):=[]
def qBQ (x3:Bool):St:=
 ⟨[(2,vb x3)],[]⟩
theorem QO (a1:Int) (r:Bool) (hm:XM a1=some r):CtX Try.prog globs 97 0 0 [.one (ci a1)] [] (qDW r) (qEu r):=by
 unfold XM at hm;refine q_E f97 9 λE=>?_;refine s_vn [] 0 ⟨[(0,vi a1)],[]⟩ (q_jn (qBQ) (λp=>RK p=some r) ?_ ?_)
 ·rintro x3 hm;obtain rfl:=oi hm;exact q_rt q_rm
 ·rcases bif_c hm with⟨b2,hm⟩|⟨b2,hm⟩
  ·exact q_vn [qf 2 b2] 0 ⟨[(2,vb (decide (a1<=600)))],[]⟩ (q_J (decide (a1<=600)) hm)
  ·exact q_vn [qf 2 b2] 0 ⟨[(2,vb false)],[]⟩ (q_J (false) hm)
def qE6 (r:Int×Int):V:= .tup [.one (ci r.1),.one (ci r.2)]
def qF2 (r:Int×Int):List (Nat×(Nat×O)):=[]
def qCQ (a1:Product) (x9:Bool):St:=
 ⟨[(1,vp 0 0),(23,vb x9)],[(0,bx 114 (qD a1))]⟩
theorem FF (a1:Product) (r:Int×Int) (hm:YQ a1=some r):CtX Try.prog globs 78 0 0 [.agg (qD a1)] [] (qE6 r) (qF2 r):=by
 unfold YQ at hm;refine q_E f78 34 λE=>?_;refine s_vn [] 0 ⟨[(1,vp 0 0)],[(0,bx 114 (qD a1))]⟩ (q_sq ?_);refine q_jn (qCQ a1) (λp=>JG a1 p=some r) ?_ ?_
 ·rintro x9 hm;refine q_cq hm (λhm=>?_) (λhm=>?_)
  ·refine s_vn [] 1 ⟨[(2,vi 0),(3,vi 0)],[]⟩ ?_;obtain rfl:=oi hm;exact q_rt q_rm
  ·refine q_sk ?_;obtain⟨v11,h12,hm⟩:=qI hm;obtain⟨v13,h14,hm⟩:=qI hm;refine s_dn [qc 4 [25,27] 1 (IV a1.Thick a1.Allow v11 h12),qc 9 [30,32] 1 (IV a1.Width a1.Allow v13 h14)] [0,1,0,4,15,0,32,0,128,511,1023,2047] 1 ⟨[(2,vi v11),(3,vi v13)],[]⟩ ?_;obtain rfl:=oi hm;exact q_rt q_rm
 ·obtain⟨v2,h3,hm⟩:=qI hm;rcases bif_c hm with⟨b4,hm⟩|⟨b4,hm⟩
  ·exact q_vv [qc 2 [5] 1 (QO a1.Thick v2 h3),qf 4 b4] 1 [] [(23,vb true)] (q_J (true) hm)
  ·obtain⟨v5,h6,hm⟩:=qI hm;rcases bif_c hm with⟨b7,hm⟩|⟨b7,hm⟩
   ·exact q_vv [qc 2 [5] 1 (QO a1.Thick v2 h3),qf 4 b4,qk 7 [8,10] 1 ⟨[(8,vb false),(10,vi a1.Width)],[]⟩ (QO a1.Width v5 h6),qf 10 b7] 1 [] [(23,vb true)] (q_J (true) hm)
   ·rcases bif_c hm with⟨b8,hm⟩|⟨b8,hm⟩
    ·exact q_vv [qc 2 [5] 1 (QO a1.Thick v2 h3),qf 4 b4,qk 7 [8,10] 1 ⟨[(8,vb false),(10,vi a1.Width)],[]⟩ (QO a1.Width v5 h6),qf 10 b7,qf 15 b8] 1 [] [(23,vb true)] (q_J (true) hm)
    ·exact q_vv [qc 2 [5] 1 (QO a1.Thick v2 h3),qf 4 b4,qk 7 [8,10] 1 ⟨[(8,vb false),(10,vi a1.Width)],[]⟩ (QO a1.Width v5 h6),qf 10 b7,qf 15 b8] 1 [] [(23,vb (decide (a1.Allow>200)))] (q_J (decide (a1.Allow>200)) hm)
def qGD (r:Int):V:=vi r
def qGJ (r:Int):List (Nat×(Nat×O)):=[]
def NA (v2:(List qG)) (x4:Int) (x5:Int):St:=
 ⟨[(3,vi x4),(7,vc (tl qF du v2)),(8,vi (v2.length:Int)),(9,vi x5)],[]⟩
def SP (x8:Int):St:=
 ⟨[(3,vi x8)],[]⟩
theorem qCN (E:Env 0) (v2:(List qG)):∀(n:Nat) (x4:Int) (x5:Int) (res:Int),ZV v2 n x4 x5=some res->HL (kx E 19 0) (nd f37 116) (jS 0 SP res) n (NA v2 x4 x5):=by
 intro n
 induction n with
 |zero=>
  intro x4 x5 res hm;cases hm
 |succ n ih=>
  intro x4 x5 res hm;refine zE (s_va 0 [(10,vb (decide (x5<(v2.length:Int))))] ?_);refine q_sq (q_cq hm (λhm=>?_) (λhm=>?_))
  ·refine q_sk (q_sq ?_);refine q_bk 1 ?_;obtain⟨g7,hm⟩:=qU hm;refine s_vu [qi 0 g7] 0 [10] [(5,vp 0 0)] [] [(0,bx 93 (qF (v2.getD x5.toNat du)))] (q_vu [] 1 [3,5] [(3,vi (w64 (x4+((v2.getD x5.toNat du).Len))))] [0] [] ?_);exact q_vv [] 1 [9] [(9,vi (w64 (x5+1)))] (q_hl (NA v2 (w64 (x4+((v2.getD x5.toNat du).Len))) (w64 (x5+1))) (ih (w64 (x4+((v2.getD x5.toNat du).Len))) (w64 (x5+1)) _ hm))
  ·refine q_ex 0 ?_;obtain rfl:=oi hm;exact q_l0
theorem OB (a1:List qG) (r:Int) (hm:RO a1=some r):CtX Try.prog globs 37 0 0 [.one (tl qF du a1)] [] (qGD r) (qGJ r):=by
 unfold RO at hm;refine q_E f37 19 λE=>?_;refine s_vn [] 0 ⟨[(0,vc (tl qF du a1))],[]⟩ (s_va 0 [(3,vi 0)] ?_);refine q_sq ?_;obtain⟨v2,h3,hm⟩:=qI hm;refine s_vv [qc 1 [6] 0 (MH a1 v2 h3)] 0 [0] [(7,vc (tl qF du v2)),(8,vi (v2.length:Int)),(9,vi 0)] ?_;obtain⟨o9,h10,hm⟩:=qI hm;refine jN (nd f37 116) 0 (by kernel_rfl) FUEL SP o9 (q_hl (NA v2 0 0) (qCN E v2 FUEL 0 0 o9 h10)) (s_vn [] 0 ⟨[(2,vi o9)],[]⟩ ?_);obtain rfl:=oi hm;exact q_rt q_rm
open Go.Proofs Go.Proofs.Try
def qH3 (r:(List qR)):V:=vo 0 0 3 r.length
def qHT (r:(List qR)):List (Nat×(Nat×O)):=[(0,ro 0 182 3 r.length (rf zB r))]
def FH (a1:List qG) (a2:Rect) (l3:List qR) (l3n:Nat) (x4:Int) (x5:Int):St:=
 ⟨[(3,vp 0 0),(5,vi (w64 ((w64 (a2.X.B-a2.X.A))*(w64 (a2.Y.B-a2.Y.A))))),(6,vo 1 0 3 l3n),(7,vi x4),(27,vc (tl qF du a1)),(28,vi (a1.length:Int)),(29,vi x5)],[(0,bx 28 (qK a2)),(1,ro 0 182 3 l3n (rf zB l3))]⟩
def AH (l12:List qR):St:=
 ⟨[(6,vo 1 0 3 l12.length)],[(1,ro 0 182 3 l12.length (rf zB l12))]⟩
theorem qDm (E:Env 0) (a1:List qG) (a2:Rect):∀(n:Nat) (l3:List qR) (l3n:Nat) (x4:Int) (x5:Int) (res:(List qR)),l3.length=l3n->XP a1 a2 n l3 x4 x5=some res->HL (kx E 61 0) (nd f85 500) (jS 0 AH res) n (FH a1 a2 l3 l3n x4 x5):=by
 intro n
 induction n with
 |zero=>
  intro l3 l3n x4 x5 res hl0 hm;cases hm
 |succ n ih=>
  intro l3 l3n x4 x5 res hl0 hm;subst hl0;refine zE (s_va 2 [(30,vb (decide (x5<(a1.length:Int))))] ?_);refine q_sq (q_cq hm (λhm=>?_) (λhm=>?_))
  ·refine q_sk (q_sq ?_);refine q_bk 1 ?_;obtain⟨g7,hm⟩:=qU hm;refine s_vu [qi 0 g7] 2 [30] [(9,vp 2 0)] [] [(2,bx 93 (qF (a1.getD x5.toNat du)))] ?_;obtain⟨v8,h9,hm⟩:=qI hm;refine s_vv [qc 4 [35,36] 3 (EA ((a1.getD x5.toNat du).Sec) a2 v8 h9)] 3 [] [(10,vi (w64 ((w64 ((w64 (a2.X.B-a2.X.A))*(w64 (a2.Y.B-a2.Y.A))))-v8)))] (s_vu [] 3 [7,9] [(11,vp 3 0)] [2] [(3,bx 26 [ci x4,ci (w64 (x4+((a1.getD x5.toNat du).Len)))])] ?_);obtain⟨g10,hm⟩:=qU hm;obtain⟨g11,hm⟩:=qU hm
   refine s_du [qd 8 dN (nz_of g10),qd 10 (drw 4 0 (rf zB [(qR.mk (Span.mk x4 (w64 (x4+((a1.getD x5.toNat du).Len)))) (w64 (Int.tdiv (w64 ((w64 ((w64 (1000*(w64 ((w64 ((w64 (a2.X.B-a2.X.A))*(w64 (a2.Y.B-a2.Y.A))))-v8))))+(w64 ((w64 (a2.X.B-a2.X.A))*(w64 (a2.Y.B-a2.Y.A))))))-1)) (w64 ((w64 (a2.X.B-a2.X.A))*(w64 (a2.Y.B-a2.Y.A)))))))])) (litP zB du 3 (λ_=>rfl) ([(qR.mk (Span.mk x4 (w64 (x4+((a1.getD x5.toNat du).Len)))) (w64 (Int.tdiv (w64 ((w64 ((w64 (1000*(w64 ((w64 ((w64 (a2.X.B-a2.X.A))*(w64 (a2.Y.B-a2.Y.A))))-v8))))+(w64 ((w64 (a2.X.B-a2.X.A))*(w64 (a2.Y.B-a2.Y.A))))))-1)) (w64 ((w64 (a2.X.B-a2.X.A))*(w64 (a2.Y.B-a2.Y.A)))))))]:List qR) 1 rfl),qd 11 (drw 1 1 (rf zB (l3++[(qR.mk (Span.mk x4 (w64 (x4+((a1.getD x5.toNat du).Len)))) (w64 (Int.tdiv (w64 ((w64 ((w64 (1000*(w64 ((w64 ((w64 (a2.X.B-a2.X.A))*(w64 (a2.Y.B-a2.Y.A))))-v8))))+(w64 ((w64 (a2.X.B-a2.X.A))*(w64 (a2.Y.B-a2.Y.A))))))-1)) (w64 ((w64 (a2.X.B-a2.X.A))*(w64 (a2.Y.B-a2.Y.A)))))))]))) (apP zB du l3 ([(qR.mk (Span.mk x4 (w64 (x4+((a1.getD x5.toNat du).Len)))) (w64 (Int.tdiv (w64 ((w64 ((w64 (1000*(w64 ((w64 ((w64 (a2.X.B-a2.X.A))*(w64 (a2.Y.B-a2.Y.A))))-v8))))+(w64 ((w64 (a2.X.B-a2.X.A))*(w64 (a2.Y.B-a2.Y.A))))))-1)) (w64 ((w64 (a2.X.B-a2.X.A))*(w64 (a2.Y.B-a2.Y.A)))))))]:List qR) l3.length 1 3 24 (1<=1) (ko _) rfl rfl (λ_=>rfl) (yZ g11))] [0,0,0,4,0,28,60,0,252,510,1022,2047,4095] 4 [6,10] [(6,vo 1 1 3 (l3.length+1))] [1] [(1,ro 1 182 3 (l3.length+1) (rf zB (l3++[(qR.mk (Span.mk x4 (w64 (x4+((a1.getD x5.toNat du).Len)))) (w64 (Int.tdiv (w64 ((w64 ((w64 (1000*(w64 ((w64 ((w64 (a2.X.B-a2.X.A))*(w64 (a2.Y.B-a2.Y.A))))-v8))))+(w64 ((w64 (a2.X.B-a2.X.A))*(w64 (a2.Y.B-a2.Y.A))))))-1)) (w64 ((w64 (a2.X.B-a2.X.A))*(w64 (a2.Y.B-a2.Y.A)))))))])))] ?_
   refine q_vu [] 5 [11] [(7,vi (w64 (x4+((a1.getD x5.toNat du).Len))))] [3] [] (q_vv [] 5 [29] [(29,vi (w64 (x5+1)))] ?_)
   exact q_hl (FH a1 a2 (l3++[(qR.mk (Span.mk x4 (w64 (x4+((a1.getD x5.toNat du).Len)))) (w64 (Int.tdiv (w64 ((w64 ((w64 (1000*(w64 ((w64 ((w64 (a2.X.B-a2.X.A))*(w64 (a2.Y.B-a2.Y.A))))-v8))))+(w64 ((w64 (a2.X.B-a2.X.A))*(w64 (a2.Y.B-a2.Y.A))))))-1)) (w64 ((w64 (a2.X.B-a2.X.A))*(w64 (a2.Y.B-a2.Y.A)))))))]) (l3.length+1) (w64 (x4+((a1.getD x5.toNat du).Len))) (w64 (x5+1))) (ih (l3++[(qR.mk (Span.mk x4 (w64 (x4+((a1.getD x5.toNat du).Len)))) (w64 (Int.tdiv (w64 ((w64 ((w64 (1000*(w64 ((w64 ((w64 (a2.X.B-a2.X.A))*(w64 (a2.Y.B-a2.Y.A))))-v8))))+(w64 ((w64 (a2.X.B-a2.X.A))*(w64 (a2.Y.B-a2.Y.A))))))-1)) (w64 ((w64 (a2.X.B-a2.X.A))*(w64 (a2.Y.B-a2.Y.A)))))))]) (l3.length+1) (w64 (x4+((a1.getD x5.toNat du).Len))) (w64 (x5+1)) _ (yN rfl rfl) hm)
  ·refine q_ex 0 ?_;obtain rfl:=oi hm;exact q_l0
theorem qGl (a1:List qG) (a2:Rect) (r:(List qR)) (hm:NJ a1 a2=some r):CtX Try.prog globs 85 0 0 [.one (tl qF du a1),.agg (qK a2)] [] (qH3 r) (qHT r):=by
 unfold NJ at hm;refine q_E f85 61 λE=>?_;refine s_vn [] 0 ⟨[(0,vc (tl qF du a1)),(3,vp 0 0)],[(0,bx 28 (qK a2))]⟩ (s_va 1 [(5,vi (w64 ((w64 (a2.X.B-a2.X.A))*(w64 (a2.Y.B-a2.Y.A)))))] ?_);refine s_va 1 [(6,vc (.emp))] (s_va 1 [(7,vi 0)] ?_);refine q_sq (s_vv [] 1 [0] [(27,vc (tl qF du a1)),(28,vi (a1.length:Int)),(29,vi 0)] ?_);refine q_fo 6 1 182 3 zB ?_;obtain⟨o13,h14,hm⟩:=qI hm;refine jN (nd f85 500) 0 (by kernel_rfl) FUEL AH o13 (q_hl (FH a1 a2 ([]:List qR) 0 0 0) (qDm E a1 a2 FUEL ([]:List qR) 0 0 0 o13 rfl h14)) (s_vv [] 2 [6] [(4,vo 1 0 3 o13.length)] ?_);obtain rfl:=oi hm
 exact q_sw 1 0 (q_rt q_rm)
def qEU (r:Bool):V:=vb r
def qFK (r:Bool):List (Nat×(Nat×O)):=[]
def qCz (x5:Bool):St:=
 ⟨[(6,vb x5)],[]⟩
theorem JC (a1:Span) (a2:Int) (a3:Int) (r:Bool) (hm:YK a1 a2 a3=some r):CtX Try.prog globs 94 0 0 [.agg (qN a1),.one (ci a2),.one (ci a3)] [] (qEU r) (qFK r):=by
 unfold YK at hm;refine q_E f94 23 λE=>?_;refine s_vn [] 0 ⟨[(1,vi a2),(2,vi a3),(3,vp 0 0)],[(0,bx 26 (qN a1))]⟩ (q_jn (qCz) (λp=>TY p=some r) ?_ ?_)
 ·rintro x5 hm;obtain rfl:=oi hm;exact q_rt q_rm
 ·rcases bif_c hm with⟨b4,hm⟩|⟨b4,hm⟩
  ·exact q_vn [qf 7 b4] 1 ⟨[(6,vb (decide ((imax a1.A a1.B)<=a3)))],[]⟩ (q_J (decide ((imax a1.A a1.B)<=a3)) hm)
  ·exact q_vn [qf 7 b4] 1 ⟨[(6,vb false)],[]⟩ (q_J (false) hm)
def qGi (r:Int):V:=vi r
def qGd (r:Int):List (Nat×(Nat×O)):=[]
def qDD (x23:Bool):St:=
 ⟨[(29,vb x23)],[]⟩
def qDt (a1:qH) (x13:Bool):St:=
 ⟨[(3,vp 1 0),(15,vb x13)],[(1,bx 58 (WN a1.Box))]⟩
def qDs (a1:qH) (x3:Bool):St:=
 ⟨[(3,vp 1 0),(6,vb x3)],[(1,bx 58 (WN a1.Box))]⟩
theorem qFn (a1:qH) (r:Int) (hm:DG a1=some r):CtX Try.prog globs 73 0 0 [.agg (qE a1)] [] (qGi r) (qGd r):=by
 unfold DG at hm;refine q_E f73 46 λE=>?_;refine s_vn [] 0 ⟨[(1,vp 0 0)],[(0,bx 122 (qE a1))]⟩ (s_vu [] 1 [] [(3,vp 1 0)] [] [(1,bx 58 (WN a1.Box))] ?_);refine q_sq (q_bk 0 ?_);refine q_jn (qDs a1) (λp=>VF a1 p=some r) ?_ ?_
 ·rintro x3 hm;refine q_cq hm (λhm=>?_) (λhm=>?_)
  ·refine s_vn [] 2 ⟨[(2,vi 10)],[]⟩ ?_;obtain rfl:=oi hm;exact q_rt q_rm
  ·refine q_jn (qDt a1) (λp=>PR a1 p=some r) ?_ ?_
   ·rintro x13 hm;refine q_cq hm (λhm=>?_) (λhm=>?_)
    ·refine s_vn [] 2 ⟨[(2,vi 19)],[]⟩ ?_;obtain rfl:=oi hm;exact q_rt q_rm
    ·refine q_jn (qDD) (λp=>PE p=some r) ?_ ?_
     ·rintro x23 hm;refine q_cq hm (λhm=>?_) (λhm=>?_)
      ·refine s_vn [] 2 ⟨[(2,vi 9)],[]⟩ ?_;obtain rfl:=oi hm;exact q_rt q_rm
      ·refine q_sk (s_vn [] 2 ⟨[(2,vi 0)],[]⟩ ?_);obtain rfl:=oi hm;exact q_rt q_rm
     ·obtain⟨v15,h16,hm⟩:=qI hm;rcases bif_c hm with⟨b17,hm⟩|⟨b17,hm⟩
      ·exact q_vn [qk 2 [31] 2 ⟨[(31,va (qN a1.Box.X))],[]⟩ (JC a1.Box.X (-600) 600 v15 h16),qf 4 b17] 2 ⟨[(29,vb true)],[]⟩ (q_J (true) hm)
      ·obtain⟨v18,h19,hm⟩:=qI hm;rcases bif_c hm with⟨b20,hm⟩|⟨b20,hm⟩
       ·exact q_vn [qk 2 [31] 2 ⟨[(31,va (qN a1.Box.X))],[]⟩ (JC a1.Box.X (-600) 600 v15 h16),qf 4 b17,qk 7 [34,36] 2 ⟨[(34,vb false),(36,va (qN a1.Box.Y))],[]⟩ (JC a1.Box.Y (-600) 600 v18 h19),qf 10 b20] 2 ⟨[(29,vb true)],[]⟩ (q_J (true) hm)
       ·obtain⟨v21,h22,hm⟩:=qI hm;exact q_vn [qk 2 [31] 2 ⟨[(31,va (qN a1.Box.X))],[]⟩ (JC a1.Box.X (-600) 600 v15 h16),qf 4 b17,qk 7 [34,36] 2 ⟨[(34,vb false),(36,va (qN a1.Box.Y))],[]⟩ (JC a1.Box.Y (-600) 600 v18 h19),qf 10 b20,qk 13 [40,42] 2 ⟨[(40,vb false),(42,va (qN a1.Box.Z))],[]⟩ (JC a1.Box.Z 0 20000 v21 h22)] 2 ⟨[(29,vb (!v21))],[]⟩ (q_J (!v21) hm)
   ·obtain⟨v5,h6,hm⟩:=qI hm;rcases bif_c hm with⟨b7,hm⟩|⟨b7,hm⟩
    ·exact q_vv [qc 2 [17] 2 (wD a1.Box.X v5 h6),qf 3 b7] 2 [6] [(15,vb true)] (q_J (true) hm)
    ·obtain⟨v8,h9,hm⟩:=qI hm;rcases bif_c hm with⟨b10,hm⟩|⟨b10,hm⟩
     ·exact q_vv [qc 2 [17] 2 (wD a1.Box.X v5 h6),qf 3 b7,qk 6 [19,21] 2 ⟨[(19,vb false),(21,va (qN a1.Box.Y))],[]⟩ (wD a1.Box.Y v8 h9),qf 8 b10] 2 [6] [(15,vb true)] (q_J (true) hm)
     ·obtain⟨v11,h12,hm⟩:=qI hm;exact q_vv [qc 2 [17] 2 (wD a1.Box.X v5 h6),qf 3 b7,qk 6 [19,21] 2 ⟨[(19,vb false),(21,va (qN a1.Box.Y))],[]⟩ (wD a1.Box.Y v8 h9),qf 8 b10,qk 11 [24,26] 2 ⟨[(24,vb false),(26,va (qN a1.Box.Z))],[]⟩ (wD a1.Box.Z v11 h12)] 2 [6] [(15,vb v11)] (q_J (v11) hm)
 ·rcases bif_c hm with⟨b2,hm⟩|⟨b2,hm⟩
  ·exact q_vu [qf 3 b2] 2 [1] [(6,vb true)] [0] [] (q_J (true) hm)
  ·exact q_vu [qf 3 b2] 2 [1] [(6,vb (decide (a1.Kind>6)))] [0] [] (q_J (decide (a1.Kind>6)) hm)
open Go.Proofs Go.Proofs.Try
def MP (r:Int):V:=vi r
def MX (r:Int):List (Nat×(Nat×O)):=[]
def BW (a1:List qH) (x3:Int):St:=
 ⟨[(9,vc (tl qE du a1)),(10,vi (a1.length:Int)),(11,vi x3)],[]⟩
def SQ :St:=
 ⟨[],[]⟩
theorem qB0 (E:Env 0) (a1:List qH):∀(n:Nat) (x3:Int) (res:Int⊕Unit),ZW a1 n x3=some res->HL (kx E 21 0) (nd f54 116) (JJ 0 (λo=>SQ) (λv st=>RetQ Try.prog f54 (MP v) (MX v) .ret st) res) n (BW a1 x3):=by
 intro n
 induction n with
 |zero=>
  intro x3 res hm;cases hm
 |succ n ih=>
  intro x3 res hm;refine zE (s_va 0 [(12,vb (decide (x3<(a1.length:Int))))] ?_);refine q_sq (q_cq hm (λhm=>?_) (λhm=>?_))
  ·refine q_sk (q_sq ?_);refine q_bk 1 ?_;obtain⟨g5,hm⟩:=qU hm;refine s_vu [qi 0 g5] 0 [12] [(4,vp 0 0)] [] [(0,bx 122 (qE (a1.getD x3.toNat du)))] ?_;obtain⟨v6,h7,hm⟩:=qI hm;refine s_vu [qc 1 [15] 1 (qFn (a1.getD x3.toNat du) v6 h7)] 1 [4] [(5,vi v6)] [0] [] (s_va 1 [(18,vb (v6 !=0))] ?_);refine q_cq hm (λhm=>?_) (λhm=>?_)
   ·refine s_vn [] 1 ⟨[(2,vi v6)],[]⟩ ?_;obtain rfl:=oi hm;refine q_rt (wT v6 ?_);exact q_rm
   ·refine q_sk (q_vv [] 1 [5,11,18] [(11,vi (w64 (x3+1)))] ?_);exact q_hl (BW a1 (w64 (x3+1))) (ih (w64 (x3+1)) _ hm)
  ·refine q_ex 0 ?_;obtain rfl:=oi hm;exact q_l1 ()
theorem VV (a1:List qH) (r:Int) (hm:XV a1=some r):CtX Try.prog globs 54 0 0 [.one (tl qE du a1)] [] (MP r) (MX r):=by
 unfold XV at hm;refine q_E f54 21 λE=>?_;refine s_vn [] 0 ⟨[(0,vc (tl qE du a1))],[]⟩ (q_sq ?_);refine s_va 0 [(8,vb (decide ((a1.length:Int)>64)))] (q_cq hm (λhm=>?_) (λhm=>?_))
 ·refine s_vn [] 0 ⟨[(2,vi 4)],[]⟩ ?_;obtain rfl:=oi hm;exact q_rt q_rm
 ·refine q_sk (q_sq ?_);refine s_vn [] 0 ⟨[(9,vc (tl qE du a1)),(10,vi (a1.length:Int)),(11,vi 0)],[]⟩ ?_;obtain⟨u11,h10,hm⟩:=qI hm;refine yO (nd f54 116) 0 (by kernel_rfl) FUEL (λo=>SQ) (λv st=>RetQ Try.prog f54 (MP v) (MX v) .ret st) u11 (q_hl (BW a1 0) (qB0 E a1 FUEL 0 u11 h10)) ?_ ?_
  ·rintro v12 rfl st hr;obtain rfl:=oi hm;exact hr
  ·rintro o9 rfl;replace hm:_=some r:=hm;refine s_vn [] 0 ⟨[(2,vi 0)],[]⟩ ?_;obtain rfl:=oi hm;exact q_rt q_rm
def qEX (r:Bool):V:=vb r
def qFw (r:Bool):List (Nat×(Nat×O)):=[]
def qCd (x3:Bool):St:=
 ⟨[(2,vb x3)],[]⟩
theorem TU (a1:Int) (r:Bool) (hm:KW a1=some r):CtX Try.prog globs 95 0 0 [.one (.val (.int .u8 a1))] [] (qEX r) (qFw r):=by
 unfold KW at hm;refine q_E f95 9 λE=>?_;refine s_vn [] 0 ⟨[(0,vc (.val (.int .u8 a1)))],[]⟩ (q_jn (qCd) (λp=>UE p=some r) ?_ ?_)
 ·rintro x3 hm;obtain rfl:=oi hm;exact q_rt q_rm
 ·rcases bif_c hm with⟨b2,hm⟩|⟨b2,hm⟩
  ·exact q_vn [qf 2 b2] 0 ⟨[(2,vb (decide (a1<=122)))],[]⟩ (q_J (decide (a1<=122)) hm)
  ·exact q_vn [qf 2 b2] 0 ⟨[(2,vb false)],[]⟩ (q_J (false) hm)
def qE1 (r:Bool):V:=vb r
def qFg (r:Bool):List (Nat×(Nat×O)):=[]
def qCK (x3:Bool):St:=
 ⟨[(2,vb x3)],[]⟩
theorem AR (a1:Int) (r:Bool) (hm:US a1=some r):CtX Try.prog globs 96 0 0 [.one (.val (.int .u8 a1))] [] (qE1 r) (qFg r):=by
 unfold US at hm;refine q_E f96 9 λE=>?_;refine s_vn [] 0 ⟨[(0,vc (.val (.int .u8 a1)))],[]⟩ (q_jn (qCK) (λp=>UJ p=some r) ?_ ?_)
 ·rintro x3 hm;obtain rfl:=oi hm;exact q_rt q_rm
 ·rcases bif_c hm with⟨b2,hm⟩|⟨b2,hm⟩
  ·exact q_vn [qf 2 b2] 0 ⟨[(2,vb (decide (a1<=57)))],[]⟩ (q_J (decide (a1<=57)) hm)
  ·exact q_vn [qf 2 b2] 0 ⟨[(2,vb false)],[]⟩ (q_J (false) hm)
open Go.Proofs Go.Proofs.Try
def MM (r:Bool):V:=vb r
def MO (r:Bool):List (Nat×(Nat×O)):=[]
def qDw (a1:ByteArray) (x9:Int) (x18:Bool):St:=
 ⟨[(0,vc (cs a1)),(3,vi x9),(39,vb x18)],[]⟩
def NH (a1:ByteArray) (x9:Int):St:=
 ⟨[(0,vc (cs a1)),(3,vi x9)],[]⟩
def SZ :St:=
 ⟨[],[]⟩
def qDk (a1:ByteArray) (x7:Bool):St:=
 ⟨[(0,vc (cs a1)),(18,vb x7)],[]⟩
theorem qCM (E:Env 0) (a1:ByteArray):∀(n:Nat) (x9:Int) (res:Bool⊕Unit),jP a1 n x9=some res->HL (kx E 40 0) (nd f74 116) (JJ 0 (λo=>SZ) (λv st=>RetQ Try.prog f74 (MM v) (MO v) .ret st) res) n (NH a1 x9):=by
 intro n
 induction n with
 |zero=>
  intro x9 res hm;cases hm
 |succ n ih=>
  intro x9 res hm;refine zE (q_sq ?_);refine s_va 0 [(22,vb (decide (x9<(a1.size:Int))))] (q_cq hm (λhm=>?_) (λhm=>?_))
  ·refine q_sk (q_sq ?_);refine q_bk 1 ?_;obtain⟨g11,hm⟩:=qU hm;refine s_vv [qi 2 g11] 0 [22] [(4,vc (.val (.int .u8 (strAt a1 x9.toNat))))] (q_jn (qDw a1 x9) (λp=>PW x9 (jP a1 n) p=some res) ?_ ?_)
   ·rintro x18 hm;refine q_cq hm (λhm=>?_) (λhm=>?_)
    ·refine s_vn [] 0 ⟨[(2,vb false)],[]⟩ ?_;obtain rfl:=oi hm;refine q_rt (wT false ?_);exact q_rm
    ·refine q_sk (q_vv [] 0 [3,39] [(3,vi (w64 (x9+1)))] ?_);exact q_hl (NH a1 (w64 (x9+1))) (ih (w64 (x9+1)) _ hm)
   ·obtain⟨v12,h13,hm⟩:=qI hm;rcases bif_c hm with⟨b14,hm⟩|⟨b14,hm⟩
    ·obtain⟨v15,h16,hm⟩:=qI hm;rcases bif_c hm with⟨b17,hm⟩|⟨b17,hm⟩
     ·exact q_vv [qc 1 [28] 0 (TU (strAt a1 x9.toNat) v12 h13),qf 3 b14,qk 5 [31,32] 0 ⟨[(31,vb true),(32,vc (.val (.int .u8 (strAt a1 x9.toNat))))],[]⟩ (AR (strAt a1 x9.toNat) v15 h16),qf 8 b17] 0 [4] [(39,vb ((strAt a1 x9.toNat) !=95))] (q_J ((strAt a1 x9.toNat) !=95) hm)
     ·exact q_vv [qc 1 [28] 0 (TU (strAt a1 x9.toNat) v12 h13),qf 3 b14,qk 5 [31,32] 0 ⟨[(31,vb true),(32,vc (.val (.int .u8 (strAt a1 x9.toNat))))],[]⟩ (AR (strAt a1 x9.toNat) v15 h16),qf 8 b17] 0 [4] [(39,vb false)] (q_J (false) hm)
    ·exact q_vv [qc 1 [28] 0 (TU (strAt a1 x9.toNat) v12 h13),qf 3 b14] 0 [4] [(39,vb false)] (q_J (false) hm)
  ·refine q_ex 0 ?_;obtain rfl:=oi hm;exact q_l1 ()
theorem qFV (a1:ByteArray) (r:Bool) (hm:GH a1=some r):CtX Try.prog globs 74 0 0 [.one (cs a1)] [] (MM r) (MO r):=by
 unfold GH at hm;refine q_E f74 40 λE=>?_;refine s_vn [] 0 ⟨[(0,vc (cs a1))],[]⟩ (q_sq ?_);refine q_jn (qDk a1) (λp=>PO a1 p=some r) ?_ ?_
 ·rintro x7 hm;refine q_cq hm (λhm=>?_) (λhm=>?_)
  ·refine s_vn [] 0 ⟨[(2,vb false)],[]⟩ ?_;obtain rfl:=oi hm;exact q_rt q_rm
  ·refine q_sk (q_sq ?_);refine s_vv [] 0 [18] [(3,vi 1)] ?_;obtain⟨u22,h21,hm⟩:=qI hm;refine yO (nd f74 116) 0 (by kernel_rfl) FUEL (λo=>SZ) (λv st=>RetQ Try.prog f74 (MM v) (MO v) .ret st) u22 (q_hl (NH a1 1) (qCM E a1 FUEL 1 u22 h21)) ?_ ?_
   ·rintro v23 rfl st hr;obtain rfl:=oi hm;exact hr
   ·rintro o20 rfl;replace hm:_=some r:=hm;refine s_vn [] 0 ⟨[(2,vb true)],[]⟩ ?_;obtain rfl:=oi hm;exact q_rt q_rm
 ·rcases bif_c hm with⟨b2,hm⟩|⟨b2,hm⟩
  ·exact q_vv [qf 3 b2] 0 [] [(18,vb true)] (q_J (true) hm)
  ·rcases bif_c hm with⟨b3,hm⟩|⟨b3,hm⟩
   ·exact q_vv [qf 3 b2,qf 8 b3] 0 [] [(18,vb true)] (q_J (true) hm)
   ·obtain⟨g4,hm⟩:=qU hm;obtain⟨v5,h6,hm⟩:=qI hm;exact q_vv [qf 3 b2,qf 8 b3,qi 10 g4,qk 11 [13,15] 0 ⟨[(13,vb false),(15,vc (.val (.int .u8 (strAt a1 ((0:Int).toNat)))))],[]⟩ (TU (strAt a1 ((0:Int).toNat)) v5 h6)] 0 [] [(18,vb (!v5))] (q_J (!v5) hm)
def MI (r:Int×Bool):V:= .tup [.one (ci r.1),.one (cb r.2)]
def HC (r:Int×Bool):List (Nat×(Nat×O)):=[]
def NC (a1:List Product) (a2:ByteArray) (x3:Int):St:=
 ⟨[(1,vc (cs a2)),(8,vc (tl qD du a1)),(9,vi (a1.length:Int)),(10,vi x3)],[]⟩
def EB :St:=
 ⟨[],[]⟩
theorem qCv (E:Env 0) (a1:List Product) (a2:ByteArray):∀(n:Nat) (x3:Int) (res:(Int×Bool)⊕Unit),WB a1 a2 n x3=some res->HL (kx E 21 0) (nd f75 52) (JJ 0 (λo=>EB) (λv st=>RetQ Try.prog f75 (MI v) (HC v) .ret st) res) n (NC a1 a2 x3):=by
 intro n
 induction n with
 |zero=>
  intro x3 res hm;cases hm
 |succ n ih=>
  intro x3 res hm;refine zE (s_va 0 [(11,vb (decide (x3<(a1.length:Int))))] ?_);refine q_sq (q_cq hm (λhm=>?_) (λhm=>?_))
  ·refine q_sk (q_sq ?_);refine q_bk 1 ?_;obtain⟨g5,hm⟩:=qU hm;refine s_vu [qi 1 g5] 0 [11] [(6,vi x3),(7,vp 0 0)] [] [(0,bx 114 (qD (a1.getD x3.toNat du)))] (s_vu [] 1 [7] [(18,vb (strEq ((a1.getD x3.toNat du).Name) a2))] [0] [] ?_);refine q_cq hm (λhm=>?_) (λhm=>?_)
   ·refine s_vn [] 1 ⟨[(4,vi x3),(5,vb true)],[]⟩ ?_;obtain rfl:=oi hm;refine q_rt (wT (x3,true) ?_);exact q_rm
   ·refine q_sk (q_vv [] 1 [6,10,18] [(10,vi (w64 (x3+1)))] ?_);exact q_hl (NC a1 a2 (w64 (x3+1))) (ih (w64 (x3+1)) _ hm)
  ·refine q_ex 0 ?_;obtain rfl:=oi hm;exact q_l1 ()
theorem qFA (a1:List Product) (a2:ByteArray) (r:Int×Bool) (hm:GX a1 a2=some r):CtX Try.prog globs 75 0 0 [.one (tl qD du a1),.one (cs a2)] [] (MI r) (HC r):=by
 unfold GX at hm;refine q_E f75 21 λE=>?_;refine s_vn [] 0 ⟨[(0,vc (tl qD du a1)),(1,vc (cs a2))],[]⟩ (q_sq ?_);refine s_vv [] 0 [0] [(8,vc (tl qD du a1)),(9,vi (a1.length:Int)),(10,vi 0)] ?_;obtain⟨u9,h8,hm⟩:=qI hm;refine yO (nd f75 52) 0 (by kernel_rfl) FUEL (λo=>EB) (λv st=>RetQ Try.prog f75 (MI v) (HC v) .ret st) u9 (q_hl (NC a1 a2 0) (qCv E a1 a2 FUEL 0 u9 h8)) ?_ ?_
 ·rintro v10 rfl st hr;obtain rfl:=oi hm;exact hr
 ·rintro o7 rfl;replace hm:_=some r:=hm;refine s_vn [] 0 ⟨[(4,vi 0),(5,vb false)],[]⟩ ?_;obtain rfl:=oi hm;exact q_rt q_rm
def QY (r:Int):V:=vi r
def QX (r:Int):List (Nat×(Nat×O)):=[]
def JV (a1:Product) (x18:Int):St:=
 ⟨[(1,vp 0 0),(70,vc (tl qJ du a1.Lengths)),(71,vi (a1.Lengths.length:Int)),(72,vi x18)],[(0,bx 114 (qD a1))]⟩
def EK (a1:Product) (x18:Int) (x26:Bool):St:=
 (JV a1 x18).up [] [(94,vb x26)] [] []
def ET (a1:Product) (x18:Int) (x22:Bool):St:=
 (JV a1 x18).up [] [(5,vi x18),(6,vi (a1.Lengths.getD x18.toNat du)),(82,vb x22)] [] []
def XC (a1:Product) (x18:Int):St:=
 (JV a1 x18).up [] [] [] []
def VQ (a1:Product):St:=
 ⟨[(1,vp 0 0)],[(0,bx 114 (qD a1))]⟩
def EO (a1:Product) (x32:Int) (x36:Bool):St:=
 ⟨[(97,vc (tl qJ du a1.Prices)),(98,vi (a1.Prices.length:Int)),(99,vi x32),(108,vb x36)],[]⟩
def XA (a1:Product) (x32:Int):St:=
 ⟨[(97,vc (tl qJ du a1.Prices)),(98,vi (a1.Prices.length:Int)),(99,vi x32)],[]⟩
def VT :St:=
 ⟨[],[]⟩
def EI (a1:Product) (x10:Bool):St:=
 ⟨[(1,vp 0 0),(46,vb x10)],[(0,bx 114 (qD a1))]⟩
def ER (a1:Product) (x5:Bool):St:=
 ⟨[(1,vp 0 0),(28,vb x5)],[(0,bx 114 (qD a1))]⟩
theorem SN (E:Env 0) (a1:Product):∀(n:Nat) (x18:Int) (res:Int⊕Unit),zQ a1 n x18=some res->HL (kx E 110 0) (nd f76 4084) (JJ 0 (λo=>VQ a1) (λv st=>RetQ Try.prog f76 (QY v) (QX v) .ret st) res) n (XC a1 x18):=by
 intro n
 induction n with
 |zero=>
  intro x18 res hm;cases hm
 |succ n ih=>
  intro x18 res hm;refine zE (s_va 1 [(73,vb (decide (x18<(a1.Lengths.length:Int))))] ?_);refine q_sq (q_cq hm (λhm=>?_) (λhm=>?_))
  ·refine q_sk (q_sq ?_);refine q_bk 1 ?_;obtain⟨g20,hm⟩:=qU hm;refine s_vv [qi 1 g20] 1 [73] [(5,vi x18),(6,vi (a1.Lengths.getD x18.toNat du))] (q_sq ?_);refine q_jn (ET a1 x18) (λp=>WP a1 x18 (zQ a1 n) p=some res) ?_ ?_
   ·rintro x22 hm;refine q_cq hm (λhm=>?_) (λhm=>?_)
    ·refine s_vn [] 1 ⟨[(2,vi 9)],[]⟩ ?_;obtain rfl:=oi hm;refine q_rt (wT 9 ?_);exact q_rm
    ·refine q_sk (q_jn (EK a1 x18) (λp=>WQ x18 (zQ a1 n) p=some res) ?_ ?_)
     ·rintro x26 hm;refine q_cq hm (λhm=>?_) (λhm=>?_)
      ·refine s_vn [] 1 ⟨[(2,vi 11)],[]⟩ ?_;obtain rfl:=oi hm;refine q_rt (wT 11 ?_);exact q_rm
      ·refine q_sk (q_vv [] 1 [72,94] [(72,vi (w64 (x18+1)))] ?_);exact q_hl (XC a1 (w64 (x18+1))) (ih (w64 (x18+1)) _ hm)
     ·rcases bif_c hm with⟨b24,hm⟩|⟨b24,hm⟩
      ·obtain⟨g25,hm⟩:=qU hm;exact q_vv [qf 2 b24,qi 8 g25] 1 [5,6,82] [(94,vb (decide ((a1.Lengths.getD x18.toNat du)<=(a1.Lengths.getD (w64 (x18-1)).toNat du))))] (q_J (decide ((a1.Lengths.getD x18.toNat du)<=(a1.Lengths.getD (w64 (x18-1)).toNat du))) hm)
      ·exact q_vv [qf 2 b24] 1 [5,6,82] [(94,vb false)] (q_J (false) hm)
   ·rcases bif_c hm with⟨b21,hm⟩|⟨b21,hm⟩
    ·exact q_vv [qf 2 b21] 1 [] [(82,vb true)] (q_J (true) hm)
    ·exact q_vv [qf 2 b21] 1 [] [(82,vb (decide ((a1.Lengths.getD x18.toNat du)>20000)))] (q_J (decide ((a1.Lengths.getD x18.toNat du)>20000)) hm)
  ·refine q_ex 0 ?_;obtain rfl:=oi hm;exact q_l1 ()
theorem SK (E:Env 0) (a1:Product):∀(n:Nat) (x32:Int) (res:Int⊕Unit),wA a1 n x32=some res->HL (kx E 110 0) (nd f76 8180) (JJ 2 (λo=>VT) (λv st=>RetQ Try.prog f76 (QY v) (QX v) .ret st) res) n (XA a1 x32):=by
 intro n
 induction n with
 |zero=>
  intro x32 res hm;cases hm
 |succ n ih=>
  intro x32 res hm;refine zE (s_va 1 [(100,vb (decide (x32<(a1.Prices.length:Int))))] ?_);refine q_sq (q_cq hm (λhm=>?_) (λhm=>?_))
  ·refine q_sk (q_sq ?_);refine q_bk 3 ?_;obtain⟨g34,hm⟩:=qU hm;refine s_vv [qi 0 g34] 1 [100] [(8,vi (a1.Prices.getD x32.toNat du))] (q_jn (EO a1 x32) (λp=>WM x32 (wA a1 n) p=some res) ?_ ?_)
   ·rintro x36 hm;refine q_cq hm (λhm=>?_) (λhm=>?_)
    ·refine s_vn [] 1 ⟨[(2,vi 9)],[]⟩ ?_;obtain rfl:=oi hm;refine q_rt (wT 9 ?_);exact q_rm
    ·refine q_sk (q_vv [] 1 [99,108] [(99,vi (w64 (x32+1)))] ?_);exact q_hl (XA a1 (w64 (x32+1))) (ih (w64 (x32+1)) _ hm)
   ·rcases bif_c hm with⟨b35,hm⟩|⟨b35,hm⟩
    ·exact q_vv [qf 2 b35] 1 [8] [(108,vb true)] (q_J (true) hm)
    ·exact q_vv [qf 2 b35] 1 [8] [(108,vb (decide ((a1.Prices.getD x32.toNat du)>1000000)))] (q_J (decide ((a1.Prices.getD x32.toNat du)>1000000)) hm)
  ·refine q_ex 2 ?_;obtain rfl:=oi hm;exact q_l1 ()
theorem IR (a1:Product) (r:Int) (hm:ZX a1=some r):CtX Try.prog globs 76 0 0 [.agg (qD a1)] [] (QY r) (QX r):=by
 unfold ZX at hm;refine q_E f76 110 λE=>?_;refine s_vn [] 0 ⟨[(1,vp 0 0)],[(0,bx 114 (qD a1))]⟩ (q_sq ?_);refine q_jn (ER a1) (λp=>jV a1 p=some r) ?_ ?_
 ·rintro x5 hm;refine q_cq hm (λhm=>?_) (λhm=>?_)
  ·refine s_vn [] 1 ⟨[(2,vi 9)],[]⟩ ?_;obtain rfl:=oi hm;exact q_rt q_rm
  ·refine q_sk (q_sq ?_);refine q_jn (EI a1) (λp=>jW a1 p=some r) ?_ ?_
   ·rintro x10 hm;refine q_cq hm (λhm=>?_) (λhm=>?_)
    ·refine s_vn [] 1 ⟨[(2,vi 9)],[]⟩ ?_;obtain rfl:=oi hm;exact q_rt q_rm
    ·refine q_sk (q_sq ?_);obtain⟨v12,h13,hm⟩:=qI hm;refine s_vv [qc 1 [48] 1 (FF a1 v12 h13)] 1 [46] [(4,vi v12.2)] (s_vv [] 1 [4] [(53,vb (decide (v12.2>600)))] ?_);refine q_cq hm (λhm=>?_) (λhm=>?_)
     ·refine s_vn [] 1 ⟨[(2,vi 9)],[]⟩ ?_;obtain rfl:=oi hm;exact q_rt q_rm
     ·refine q_sk (q_sq ?_);refine s_vv [] 1 [53] [(57,vb ((a1.Lengths.length:Int)==0))] (q_cq hm (λhm=>?_) (λhm=>?_))
      ·refine s_vn [] 1 ⟨[(2,vi 3)],[]⟩ ?_;obtain rfl:=oi hm;exact q_rt q_rm
      ·refine q_sk (q_sq ?_);refine s_vv [] 1 [57] [(61,vb (decide ((a1.Lengths.length:Int)>8)))] (q_cq hm (λhm=>?_) (λhm=>?_))
       ·refine s_vn [] 1 ⟨[(2,vi 4)],[]⟩ ?_;obtain rfl:=oi hm;exact q_rt q_rm
       ·refine q_sk (q_sq ?_);refine s_vv [] 1 [61] [(68,vb ((a1.Prices.length:Int) !=(a1.Lengths.length:Int)))] (q_cq hm (λhm=>?_) (λhm=>?_))
        ·refine s_vn [] 1 ⟨[(2,vi 19)],[]⟩ ?_;obtain rfl:=oi hm;exact q_rt q_rm
        ·refine q_sk (q_sq ?_);refine s_vv [] 1 [68] [(70,vc (tl qJ du a1.Lengths)),(71,vi (a1.Lengths.length:Int)),(72,vi 0)] ?_;obtain⟨u30,h29,hm⟩:=qI hm;refine yO (nd f76 4084) 0 (by kernel_rfl) FUEL (λo=>VQ a1) (λv st=>RetQ Try.prog f76 (QY v) (QX v) .ret st) u30 (q_hl (XC a1 0) (SN E a1 FUEL 0 u30 h29)) ?_ ?_
         ·rintro v31 rfl st hr;obtain rfl:=oi hm;exact hr
         ·rintro o28 rfl;replace hm:_=some r:=hm;refine q_sq (s_vn [] 1 ⟨[(97,vc (tl qJ du a1.Prices)),(98,vi (a1.Prices.length:Int)),(99,vi 0)],[]⟩ ?_);obtain⟨u40,h39,hm⟩:=qI hm;refine yO (nd f76 8180) 2 (by kernel_rfl) FUEL (λo=>VT) (λv st=>RetQ Try.prog f76 (QY v) (QX v) .ret st) u40 (q_hl (XA a1 0) (SK E a1 FUEL 0 u40 h39)) ?_ ?_
          ·rintro v41 rfl st hr;obtain rfl:=oi hm;exact hr
          ·rintro o38 rfl;replace hm:_=some r:=hm;refine s_vn [] 1 ⟨[(2,vi 0)],[]⟩ ?_;obtain rfl:=oi hm;exact q_rt q_rm
   ·rcases bif_c hm with⟨b7,hm⟩|⟨b7,hm⟩
    ·exact q_vv [qf 3 b7] 1 [28] [(46,vb true)] (q_J (true) hm)
    ·rcases bif_c hm with⟨b8,hm⟩|⟨b8,hm⟩
     ·exact q_vv [qf 3 b7,qf 8 b8] 1 [28] [(46,vb true)] (q_J (true) hm)
     ·rcases bif_c hm with⟨b9,hm⟩|⟨b9,hm⟩
      ·exact q_vv [qf 3 b7,qf 8 b8,qf 13 b9] 1 [28] [(46,vb true)] (q_J (true) hm)
      ·exact q_vv [qf 3 b7,qf 8 b8,qf 13 b9] 1 [28] [(46,vb (decide (a1.Wane>1000)))] (q_J (decide (a1.Wane>1000)) hm)
 ·rcases bif_c hm with⟨b2,hm⟩|⟨b2,hm⟩
  ·exact q_vv [qf 3 b2] 1 [] [(28,vb true)] (q_J (true) hm)
  ·rcases bif_c hm with⟨b3,hm⟩|⟨b3,hm⟩
   ·exact q_vv [qf 3 b2,qf 8 b3] 1 [] [(28,vb true)] (q_J (true) hm)
   ·rcases bif_c hm with⟨b4,hm⟩|⟨b4,hm⟩
    ·exact q_vv [qf 3 b2,qf 8 b3,qf 15 b4] 1 [] [(28,vb true)] (q_J (true) hm)
    ·exact q_vv [qf 3 b2,qf 8 b3,qf 15 b4] 1 [] [(28,vb (decide (a1.Width>600)))] (q_J (decide (a1.Width>600)) hm)
end Saw
end Go.SL

import Derived.Test.YtpommeghjpbepaaEBase
import Derived.Test.YtpommeghjpbepaaEFa2
import Derived.Test.YtpommeghjpbepaaEFa1
set_option linter.unusedVariables false
set_option linter.unusedSimpArgs false
namespace Go.SL
namespace Saw
open Go.Proofs Go.Proofs.Try
set_option maxHeartbeats 4000000
set_option maxRecDepth 100000
def PQ (r:Int×Bool):V:= .tup [.one (ci r.1),.one (cb r.2)]
def ZD (r:Int×Bool):List (Nat×(Nat×O)):=[]
theorem qBW (r:Int×Bool):GT (ZD r):=by
 intro i k o h;unfold ZD at h;cases h
def qAw (a1:qT) (a3:Int) (v14:Box) (x17:Int) (x24:Int):St:=
 ⟨[(2,vi a3),(8,vi x24),(10,vp 2 0),(45,vc (tl qE du a1.defects)),(46,vi (a1.defects.length:Int)),(47,vi x17)],[(2,bx 58 (WI v14))]⟩
def TJ (a1:qT) (a3:Int) (v14:Box) (x16:Int) (x17:Int):St:=
 ⟨[(2,vi a3),(8,vi x16),(10,vp 2 0),(45,vc (tl qE du a1.defects)),(46,vi (a1.defects.length:Int)),(47,vi x17)],[(2,bx 58 (WI v14))]⟩
def FR (x25:Int):St:=
 ⟨[(8,vi x25)],[]⟩
def qAB (a1:qT) (a2:Span) (a3:Int) (v7:Int×Bool) (x12:Bool):St:=
 ⟨[(2,vi a3),(3,vp 0 0),(4,vp 1 0),(8,vi v7.1),(40,vb x12)],[(0,bx 149 (GX a1)),(1,bx 26 (qP a2))]⟩
theorem CI (E:Env 0) (a1:qT) (a3:Int) (v14:Box):∀(n:Nat) (x16:Int) (x17:Int) (res:(Int×Bool)⊕Int),zO a1 a3 v14 n x16 x17=some res->HL (kx E 64 0) (nd f67 1012) (JW 0 FR (λv st=>RetQ Try.prog f67 (PQ v) (ZD v) .ret st) res) n (TJ a1 a3 v14 x16 x17):=by
 intro n
 induction n with
 |zero=>
  intro x16 x17 res hm;cases hm
 |succ n ih=>
  intro x16 x17 res hm;refine zE (s_va 3 [(48,vb (decide (x17<(a1.defects.length:Int))))] ?_);refine q_sq (q_cq hm (λhm=>?_) (λhm=>?_))
  ·refine q_sk (q_jn (qAw a1 a3 v14 x17) (λp=>KI x17 (zO a1 a3 v14 n) p=some res) ?_ ?_)
   ·rintro x24 hm;exact q_vv [] 4 [47] [(47,vi (w64 (x17+1)))] (q_hl (TJ a1 a3 v14 x24 (w64 (x17+1))) (ih x24 (w64 (x17+1)) _ hm))
   ·refine q_bk 1 ?_;obtain⟨g19,hm⟩:=qU hm;refine s_vu [qi 0 g19] 3 [48] [(12,vp 3 0)] [] [(3,bx 122 (qE (a1.defects.getD x17.toNat du)))] (q_sq ?_);obtain⟨v20,h21,hm⟩:=qI hm;refine s_vv [qc 2 [51,52] 4 (SX (a1.defects.getD x17.toNat du) v14 v20 h21)] 4 [] [(54,vb (!v20))] (q_cq hm (λhm=>?_) (λhm=>?_))
    ·exact q_ex 1 (q_J (x16) hm)
    ·refine q_sk (q_sq ?_);refine s_vu [] 4 [12,54] [(57,vb (((a1.defects.getD x17.toNat du).Kind)==3))] [3] [] (q_cq hm (λhm=>?_) (λhm=>?_))
     ·refine s_vn [] 4 ⟨[(6,vi 0),(7,vb false)],[]⟩ ?_;obtain rfl:=oi hm;refine q_rt (wO (0,false) ?_);exact q_rm
     ·refine q_sk (q_vv [] 4 [8,57] [(8,vi (w64 (x16-a3)))] ?_);exact q_J (w64 (x16-a3)) hm
  ·refine q_ex 0 ?_;obtain rfl:=oi hm;exact q_l1 x16
theorem qBP (a1:qT) (a2:Span) (a3:Int) (r:Int×Bool) (hm:WX a1 a2 a3=some r):CtX Try.prog globs 67 0 0 [.agg (GX a1),.agg (qP a2),.one (ci a3)] [] (PQ r) (ZD r):=by
 unfold WX at hm;refine q_E f67 64 λE=>?_;refine s_vn [] 0 ⟨[(2,vi a3),(3,vp 0 0),(4,vp 1 0)],[(0,bx 149 (GX a1)),(1,bx 26 (qP a2))]⟩ (q_sq ?_);obtain⟨v4,h5,hm⟩:=qI hm;refine s_vv [qc 3 [13,15] 2 (qDl a2 a1.length v4 h5)] 2 [] [(17,vb (!v4))] (q_cq hm (λhm=>?_) (λhm=>?_))
 ·refine s_vn [] 2 ⟨[(6,vi 0),(7,vb false)],[]⟩ ?_;obtain rfl:=oi hm;exact q_rt q_rm
 ·refine q_sk ?_;obtain⟨v7,h8,hm⟩:=qI hm;refine s_vv [qc 7 [20,25] 2 (qDP a1.product (w64 (a2.B-a2.A)) v7 h8)] 2 [17] [(8,vi v7.1),(9,vb v7.2)] (q_sq ?_);refine q_jn (qAB a1 a2 a3 v7) (λp=>KC a1 a2 a3 v7 p=some r) ?_ ?_
  ·rintro x12 hm;refine q_cq hm (λhm=>?_) (λhm=>?_)
   ·refine s_vn [] 2 ⟨[(6,vi 0),(7,vb false)],[]⟩ ?_;obtain rfl:=oi hm;exact q_rt q_rm
   ·refine q_sk ?_;obtain⟨v14,h15,hm⟩:=qI hm;refine s_vu [qc 2 [41,42] 2 (SV a1 a2 v14 h15)] 2 [4,40] [(10,vp 2 0)] [1] [(2,bx 58 (WI v14))] (q_sq ?_);refine s_vu [] 3 [3] [(45,vc (tl qE du a1.defects)),(46,vi (a1.defects.length:Int)),(47,vi 0)] [0] [] ?_;obtain⟨u28,h27,hm⟩:=qI hm;refine yX (nd f67 1012) 0 (by kernel_rfl) FUEL FR (λv st=>RetQ Try.prog f67 (PQ v) (ZD v) .ret st) u28 (q_hl (TJ a1 a3 v14 v7.1 0) (CI E a1 a3 v14 FUEL v7.1 0 u28 h27)) ?_ ?_
    ·rintro v29 rfl st hr;obtain rfl:=oi hm;exact hr
    ·rintro o26 rfl;replace hm:_=some r:=hm;refine s_vn [] 3 ⟨[(6,vi (imax o26 0)),(7,vb true)],[]⟩ ?_;obtain rfl:=oi hm;exact q_rt q_rm
  ·rcases bif_c hm with⟨b9,hm⟩|⟨b9,hm⟩
   ·exact q_du [qf 2 b9] [0,1,3,7,15,7,63,7,135,391,1023,2047] 2 [9] [(40,vb true)] [] [] (q_J (true) hm)
   ·obtain⟨v10,h11,hm⟩:=qI hm;exact q_du [qf 2 b9,qk 6 [31,33,34] 2 ⟨[(31,vb false),(33,vc (tl zB du a1.zones)),(34,va (qP a2))],[]⟩ (qGI a1.zones a2 v10 h11)] [0,1,3,7,15,7,63,7,135,391,1023,2047] 2 [9] [(40,vb (decide (v10>a1.product.Wane)))] [] [] (q_J (decide (v10>a1.product.Wane)) hm)
def qGk (r:Int):V:=vi r
def qGx (r:Int):List (Nat×(Nat×O)):=[]
theorem IV (a1:Int) (a2:Int) (r:Int) (hm:VZ a1 a2=some r):CtX Try.prog globs 98 0 0 [.one (ci a1),.one (ci a2)] [] (qGk r) (qGx r):=by
 unfold VZ at hm;refine q_E f98 11 λE=>?_;refine s_vn [] 0 ⟨[(0,vi a1),(1,vi a2)],[]⟩ (s_vn [qd 5 dN (show(1000:Int)≠0 by decide)] 0 ⟨[(4,vi (w64 (Int.tdiv (w64 ((w64 (a1*(w64 (1000+a2))))+999)) 1000)))],[]⟩ ?_);obtain rfl:=oi hm;exact q_rt q_rm
def qD8 (r:Bool):V:=vb r
def qEn (r:Bool):List (Nat×(Nat×O)):=[]
def qBH (x3:Bool):St:=
 ⟨[(2,vb x3)],[]⟩
theorem QJ (a1:Int) (r:Bool) (hm:XD a1=some r):CtX Try.prog globs 97 0 0 [.one (ci a1)] [] (qD8 r) (qEn r):=by
 unfold XD at hm;refine q_E f97 9 λE=>?_;refine s_vn [] 0 ⟨[(0,vi a1)],[]⟩ (q_jn (qBH) (λp=>RG p=some r) ?_ ?_)
 ·rintro x3 hm;obtain rfl:=oi hm;exact q_rt q_rm
 ·rcases bif_c hm with⟨b2,hm⟩|⟨b2,hm⟩
  ·exact q_vn [qf 2 b2] 0 ⟨[(2,vb (decide (a1<=600)))],[]⟩ (q_J (decide (a1<=600)) hm)
  ·exact q_vn [qf 2 b2] 0 ⟨[(2,vb false)],[]⟩ (q_J (false) hm)
open Go.Proofs Go.Proofs.Try
def qFg (r:Int×Int):V:= .tup [.one (ci r.1),.one (ci r.2)]
def qEO (r:Int×Int):List (Nat×(Nat×O)):=[]
def qB2 (a1:Product) (x9:Bool):St:=
 ⟨[(1,vp 0 0),(23,vb x9)],[(0,bx 114 (qD a1))]⟩
theorem FI (a1:Product) (r:Int×Int) (hm:YF a1=some r):CtX Try.prog globs 78 0 0 [.agg (qD a1)] [] (qFg r) (qEO r):=by
 unfold YF at hm;refine q_E f78 34 λE=>?_;refine s_vn [] 0 ⟨[(1,vp 0 0)],[(0,bx 114 (qD a1))]⟩ (q_sq ?_);refine q_jn (qB2 a1) (λp=>JC a1 p=some r) ?_ ?_
 ·rintro x9 hm;refine q_cq hm (λhm=>?_) (λhm=>?_)
  ·refine s_vn [] 1 ⟨[(2,vi 0),(3,vi 0)],[]⟩ ?_;obtain rfl:=oi hm;exact q_rt q_rm
  ·refine q_sk ?_;obtain⟨v11,h12,hm⟩:=qI hm;obtain⟨v13,h14,hm⟩:=qI hm;refine s_dn [qc 4 [25,27] 1 (IV a1.Thick a1.Allow v11 h12),qc 9 [30,32] 1 (IV a1.Width a1.Allow v13 h14)] [0,1,0,4,15,0,32,0,128,511,1023,2047] 1 ⟨[(2,vi v11),(3,vi v13)],[]⟩ ?_;obtain rfl:=oi hm;exact q_rt q_rm
 ·obtain⟨v2,h3,hm⟩:=qI hm;rcases bif_c hm with⟨b4,hm⟩|⟨b4,hm⟩
  ·exact q_vv [qc 2 [5] 1 (QJ a1.Thick v2 h3),qf 4 b4] 1 [] [(23,vb true)] (q_J (true) hm)
  ·obtain⟨v5,h6,hm⟩:=qI hm;rcases bif_c hm with⟨b7,hm⟩|⟨b7,hm⟩
   ·exact q_vv [qc 2 [5] 1 (QJ a1.Thick v2 h3),qf 4 b4,qk 7 [8,10] 1 ⟨[(8,vb false),(10,vi a1.Width)],[]⟩ (QJ a1.Width v5 h6),qf 10 b7] 1 [] [(23,vb true)] (q_J (true) hm)
   ·rcases bif_c hm with⟨b8,hm⟩|⟨b8,hm⟩
    ·exact q_vv [qc 2 [5] 1 (QJ a1.Thick v2 h3),qf 4 b4,qk 7 [8,10] 1 ⟨[(8,vb false),(10,vi a1.Width)],[]⟩ (QJ a1.Width v5 h6),qf 10 b7,qf 15 b8] 1 [] [(23,vb true)] (q_J (true) hm)
    ·exact q_vv [qc 2 [5] 1 (QJ a1.Thick v2 h3),qf 4 b4,qk 7 [8,10] 1 ⟨[(8,vb false),(10,vi a1.Width)],[]⟩ (QJ a1.Width v5 h6),qf 10 b7,qf 15 b8] 1 [] [(23,vb (decide (a1.Allow>200)))] (q_J (decide (a1.Allow>200)) hm)
def qGf (r:Int):V:=vi r
def qGF (r:Int):List (Nat×(Nat×O)):=[]
def BW (v2:(List qF)) (x4:Int) (x5:Int):St:=
 ⟨[(3,vi x4),(7,vc (tl qG du v2)),(8,vi (v2.length:Int)),(9,vi x5)],[]⟩
def SQ (x8:Int):St:=
 ⟨[(3,vi x8)],[]⟩
theorem qBZ (E:Env 0) (v2:(List qF)):∀(n:Nat) (x4:Int) (x5:Int) (res:Int),ZX v2 n x4 x5=some res->HL (kx E 19 0) (nd f37 116) (jL 0 SQ res) n (BW v2 x4 x5):=by
 intro n
 induction n with
 |zero=>
  intro x4 x5 res hm;cases hm
 |succ n ih=>
  intro x4 x5 res hm;refine zE (s_va 0 [(10,vb (decide (x5<(v2.length:Int))))] ?_);refine q_sq (q_cq hm (λhm=>?_) (λhm=>?_))
  ·refine q_sk (q_sq ?_);refine q_bk 1 ?_;obtain⟨g7,hm⟩:=qU hm;refine s_vu [qi 0 g7] 0 [10] [(5,vp 0 0)] [] [(0,bx 93 (qG (v2.getD x5.toNat du)))] (q_vu [] 1 [3,5] [(3,vi (w64 (x4+((v2.getD x5.toNat du).Len))))] [0] [] ?_);exact q_vv [] 1 [9] [(9,vi (w64 (x5+1)))] (q_hl (BW v2 (w64 (x4+((v2.getD x5.toNat du).Len))) (w64 (x5+1))) (ih (w64 (x4+((v2.getD x5.toNat du).Len))) (w64 (x5+1)) _ hm))
  ·refine q_ex 0 ?_;obtain rfl:=oi hm;exact q_l0
theorem OI (a1:List qF) (r:Int) (hm:TE a1=some r):CtX Try.prog globs 37 0 0 [.one (tl qG du a1)] [] (qGf r) (qGF r):=by
 unfold TE at hm;refine q_E f37 19 λE=>?_;refine s_vn [] 0 ⟨[(0,vc (tl qG du a1))],[]⟩ (s_va 0 [(3,vi 0)] ?_);refine q_sq ?_;obtain⟨v2,h3,hm⟩:=qI hm;refine s_vv [qc 1 [6] 0 (MY a1 v2 h3)] 0 [0] [(7,vc (tl qG du v2)),(8,vi (v2.length:Int)),(9,vi 0)] ?_;obtain⟨o9,h10,hm⟩:=qI hm;refine jG (nd f37 116) 0 (by kernel_rfl) FUEL SQ o9 (q_hl (BW v2 0 0) (qBZ E v2 FUEL 0 0 o9 h10)) (s_vn [] 0 ⟨[(2,vi o9)],[]⟩ ?_);obtain rfl:=oi hm;exact q_rt q_rm
def qHL (r:(List qR)):V:=vo 0 0 3 r.length
def qHQ (r:(List qR)):List (Nat×(Nat×O)):=[(0,ro 0 182 3 r.length (rf zB r))]
def FB (a1:List qF) (a2:Rect) (l3:List qR) (l3n:Nat) (x4:Int) (x5:Int):St:=
 ⟨[(3,vp 0 0),(5,vi (w64 ((w64 (a2.X.B-a2.X.A))*(w64 (a2.Y.B-a2.Y.A))))),(6,vo 1 0 3 l3n),(7,vi x4),(27,vc (tl qG du a1)),(28,vi (a1.length:Int)),(29,vi x5)],[(0,bx 28 (qK a2)),(1,ro 0 182 3 l3n (rf zB l3))]⟩
def AI (l12:List qR):St:=
 ⟨[(6,vo 1 0 3 l12.length)],[(1,ro 0 182 3 l12.length (rf zB l12))]⟩
theorem qDy (E:Env 0) (a1:List qF) (a2:Rect):∀(n:Nat) (l3:List qR) (l3n:Nat) (x4:Int) (x5:Int) (res:(List qR)),l3.length=l3n->XH a1 a2 n l3 x4 x5=some res->HL (kx E 61 0) (nd f85 500) (jL 0 AI res) n (FB a1 a2 l3 l3n x4 x5):=by
 intro n
 induction n with
 |zero=>
  intro l3 l3n x4 x5 res hl0 hm;cases hm
 |succ n ih=>
  intro l3 l3n x4 x5 res hl0 hm;subst hl0;refine zE (s_va 2 [(30,vb (decide (x5<(a1.length:Int))))] ?_);refine q_sq (q_cq hm (λhm=>?_) (λhm=>?_))
  ·refine q_sk (q_sq ?_);refine q_bk 1 ?_;obtain⟨g7,hm⟩:=qU hm;refine s_vu [qi 0 g7] 2 [30] [(9,vp 2 0)] [] [(2,bx 93 (qG (a1.getD x5.toNat du)))] ?_;obtain⟨v8,h9,hm⟩:=qI hm;refine s_vv [qc 4 [35,36] 3 (SK ((a1.getD x5.toNat du).Sec) a2 v8 h9)] 3 [] [(10,vi (w64 ((w64 ((w64 (a2.X.B-a2.X.A))*(w64 (a2.Y.B-a2.Y.A))))-v8)))] (s_vu [] 3 [7,9] [(11,vp 3 0)] [2] [(3,bx 26 [ci x4,ci (w64 (x4+((a1.getD x5.toNat du).Len)))])] ?_);obtain⟨g10,hm⟩:=qU hm;obtain⟨g11,hm⟩:=qU hm
   refine s_du [qd 8 dN (nz_of g10),qd 10 (drw 4 0 (rf zB [(qR.mk (Span.mk x4 (w64 (x4+((a1.getD x5.toNat du).Len)))) (w64 (Int.tdiv (w64 ((w64 ((w64 (1000*(w64 ((w64 ((w64 (a2.X.B-a2.X.A))*(w64 (a2.Y.B-a2.Y.A))))-v8))))+(w64 ((w64 (a2.X.B-a2.X.A))*(w64 (a2.Y.B-a2.Y.A))))))-1)) (w64 ((w64 (a2.X.B-a2.X.A))*(w64 (a2.Y.B-a2.Y.A)))))))])) (litP zB du 3 (λ_=>rfl) ([(qR.mk (Span.mk x4 (w64 (x4+((a1.getD x5.toNat du).Len)))) (w64 (Int.tdiv (w64 ((w64 ((w64 (1000*(w64 ((w64 ((w64 (a2.X.B-a2.X.A))*(w64 (a2.Y.B-a2.Y.A))))-v8))))+(w64 ((w64 (a2.X.B-a2.X.A))*(w64 (a2.Y.B-a2.Y.A))))))-1)) (w64 ((w64 (a2.X.B-a2.X.A))*(w64 (a2.Y.B-a2.Y.A)))))))]:List qR) 1 rfl),qd 11 (drw 1 1 (rf zB (l3++[(qR.mk (Span.mk x4 (w64 (x4+((a1.getD x5.toNat du).Len)))) (w64 (Int.tdiv (w64 ((w64 ((w64 (1000*(w64 ((w64 ((w64 (a2.X.B-a2.X.A))*(w64 (a2.Y.B-a2.Y.A))))-v8))))+(w64 ((w64 (a2.X.B-a2.X.A))*(w64 (a2.Y.B-a2.Y.A))))))-1)) (w64 ((w64 (a2.X.B-a2.X.A))*(w64 (a2.Y.B-a2.Y.A)))))))]))) (apP zB du l3 ([(qR.mk (Span.mk x4 (w64 (x4+((a1.getD x5.toNat du).Len)))) (w64 (Int.tdiv (w64 ((w64 ((w64 (1000*(w64 ((w64 ((w64 (a2.X.B-a2.X.A))*(w64 (a2.Y.B-a2.Y.A))))-v8))))+(w64 ((w64 (a2.X.B-a2.X.A))*(w64 (a2.Y.B-a2.Y.A))))))-1)) (w64 ((w64 (a2.X.B-a2.X.A))*(w64 (a2.Y.B-a2.Y.A)))))))]:List qR) l3.length 1 3 24 (1<=1) (ko _) rfl rfl (λ_=>rfl) (QC g11))] [0,0,0,4,0,28,60,0,252,510,1022,2047,4095] 4 [6,10] [(6,vo 1 1 3 (l3.length+1))] [1] [(1,ro 1 182 3 (l3.length+1) (rf zB (l3++[(qR.mk (Span.mk x4 (w64 (x4+((a1.getD x5.toNat du).Len)))) (w64 (Int.tdiv (w64 ((w64 ((w64 (1000*(w64 ((w64 ((w64 (a2.X.B-a2.X.A))*(w64 (a2.Y.B-a2.Y.A))))-v8))))+(w64 ((w64 (a2.X.B-a2.X.A))*(w64 (a2.Y.B-a2.Y.A))))))-1)) (w64 ((w64 (a2.X.B-a2.X.A))*(w64 (a2.Y.B-a2.Y.A)))))))])))] ?_
   refine q_vu [] 5 [11] [(7,vi (w64 (x4+((a1.getD x5.toNat du).Len))))] [3] [] (q_vv [] 5 [29] [(29,vi (w64 (x5+1)))] ?_)
   exact q_hl (FB a1 a2 (l3++[(qR.mk (Span.mk x4 (w64 (x4+((a1.getD x5.toNat du).Len)))) (w64 (Int.tdiv (w64 ((w64 ((w64 (1000*(w64 ((w64 ((w64 (a2.X.B-a2.X.A))*(w64 (a2.Y.B-a2.Y.A))))-v8))))+(w64 ((w64 (a2.X.B-a2.X.A))*(w64 (a2.Y.B-a2.Y.A))))))-1)) (w64 ((w64 (a2.X.B-a2.X.A))*(w64 (a2.Y.B-a2.Y.A)))))))]) (l3.length+1) (w64 (x4+((a1.getD x5.toNat du).Len))) (w64 (x5+1))) (ih (l3++[(qR.mk (Span.mk x4 (w64 (x4+((a1.getD x5.toNat du).Len)))) (w64 (Int.tdiv (w64 ((w64 ((w64 (1000*(w64 ((w64 ((w64 (a2.X.B-a2.X.A))*(w64 (a2.Y.B-a2.Y.A))))-v8))))+(w64 ((w64 (a2.X.B-a2.X.A))*(w64 (a2.Y.B-a2.Y.A))))))-1)) (w64 ((w64 (a2.X.B-a2.X.A))*(w64 (a2.Y.B-a2.Y.A)))))))]) (l3.length+1) (w64 (x4+((a1.getD x5.toNat du).Len))) (w64 (x5+1)) _ (yM rfl rfl) hm)
  ·refine q_ex 0 ?_;obtain rfl:=oi hm;exact q_l0
theorem qGy (a1:List qF) (a2:Rect) (r:(List qR)) (hm:NH a1 a2=some r):CtX Try.prog globs 85 0 0 [.one (tl qG du a1),.agg (qK a2)] [] (qHL r) (qHQ r):=by
 unfold NH at hm;refine q_E f85 61 λE=>?_;refine s_vn [] 0 ⟨[(0,vc (tl qG du a1)),(3,vp 0 0)],[(0,bx 28 (qK a2))]⟩ (s_va 1 [(5,vi (w64 ((w64 (a2.X.B-a2.X.A))*(w64 (a2.Y.B-a2.Y.A)))))] ?_);refine s_va 1 [(6,vc (.emp))] (s_va 1 [(7,vi 0)] ?_);refine q_sq (s_vv [] 1 [0] [(27,vc (tl qG du a1)),(28,vi (a1.length:Int)),(29,vi 0)] ?_);refine q_fo 6 1 182 3 zB ?_;obtain⟨o13,h14,hm⟩:=qI hm;refine jG (nd f85 500) 0 (by kernel_rfl) FUEL AI o13 (q_hl (FB a1 a2 ([]:List qR) 0 0 0) (qDy E a1 a2 FUEL ([]:List qR) 0 0 0 o13 rfl h14)) (s_vv [] 2 [6] [(4,vo 1 0 3 o13.length)] ?_);obtain rfl:=oi hm
 exact q_sw 1 0 (q_rt q_rm)
open Go.Proofs Go.Proofs.Try
def qFG (r:Bool):V:=vb r
def qFM (r:Bool):List (Nat×(Nat×O)):=[]
def qCJ (x5:Bool):St:=
 ⟨[(6,vb x5)],[]⟩
theorem WT (a1:Span) (a2:Int) (a3:Int) (r:Bool) (hm:YJ a1 a2 a3=some r):CtX Try.prog globs 94 0 0 [.agg (qP a1),.one (ci a2),.one (ci a3)] [] (qFG r) (qFM r):=by
 unfold YJ at hm;refine q_E f94 23 λE=>?_;refine s_vn [] 0 ⟨[(1,vi a2),(2,vi a3),(3,vp 0 0)],[(0,bx 26 (qP a1))]⟩ (q_jn (qCJ) (λp=>UC p=some r) ?_ ?_)
 ·rintro x5 hm;obtain rfl:=oi hm;exact q_rt q_rm
 ·rcases bif_c hm with⟨b4,hm⟩|⟨b4,hm⟩
  ·exact q_vn [qf 7 b4] 1 ⟨[(6,vb (decide ((imax a1.A a1.B)<=a3)))],[]⟩ (q_J (decide ((imax a1.A a1.B)<=a3)) hm)
  ·exact q_vn [qf 7 b4] 1 ⟨[(6,vb false)],[]⟩ (q_J (false) hm)
def qGB (r:Int):V:=vi r
def qGc (r:Int):List (Nat×(Nat×O)):=[]
def qDg (x23:Bool):St:=
 ⟨[(29,vb x23)],[]⟩
def qDt (a1:qH) (x13:Bool):St:=
 ⟨[(3,vp 1 0),(15,vb x13)],[(1,bx 58 (WI a1.Box))]⟩
def qDv (a1:qH) (x3:Bool):St:=
 ⟨[(3,vp 1 0),(6,vb x3)],[(1,bx 58 (WI a1.Box))]⟩
theorem qEW (a1:qH) (r:Int) (hm:DB a1=some r):CtX Try.prog globs 73 0 0 [.agg (qE a1)] [] (qGB r) (qGc r):=by
 unfold DB at hm;refine q_E f73 46 λE=>?_;refine s_vn [] 0 ⟨[(1,vp 0 0)],[(0,bx 122 (qE a1))]⟩ (s_vu [] 1 [] [(3,vp 1 0)] [] [(1,bx 58 (WI a1.Box))] ?_);refine q_sq (q_bk 0 ?_);refine q_jn (qDv a1) (λp=>VM a1 p=some r) ?_ ?_
 ·rintro x3 hm;refine q_cq hm (λhm=>?_) (λhm=>?_)
  ·refine s_vn [] 2 ⟨[(2,vi 10)],[]⟩ ?_;obtain rfl:=oi hm;exact q_rt q_rm
  ·refine q_jn (qDt a1) (λp=>PB a1 p=some r) ?_ ?_
   ·rintro x13 hm;refine q_cq hm (λhm=>?_) (λhm=>?_)
    ·refine s_vn [] 2 ⟨[(2,vi 19)],[]⟩ ?_;obtain rfl:=oi hm;exact q_rt q_rm
    ·refine q_jn (qDg) (λp=>PJ p=some r) ?_ ?_
     ·rintro x23 hm;refine q_cq hm (λhm=>?_) (λhm=>?_)
      ·refine s_vn [] 2 ⟨[(2,vi 9)],[]⟩ ?_;obtain rfl:=oi hm;exact q_rt q_rm
      ·refine q_sk (s_vn [] 2 ⟨[(2,vi 0)],[]⟩ ?_);obtain rfl:=oi hm;exact q_rt q_rm
     ·obtain⟨v15,h16,hm⟩:=qI hm;rcases bif_c hm with⟨b17,hm⟩|⟨b17,hm⟩
      ·exact q_vn [qk 2 [31] 2 ⟨[(31,va (qP a1.Box.X))],[]⟩ (WT a1.Box.X (-600) 600 v15 h16),qf 4 b17] 2 ⟨[(29,vb true)],[]⟩ (q_J (true) hm)
      ·obtain⟨v18,h19,hm⟩:=qI hm;rcases bif_c hm with⟨b20,hm⟩|⟨b20,hm⟩
       ·exact q_vn [qk 2 [31] 2 ⟨[(31,va (qP a1.Box.X))],[]⟩ (WT a1.Box.X (-600) 600 v15 h16),qf 4 b17,qk 7 [34,36] 2 ⟨[(34,vb false),(36,va (qP a1.Box.Y))],[]⟩ (WT a1.Box.Y (-600) 600 v18 h19),qf 10 b20] 2 ⟨[(29,vb true)],[]⟩ (q_J (true) hm)
       ·obtain⟨v21,h22,hm⟩:=qI hm;exact q_vn [qk 2 [31] 2 ⟨[(31,va (qP a1.Box.X))],[]⟩ (WT a1.Box.X (-600) 600 v15 h16),qf 4 b17,qk 7 [34,36] 2 ⟨[(34,vb false),(36,va (qP a1.Box.Y))],[]⟩ (WT a1.Box.Y (-600) 600 v18 h19),qf 10 b20,qk 13 [40,42] 2 ⟨[(40,vb false),(42,va (qP a1.Box.Z))],[]⟩ (WT a1.Box.Z 0 20000 v21 h22)] 2 ⟨[(29,vb (!v21))],[]⟩ (q_J (!v21) hm)
   ·obtain⟨v5,h6,hm⟩:=qI hm;rcases bif_c hm with⟨b7,hm⟩|⟨b7,hm⟩
    ·exact q_vv [qc 2 [17] 2 (zW a1.Box.X v5 h6),qf 3 b7] 2 [6] [(15,vb true)] (q_J (true) hm)
    ·obtain⟨v8,h9,hm⟩:=qI hm;rcases bif_c hm with⟨b10,hm⟩|⟨b10,hm⟩
     ·exact q_vv [qc 2 [17] 2 (zW a1.Box.X v5 h6),qf 3 b7,qk 6 [19,21] 2 ⟨[(19,vb false),(21,va (qP a1.Box.Y))],[]⟩ (zW a1.Box.Y v8 h9),qf 8 b10] 2 [6] [(15,vb true)] (q_J (true) hm)
     ·obtain⟨v11,h12,hm⟩:=qI hm;exact q_vv [qc 2 [17] 2 (zW a1.Box.X v5 h6),qf 3 b7,qk 6 [19,21] 2 ⟨[(19,vb false),(21,va (qP a1.Box.Y))],[]⟩ (zW a1.Box.Y v8 h9),qf 8 b10,qk 11 [24,26] 2 ⟨[(24,vb false),(26,va (qP a1.Box.Z))],[]⟩ (zW a1.Box.Z v11 h12)] 2 [6] [(15,vb v11)] (q_J (v11) hm)
 ·rcases bif_c hm with⟨b2,hm⟩|⟨b2,hm⟩
  ·exact q_vu [qf 3 b2] 2 [1] [(6,vb true)] [0] [] (q_J (true) hm)
  ·exact q_vu [qf 3 b2] 2 [1] [(6,vb (decide (a1.Kind>6)))] [0] [] (q_J (decide (a1.Kind>6)) hm)
def MD (r:Int):V:=vi r
def MR (r:Int):List (Nat×(Nat×O)):=[]
def BU (a1:List qH) (x3:Int):St:=
 ⟨[(9,vc (tl qE du a1)),(10,vi (a1.length:Int)),(11,vi x3)],[]⟩
def SM :St:=
 ⟨[],[]⟩
theorem qCi (E:Env 0) (a1:List qH):∀(n:Nat) (x3:Int) (res:Int⊕Unit),ZT a1 n x3=some res->HL (kx E 21 0) (nd f54 116) (JW 0 (λo=>SM) (λv st=>RetQ Try.prog f54 (MD v) (MR v) .ret st) res) n (BU a1 x3):=by
 intro n
 induction n with
 |zero=>
  intro x3 res hm;cases hm
 |succ n ih=>
  intro x3 res hm;refine zE (s_va 0 [(12,vb (decide (x3<(a1.length:Int))))] ?_);refine q_sq (q_cq hm (λhm=>?_) (λhm=>?_))
  ·refine q_sk (q_sq ?_);refine q_bk 1 ?_;obtain⟨g5,hm⟩:=qU hm;refine s_vu [qi 0 g5] 0 [12] [(4,vp 0 0)] [] [(0,bx 122 (qE (a1.getD x3.toNat du)))] ?_;obtain⟨v6,h7,hm⟩:=qI hm;refine s_vu [qc 1 [15] 1 (qEW (a1.getD x3.toNat du) v6 h7)] 1 [4] [(5,vi v6)] [0] [] (s_va 1 [(18,vb (v6 !=0))] ?_);refine q_cq hm (λhm=>?_) (λhm=>?_)
   ·refine s_vn [] 1 ⟨[(2,vi v6)],[]⟩ ?_;obtain rfl:=oi hm;refine q_rt (wO v6 ?_);exact q_rm
   ·refine q_sk (q_vv [] 1 [5,11,18] [(11,vi (w64 (x3+1)))] ?_);exact q_hl (BU a1 (w64 (x3+1))) (ih (w64 (x3+1)) _ hm)
  ·refine q_ex 0 ?_;obtain rfl:=oi hm;exact q_l1 ()
theorem VC (a1:List qH) (r:Int) (hm:XP a1=some r):CtX Try.prog globs 54 0 0 [.one (tl qE du a1)] [] (MD r) (MR r):=by
 unfold XP at hm;refine q_E f54 21 λE=>?_;refine s_vn [] 0 ⟨[(0,vc (tl qE du a1))],[]⟩ (q_sq ?_);refine s_va 0 [(8,vb (decide ((a1.length:Int)>64)))] (q_cq hm (λhm=>?_) (λhm=>?_))
 ·refine s_vn [] 0 ⟨[(2,vi 4)],[]⟩ ?_;obtain rfl:=oi hm;exact q_rt q_rm
 ·refine q_sk (q_sq ?_);refine s_vn [] 0 ⟨[(9,vc (tl qE du a1)),(10,vi (a1.length:Int)),(11,vi 0)],[]⟩ ?_;obtain⟨u11,h10,hm⟩:=qI hm;refine yX (nd f54 116) 0 (by kernel_rfl) FUEL (λo=>SM) (λv st=>RetQ Try.prog f54 (MD v) (MR v) .ret st) u11 (q_hl (BU a1 0) (qCi E a1 FUEL 0 u11 h10)) ?_ ?_
  ·rintro v12 rfl st hr;obtain rfl:=oi hm;exact hr
  ·rintro o9 rfl;replace hm:_=some r:=hm;refine s_vn [] 0 ⟨[(2,vi 0)],[]⟩ ?_;obtain rfl:=oi hm;exact q_rt q_rm
open Go.Proofs Go.Proofs.Try
def qE0 (r:Bool):V:=vb r
def qFN (r:Bool):List (Nat×(Nat×O)):=[]
def qBU (x3:Bool):St:=
 ⟨[(2,vb x3)],[]⟩
theorem UF (a1:Int) (r:Bool) (hm:KV a1=some r):CtX Try.prog globs 95 0 0 [.one (.val (.int .u8 a1))] [] (qE0 r) (qFN r):=by
 unfold KV at hm;refine q_E f95 9 λE=>?_;refine s_vn [] 0 ⟨[(0,vc (.val (.int .u8 a1)))],[]⟩ (q_jn (qBU) (λp=>UI p=some r) ?_ ?_)
 ·rintro x3 hm;obtain rfl:=oi hm;exact q_rt q_rm
 ·rcases bif_c hm with⟨b2,hm⟩|⟨b2,hm⟩
  ·exact q_vn [qf 2 b2] 0 ⟨[(2,vb (decide (a1<=122)))],[]⟩ (q_J (decide (a1<=122)) hm)
  ·exact q_vn [qf 2 b2] 0 ⟨[(2,vb false)],[]⟩ (q_J (false) hm)
def qFw (r:Bool):V:=vb r
def qFK (r:Bool):List (Nat×(Nat×O)):=[]
def qCT (x3:Bool):St:=
 ⟨[(2,vb x3)],[]⟩
theorem EY (a1:Int) (r:Bool) (hm:UQ a1=some r):CtX Try.prog globs 96 0 0 [.one (.val (.int .u8 a1))] [] (qFw r) (qFK r):=by
 unfold UQ at hm;refine q_E f96 9 λE=>?_;refine s_vn [] 0 ⟨[(0,vc (.val (.int .u8 a1)))],[]⟩ (q_jn (qCT) (λp=>TU p=some r) ?_ ?_)
 ·rintro x3 hm;obtain rfl:=oi hm;exact q_rt q_rm
 ·rcases bif_c hm with⟨b2,hm⟩|⟨b2,hm⟩
  ·exact q_vn [qf 2 b2] 0 ⟨[(2,vb (decide (a1<=57)))],[]⟩ (q_J (decide (a1<=57)) hm)
  ·exact q_vn [qf 2 b2] 0 ⟨[(2,vb false)],[]⟩ (q_J (false) hm)
def MM (r:Bool):V:=vb r
def ME (r:Bool):List (Nat×(Nat×O)):=[]
def qDq (a1:ByteArray) (x9:Int) (x18:Bool):St:=
 ⟨[(0,vc (cs a1)),(3,vi x9),(39,vb x18)],[]⟩
def NG (a1:ByteArray) (x9:Int):St:=
 ⟨[(0,vc (cs a1)),(3,vi x9)],[]⟩
def SU :St:=
 ⟨[],[]⟩
def qDk (a1:ByteArray) (x7:Bool):St:=
 ⟨[(0,vc (cs a1)),(18,vb x7)],[]⟩
theorem qCu (E:Env 0) (a1:ByteArray):∀(n:Nat) (x9:Int) (res:Bool⊕Unit),jK a1 n x9=some res->HL (kx E 40 0) (nd f74 116) (JW 0 (λo=>SU) (λv st=>RetQ Try.prog f74 (MM v) (ME v) .ret st) res) n (NG a1 x9):=by
 intro n
 induction n with
 |zero=>
  intro x9 res hm;cases hm
 |succ n ih=>
  intro x9 res hm;refine zE (q_sq ?_);refine s_va 0 [(22,vb (decide (x9<(a1.size:Int))))] (q_cq hm (λhm=>?_) (λhm=>?_))
  ·refine q_sk (q_sq ?_);refine q_bk 1 ?_;obtain⟨g11,hm⟩:=qU hm;refine s_vv [qi 2 g11] 0 [22] [(4,vc (.val (.int .u8 (strAt a1 x9.toNat))))] (q_jn (qDq a1 x9) (λp=>PL x9 (jK a1 n) p=some res) ?_ ?_)
   ·rintro x18 hm;refine q_cq hm (λhm=>?_) (λhm=>?_)
    ·refine s_vn [] 0 ⟨[(2,vb false)],[]⟩ ?_;obtain rfl:=oi hm;refine q_rt (wO false ?_);exact q_rm
    ·refine q_sk (q_vv [] 0 [3,39] [(3,vi (w64 (x9+1)))] ?_);exact q_hl (NG a1 (w64 (x9+1))) (ih (w64 (x9+1)) _ hm)
   ·obtain⟨v12,h13,hm⟩:=qI hm;rcases bif_c hm with⟨b14,hm⟩|⟨b14,hm⟩
    ·obtain⟨v15,h16,hm⟩:=qI hm;rcases bif_c hm with⟨b17,hm⟩|⟨b17,hm⟩
     ·exact q_vv [qc 1 [28] 0 (UF (strAt a1 x9.toNat) v12 h13),qf 3 b14,qk 5 [31,32] 0 ⟨[(31,vb true),(32,vc (.val (.int .u8 (strAt a1 x9.toNat))))],[]⟩ (EY (strAt a1 x9.toNat) v15 h16),qf 8 b17] 0 [4] [(39,vb ((strAt a1 x9.toNat) !=95))] (q_J ((strAt a1 x9.toNat) !=95) hm)
     ·exact q_vv [qc 1 [28] 0 (UF (strAt a1 x9.toNat) v12 h13),qf 3 b14,qk 5 [31,32] 0 ⟨[(31,vb true),(32,vc (.val (.int .u8 (strAt a1 x9.toNat))))],[]⟩ (EY (strAt a1 x9.toNat) v15 h16),qf 8 b17] 0 [4] [(39,vb false)] (q_J (false) hm)
    ·exact q_vv [qc 1 [28] 0 (UF (strAt a1 x9.toNat) v12 h13),qf 3 b14] 0 [4] [(39,vb false)] (q_J (false) hm)
  ·refine q_ex 0 ?_;obtain rfl:=oi hm;exact q_l1 ()
theorem qER (a1:ByteArray) (r:Bool) (hm:DL a1=some r):CtX Try.prog globs 74 0 0 [.one (cs a1)] [] (MM r) (ME r):=by
 unfold DL at hm;refine q_E f74 40 λE=>?_;refine s_vn [] 0 ⟨[(0,vc (cs a1))],[]⟩ (q_sq ?_);refine q_jn (qDk a1) (λp=>PE a1 p=some r) ?_ ?_
 ·rintro x7 hm;refine q_cq hm (λhm=>?_) (λhm=>?_)
  ·refine s_vn [] 0 ⟨[(2,vb false)],[]⟩ ?_;obtain rfl:=oi hm;exact q_rt q_rm
  ·refine q_sk (q_sq ?_);refine s_vv [] 0 [18] [(3,vi 1)] ?_;obtain⟨u22,h21,hm⟩:=qI hm;refine yX (nd f74 116) 0 (by kernel_rfl) FUEL (λo=>SU) (λv st=>RetQ Try.prog f74 (MM v) (ME v) .ret st) u22 (q_hl (NG a1 1) (qCu E a1 FUEL 1 u22 h21)) ?_ ?_
   ·rintro v23 rfl st hr;obtain rfl:=oi hm;exact hr
   ·rintro o20 rfl;replace hm:_=some r:=hm;refine s_vn [] 0 ⟨[(2,vb true)],[]⟩ ?_;obtain rfl:=oi hm;exact q_rt q_rm
 ·rcases bif_c hm with⟨b2,hm⟩|⟨b2,hm⟩
  ·exact q_vv [qf 3 b2] 0 [] [(18,vb true)] (q_J (true) hm)
  ·rcases bif_c hm with⟨b3,hm⟩|⟨b3,hm⟩
   ·exact q_vv [qf 3 b2,qf 8 b3] 0 [] [(18,vb true)] (q_J (true) hm)
   ·obtain⟨g4,hm⟩:=qU hm;obtain⟨v5,h6,hm⟩:=qI hm;exact q_vv [qf 3 b2,qf 8 b3,qi 10 g4,qk 11 [13,15] 0 ⟨[(13,vb false),(15,vc (.val (.int .u8 (strAt a1 ((0:Int).toNat)))))],[]⟩ (UF (strAt a1 ((0:Int).toNat)) v5 h6)] 0 [] [(18,vb (!v5))] (q_J (!v5) hm)
open Go.Proofs Go.Proofs.Try
def ML (r:Int×Bool):V:= .tup [.one (ci r.1),.one (cb r.2)]
def MP (r:Int×Bool):List (Nat×(Nat×O)):=[]
def NC (a1:List Product) (a2:ByteArray) (x3:Int):St:=
 ⟨[(1,vc (cs a2)),(8,vc (tl qD du a1)),(9,vi (a1.length:Int)),(10,vi x3)],[]⟩
def SS :St:=
 ⟨[],[]⟩
theorem qCC (E:Env 0) (a1:List Product) (a2:ByteArray):∀(n:Nat) (x3:Int) (res:(Int×Bool)⊕Unit),ZR a1 a2 n x3=some res->HL (kx E 21 0) (nd f75 52) (JW 0 (λo=>SS) (λv st=>RetQ Try.prog f75 (ML v) (MP v) .ret st) res) n (NC a1 a2 x3):=by
 intro n
 induction n with
 |zero=>
  intro x3 res hm;cases hm
 |succ n ih=>
  intro x3 res hm;refine zE (s_va 0 [(11,vb (decide (x3<(a1.length:Int))))] ?_);refine q_sq (q_cq hm (λhm=>?_) (λhm=>?_))
  ·refine q_sk (q_sq ?_);refine q_bk 1 ?_;obtain⟨g5,hm⟩:=qU hm;refine s_vu [qi 1 g5] 0 [11] [(6,vi x3),(7,vp 0 0)] [] [(0,bx 114 (qD (a1.getD x3.toNat du)))] (s_vu [] 1 [7] [(18,vb (strEq ((a1.getD x3.toNat du).Name) a2))] [0] [] ?_);refine q_cq hm (λhm=>?_) (λhm=>?_)
   ·refine s_vn [] 1 ⟨[(4,vi x3),(5,vb true)],[]⟩ ?_;obtain rfl:=oi hm;refine q_rt (wO (x3,true) ?_);exact q_rm
   ·refine q_sk (q_vv [] 1 [6,10,18] [(10,vi (w64 (x3+1)))] ?_);exact q_hl (NC a1 a2 (w64 (x3+1))) (ih (w64 (x3+1)) _ hm)
  ·refine q_ex 0 ?_;obtain rfl:=oi hm;exact q_l1 ()
theorem qEK (a1:List Product) (a2:ByteArray) (r:Int×Bool) (hm:GO a1 a2=some r):CtX Try.prog globs 75 0 0 [.one (tl qD du a1),.one (cs a2)] [] (ML r) (MP r):=by
 unfold GO at hm;refine q_E f75 21 λE=>?_;refine s_vn [] 0 ⟨[(0,vc (tl qD du a1)),(1,vc (cs a2))],[]⟩ (q_sq ?_);refine s_vv [] 0 [0] [(8,vc (tl qD du a1)),(9,vi (a1.length:Int)),(10,vi 0)] ?_;obtain⟨u9,h8,hm⟩:=qI hm;refine yX (nd f75 52) 0 (by kernel_rfl) FUEL (λo=>SS) (λv st=>RetQ Try.prog f75 (ML v) (MP v) .ret st) u9 (q_hl (NC a1 a2 0) (qCC E a1 a2 FUEL 0 u9 h8)) ?_ ?_
 ·rintro v10 rfl st hr;obtain rfl:=oi hm;exact hr
 ·rintro o7 rfl;replace hm:_=some r:=hm;refine s_vn [] 0 ⟨[(4,vi 0),(5,vb false)],[]⟩ ?_;obtain rfl:=oi hm;exact q_rt q_rm
def QR (r:Int):V:=vi r
def QO (r:Int):List (Nat×(Nat×O)):=[]
def JN (a1:Product) (x18:Int):St:=
 ⟨[(1,vp 0 0),(70,vc (tl qJ du a1.Lengths)),(71,vi (a1.Lengths.length:Int)),(72,vi x18)],[(0,bx 114 (qD a1))]⟩
def SZ (a1:Product) (x18:Int) (x26:Bool):St:=
 (JN a1 x18).up [] [(94,vb x26)] [] []
def EF (a1:Product) (x18:Int) (x22:Bool):St:=
 (JN a1 x18).up [] [(5,vi x18),(6,vi (a1.Lengths.getD x18.toNat du)),(82,vb x22)] [] []
def YX (a1:Product) (x18:Int):St:=
 (JN a1 x18).up [] [] [] []
def VL (a1:Product):St:=
 ⟨[(1,vp 0 0)],[(0,bx 114 (qD a1))]⟩
def EJ (a1:Product) (x32:Int) (x36:Bool):St:=
 ⟨[(97,vc (tl qJ du a1.Prices)),(98,vi (a1.Prices.length:Int)),(99,vi x32),(108,vb x36)],[]⟩
def YT (a1:Product) (x32:Int):St:=
 ⟨[(97,vc (tl qJ du a1.Prices)),(98,vi (a1.Prices.length:Int)),(99,vi x32)],[]⟩
def VI :St:=
 ⟨[],[]⟩
def ED (a1:Product) (x10:Bool):St:=
 ⟨[(1,vp 0 0),(46,vb x10)],[(0,bx 114 (qD a1))]⟩
def EM (a1:Product) (x5:Bool):St:=
 ⟨[(1,vp 0 0),(28,vb x5)],[(0,bx 114 (qD a1))]⟩
theorem SD (E:Env 0) (a1:Product):∀(n:Nat) (x18:Int) (res:Int⊕Unit),zM a1 n x18=some res->HL (kx E 110 0) (nd f76 4084) (JW 0 (λo=>VL a1) (λv st=>RetQ Try.prog f76 (QR v) (QO v) .ret st) res) n (YX a1 x18):=by
 intro n
 induction n with
 |zero=>
  intro x18 res hm;cases hm
 |succ n ih=>
  intro x18 res hm;refine zE (s_va 1 [(73,vb (decide (x18<(a1.Lengths.length:Int))))] ?_);refine q_sq (q_cq hm (λhm=>?_) (λhm=>?_))
  ·refine q_sk (q_sq ?_);refine q_bk 1 ?_;obtain⟨g20,hm⟩:=qU hm;refine s_vv [qi 1 g20] 1 [73] [(5,vi x18),(6,vi (a1.Lengths.getD x18.toNat du))] (q_sq ?_);refine q_jn (EF a1 x18) (λp=>WL a1 x18 (zM a1 n) p=some res) ?_ ?_
   ·rintro x22 hm;refine q_cq hm (λhm=>?_) (λhm=>?_)
    ·refine s_vn [] 1 ⟨[(2,vi 9)],[]⟩ ?_;obtain rfl:=oi hm;refine q_rt (wO 9 ?_);exact q_rm
    ·refine q_sk (q_jn (SZ a1 x18) (λp=>WK x18 (zM a1 n) p=some res) ?_ ?_)
     ·rintro x26 hm;refine q_cq hm (λhm=>?_) (λhm=>?_)
      ·refine s_vn [] 1 ⟨[(2,vi 11)],[]⟩ ?_;obtain rfl:=oi hm;refine q_rt (wO 11 ?_);exact q_rm
      ·refine q_sk (q_vv [] 1 [72,94] [(72,vi (w64 (x18+1)))] ?_);exact q_hl (YX a1 (w64 (x18+1))) (ih (w64 (x18+1)) _ hm)
     ·rcases bif_c hm with⟨b24,hm⟩|⟨b24,hm⟩
      ·obtain⟨g25,hm⟩:=qU hm;exact q_vv [qf 2 b24,qi 8 g25] 1 [5,6,82] [(94,vb (decide ((a1.Lengths.getD x18.toNat du)<=(a1.Lengths.getD (w64 (x18-1)).toNat du))))] (q_J (decide ((a1.Lengths.getD x18.toNat du)<=(a1.Lengths.getD (w64 (x18-1)).toNat du))) hm)
      ·exact q_vv [qf 2 b24] 1 [5,6,82] [(94,vb false)] (q_J (false) hm)
   ·rcases bif_c hm with⟨b21,hm⟩|⟨b21,hm⟩
    ·exact q_vv [qf 2 b21] 1 [] [(82,vb true)] (q_J (true) hm)
    ·exact q_vv [qf 2 b21] 1 [] [(82,vb (decide ((a1.Lengths.getD x18.toNat du)>20000)))] (q_J (decide ((a1.Lengths.getD x18.toNat du)>20000)) hm)
  ·refine q_ex 0 ?_;obtain rfl:=oi hm;exact q_l1 ()
theorem SI (E:Env 0) (a1:Product):∀(n:Nat) (x32:Int) (res:Int⊕Unit),zU a1 n x32=some res->HL (kx E 110 0) (nd f76 8180) (JW 2 (λo=>VI) (λv st=>RetQ Try.prog f76 (QR v) (QO v) .ret st) res) n (YT a1 x32):=by
 intro n
 induction n with
 |zero=>
  intro x32 res hm;cases hm
 |succ n ih=>
  intro x32 res hm;refine zE (s_va 1 [(100,vb (decide (x32<(a1.Prices.length:Int))))] ?_);refine q_sq (q_cq hm (λhm=>?_) (λhm=>?_))
  ·refine q_sk (q_sq ?_);refine q_bk 3 ?_;obtain⟨g34,hm⟩:=qU hm;refine s_vv [qi 0 g34] 1 [100] [(8,vi (a1.Prices.getD x32.toNat du))] (q_jn (EJ a1 x32) (λp=>WJ x32 (zU a1 n) p=some res) ?_ ?_)
   ·rintro x36 hm;refine q_cq hm (λhm=>?_) (λhm=>?_)
    ·refine s_vn [] 1 ⟨[(2,vi 9)],[]⟩ ?_;obtain rfl:=oi hm;refine q_rt (wO 9 ?_);exact q_rm
    ·refine q_sk (q_vv [] 1 [99,108] [(99,vi (w64 (x32+1)))] ?_);exact q_hl (YT a1 (w64 (x32+1))) (ih (w64 (x32+1)) _ hm)
   ·rcases bif_c hm with⟨b35,hm⟩|⟨b35,hm⟩
    ·exact q_vv [qf 2 b35] 1 [8] [(108,vb true)] (q_J (true) hm)
    ·exact q_vv [qf 2 b35] 1 [8] [(108,vb (decide ((a1.Prices.getD x32.toNat du)>1000000)))] (q_J (decide ((a1.Prices.getD x32.toNat du)>1000000)) hm)
  ·refine q_ex 2 ?_;obtain rfl:=oi hm;exact q_l1 ()
theorem zbQ (a1:Product) (r:Int) (hm:ZU a1=some r):CtX Try.prog globs 76 0 0 [.agg (qD a1)] [] (QR r) (QO r):=by
 unfold ZU at hm;refine q_E f76 110 λE=>?_;refine s_vn [] 0 ⟨[(1,vp 0 0)],[(0,bx 114 (qD a1))]⟩ (q_sq ?_);refine q_jn (EM a1) (λp=>jQ a1 p=some r) ?_ ?_
 ·rintro x5 hm;refine q_cq hm (λhm=>?_) (λhm=>?_)
  ·refine s_vn [] 1 ⟨[(2,vi 9)],[]⟩ ?_;obtain rfl:=oi hm;exact q_rt q_rm
  ·refine q_sk (q_sq ?_);refine q_jn (ED a1) (λp=>jO a1 p=some r) ?_ ?_
   ·rintro x10 hm;refine q_cq hm (λhm=>?_) (λhm=>?_)
    ·refine s_vn [] 1 ⟨[(2,vi 9)],[]⟩ ?_;obtain rfl:=oi hm;exact q_rt q_rm
    ·refine q_sk (q_sq ?_);obtain⟨v12,h13,hm⟩:=qI hm;refine s_vv [qc 1 [48] 1 (FI a1 v12 h13)] 1 [46] [(4,vi v12.2)] (s_vv [] 1 [4] [(53,vb (decide (v12.2>600)))] ?_);refine q_cq hm (λhm=>?_) (λhm=>?_)
     ·refine s_vn [] 1 ⟨[(2,vi 9)],[]⟩ ?_;obtain rfl:=oi hm;exact q_rt q_rm
     ·refine q_sk (q_sq ?_);refine s_vv [] 1 [53] [(57,vb ((a1.Lengths.length:Int)==0))] (q_cq hm (λhm=>?_) (λhm=>?_))
      ·refine s_vn [] 1 ⟨[(2,vi 3)],[]⟩ ?_;obtain rfl:=oi hm;exact q_rt q_rm
      ·refine q_sk (q_sq ?_);refine s_vv [] 1 [57] [(61,vb (decide ((a1.Lengths.length:Int)>8)))] (q_cq hm (λhm=>?_) (λhm=>?_))
       ·refine s_vn [] 1 ⟨[(2,vi 4)],[]⟩ ?_;obtain rfl:=oi hm;exact q_rt q_rm
       ·refine q_sk (q_sq ?_);refine s_vv [] 1 [61] [(68,vb ((a1.Prices.length:Int) !=(a1.Lengths.length:Int)))] (q_cq hm (λhm=>?_) (λhm=>?_))
        ·refine s_vn [] 1 ⟨[(2,vi 19)],[]⟩ ?_;obtain rfl:=oi hm;exact q_rt q_rm
        ·refine q_sk (q_sq ?_);refine s_vv [] 1 [68] [(70,vc (tl qJ du a1.Lengths)),(71,vi (a1.Lengths.length:Int)),(72,vi 0)] ?_;obtain⟨u30,h29,hm⟩:=qI hm;refine yX (nd f76 4084) 0 (by kernel_rfl) FUEL (λo=>VL a1) (λv st=>RetQ Try.prog f76 (QR v) (QO v) .ret st) u30 (q_hl (YX a1 0) (SD E a1 FUEL 0 u30 h29)) ?_ ?_
         ·rintro v31 rfl st hr;obtain rfl:=oi hm;exact hr
         ·rintro o28 rfl;replace hm:_=some r:=hm;refine q_sq (s_vn [] 1 ⟨[(97,vc (tl qJ du a1.Prices)),(98,vi (a1.Prices.length:Int)),(99,vi 0)],[]⟩ ?_);obtain⟨u40,h39,hm⟩:=qI hm;refine yX (nd f76 8180) 2 (by kernel_rfl) FUEL (λo=>VI) (λv st=>RetQ Try.prog f76 (QR v) (QO v) .ret st) u40 (q_hl (YT a1 0) (SI E a1 FUEL 0 u40 h39)) ?_ ?_
          ·rintro v41 rfl st hr;obtain rfl:=oi hm;exact hr
          ·rintro o38 rfl;replace hm:_=some r:=hm;refine s_vn [] 1 ⟨[(2,vi 0)],[]⟩ ?_;obtain rfl:=oi hm;exact q_rt q_rm
   ·rcases bif_c hm with⟨b7,hm⟩|⟨b7,hm⟩
    ·exact q_vv [qf 3 b7] 1 [28] [(46,vb true)] (q_J (true) hm)
    ·rcases bif_c hm with⟨b8,hm⟩|⟨b8,hm⟩
     ·exact q_vv [qf 3 b7,qf 8 b8] 1 [28] [(46,vb true)] (q_J (true) hm)
     ·rcases bif_c hm with⟨b9,hm⟩|⟨b9,hm⟩
      ·exact q_vv [qf 3 b7,qf 8 b8,qf 13 b9] 1 [28] [(46,vb true)] (q_J (true) hm)
      ·exact q_vv [qf 3 b7,qf 8 b8,qf 13 b9] 1 [28] [(46,vb (decide (a1.Wane>1000)))] (q_J (decide (a1.Wane>1000)) hm)
 ·rcases bif_c hm with⟨b2,hm⟩|⟨b2,hm⟩
  ·exact q_vv [qf 3 b2] 1 [] [(28,vb true)] (q_J (true) hm)
  ·rcases bif_c hm with⟨b3,hm⟩|⟨b3,hm⟩
   ·exact q_vv [qf 3 b2,qf 8 b3] 1 [] [(28,vb true)] (q_J (true) hm)
   ·rcases bif_c hm with⟨b4,hm⟩|⟨b4,hm⟩
    ·exact q_vv [qf 3 b2,qf 8 b3,qf 15 b4] 1 [] [(28,vb true)] (q_J (true) hm)
    ·exact q_vv [qf 3 b2,qf 8 b3,qf 15 b4] 1 [] [(28,vb (decide (a1.Width>600)))] (q_J (decide (a1.Width>600)) hm)
def PS (r:Int):V:=vi r
def ZN (r:Int):List (Nat×(Nat×O)):=[]
theorem OP (r:Int):GT (ZN r):=by
 intro i k o h;unfold ZN at h;cases h
def GQ (a1:List Product) (x3:Int):St:=
 ⟨[(0,vc (tl qD du a1)),(11,vc (tl qD du a1)),(12,vi (a1.length:Int)),(13,vi x3)],[]⟩
def HI :St:=
 ⟨[],[]⟩
theorem qBO (E:Env 0) (a1:List Product):∀(n:Nat) (x3:Int) (res:Int⊕Unit),QX a1 n x3=some res->HL (kx E 38 0) (nd f55 116) (JW 0 (λo=>HI) (λv st=>RetQ Try.prog f55 (PS v) (ZN v) .ret st) res) n (GQ a1 x3):=by
 intro n
 induction n with
 |zero=>
  intro x3 res hm;cases hm
 |succ n ih=>
  intro x3 res hm;refine zE (s_va 0 [(14,vb (decide (x3<(a1.length:Int))))] ?_);refine q_sq (q_cq hm (λhm=>?_) (λhm=>?_))
  ·refine q_sk (q_sq ?_);refine q_bk 1 ?_;obtain⟨g5,hm⟩:=qU hm;refine s_vu [qi 1 g5] 0 [14] [(3,vi x3),(4,vp 0 0)] [] [(0,bx 114 (qD (a1.getD x3.toNat du)))] (q_sq ?_);obtain⟨v6,h7,hm⟩:=qI hm;refine s_vv [qc 2 [19] 1 (qER ((a1.getD x3.toNat du).Name) v6 h7)] 1 [] [(21,vb (!v6))] (q_cq hm (λhm=>?_) (λhm=>?_))
   ·refine s_vn [] 1 ⟨[(2,vi 6)],[]⟩ ?_;obtain rfl:=oi hm;refine q_rt (wO 6 ?_);exact q_rm
   ·refine q_sk (q_sq ?_);obtain⟨g9,hm⟩:=qU hm;obtain⟨v10,h11,hm⟩:=qI hm;refine s_du [qd 2 (drw ((a1.take x3.toNat).length) 0 (rf qD (a1.take x3.toNat))) (slPhi qD du a1 x3 (And.intro (wX g9).2.1 (wX g9).2.2)),qc 5 [25,27] 1 (qEK (a1.take x3.toNat) ((a1.getD x3.toNat du).Name) v10 h11)] [0,0,3,0,8,31,63,127,127,255,1023] 1 [3,21] [(6,vb v10.2)] [] [] (s_vv [] 1 [6] [(31,vb v10.2)] ?_);refine q_cq hm (λhm=>?_) (λhm=>?_)
    ·refine s_vn [] 1 ⟨[(2,vi 7)],[]⟩ ?_;obtain rfl:=oi hm;refine q_rt (wO 7 ?_);exact q_rm
    ·refine q_sk ?_;obtain⟨v13,h14,hm⟩:=qI hm;refine s_vu [qc 1 [32] 1 (zbQ (a1.getD x3.toNat du) v13 h14)] 1 [4,31] [(7,vi v13)] [0] [] (s_va 1 [(35,vb (v13 !=0))] ?_);refine q_cq hm (λhm=>?_) (λhm=>?_)
     ·refine s_vn [] 1 ⟨[(2,vi v13)],[]⟩ ?_;obtain rfl:=oi hm;refine q_rt (wO v13 ?_);exact q_rm
     ·refine q_sk (q_vv [] 1 [7,13,35] [(13,vi (w64 (x3+1)))] ?_);exact q_hl (GQ a1 (w64 (x3+1))) (ih (w64 (x3+1)) _ hm)
  ·refine q_ex 0 ?_;obtain rfl:=oi hm;exact q_l1 ()
theorem FF (a1:List Product) (r:Int) (hm:YH a1=some r):CtX Try.prog globs 55 0 0 [.one (tl qD du a1)] [] (PS r) (ZN r):=by
 unfold YH at hm;refine q_E f55 38 λE=>?_;refine s_vn [] 0 ⟨[(0,vc (tl qD du a1))],[]⟩ (q_sq ?_);refine s_va 0 [(10,vb (decide ((a1.length:Int)>16)))] (q_cq hm (λhm=>?_) (λhm=>?_))
 ·refine s_vn [] 0 ⟨[(2,vi 4)],[]⟩ ?_;obtain rfl:=oi hm;exact q_rt q_rm
 ·refine q_sk (q_sq ?_);refine s_vv [] 0 [10] [(11,vc (tl qD du a1)),(12,vi (a1.length:Int)),(13,vi 0)] ?_;obtain⟨u18,h17,hm⟩:=qI hm;refine yX (nd f55 116) 0 (by kernel_rfl) FUEL (λo=>HI) (λv st=>RetQ Try.prog f55 (PS v) (ZN v) .ret st) u18 (q_hl (GQ a1 0) (qBO E a1 FUEL 0 u18 h17)) ?_ ?_
  ·rintro v19 rfl st hr;obtain rfl:=oi hm;exact hr
  ·rintro o16 rfl;replace hm:_=some r:=hm;refine s_vn [] 0 ⟨[(2,vi 0)],[]⟩ ?_;obtain rfl:=oi hm;exact q_rt q_rm
end Saw
end Go.SL

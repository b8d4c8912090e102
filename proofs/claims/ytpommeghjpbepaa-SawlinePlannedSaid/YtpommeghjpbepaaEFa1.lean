import Derived.Test.YtpommeghjpbepaaEBase
set_option linter.unusedVariables false
set_option linter.unusedSimpArgs false
namespace Go.SL
namespace Saw
open Go.Proofs Go.Proofs.Try
set_option maxHeartbeats 4000000
set_option maxRecDepth 100000
def qK4 (r:Span):V:=va (qO r)
def qK6 (r:Span):List (Nat×(Nat×O)):=[]
theorem UI (a1:Span) (a2:Span) (r:Span) (hm:KC a1 a2=some r):CtX Try.prog globs 33 0 0 [.agg (qO a1),.agg (qO a2)] [] (qK4 r) (qK6 r):=by
 unfold KC at hm;refine q_E f33 24 λE=>?_;refine s_vn [] 0 ⟨[(2,vp 0 0),(3,vp 1 0),(4,vp 2 0)],[(0,bx 26 (qO a1)),(1,bx 26 (qO a2)),(2,bx 26 [ci 0,ci 0])]⟩ (s_vu [] 3 [2,3] [(5,vp 3 0)] [0,1] [(3,bx 26 [ci (imax a1.A a2.A),ci (imin a1.B a2.B)])] ?_);refine q_sq (s_va 4 [(21,vb (decide ((imax a1.A a2.A)≥(imin a1.B a2.B))))] ?_);refine q_cq hm (λhm=>?_) (λhm=>?_)
 ·refine s_vu [] 4 [5,21] [] [3] [] ?_;obtain rfl:=oi hm;exact q_rt q_rm
 ·refine q_sk (s_vn [] 4 ⟨[(4,vp 2 0)],[(2,bx 26 [ci (imax a1.A a2.A),ci (imin a1.B a2.B)])]⟩ ?_);obtain rfl:=oi hm;exact q_rt q_rm
def qFA (r:Bool):V:=vb r
def qFa (r:Bool):List (Nat×(Nat×O)):=[]
theorem wF (a1:Span) (r:Bool) (hm:QR a1=some r):CtX Try.prog globs 93 0 0 [.agg (qO a1)] [] (qFA r) (qFa r):=by
 unfold QR at hm;refine q_E f93 8 λE=>?_;refine s_vn [] 0 ⟨[(1,vp 0 0)],[(0,bx 26 (qO a1))]⟩ (s_vn [] 1 ⟨[(2,vb (decide (a1.A≥a1.B)))],[]⟩ ?_);obtain rfl:=oi hm;exact q_rt q_rm
def qI6 (r:Box×Bool):V:= .tup [.agg (WC r.1),.one (cb r.2)]
def qJd (r:Box×Bool):List (Nat×(Nat×O)):=[]
def qFb (v3:Span) (v5:Span) (v7:Span) (x17:Bool):St:=
 ⟨[(4,vp 2 0),(6,vp 3 0),(35,vb x17)],[(2,bx 58 [ci 0,ci 0,ci 0,ci 0,ci 0,ci 0]),(3,bx 58 [ci v3.A,ci v3.B,ci v5.A,ci v5.B,ci v7.A,ci v7.B])]⟩
theorem qHB (a1:Box) (a2:Box) (r:Box×Bool) (hm:SW a1 a2=some r):CtX Try.prog globs 99 0 0 [.agg (WC a1),.agg (WC a2)] [] (qI6 r) (qJd r):=by
 unfold SW at hm;refine q_E f99 38 λE=>?_;refine s_vn [] 0 ⟨[(2,vp 0 0),(3,vp 1 0),(4,vp 2 0)],[(0,bx 58 (WC a1)),(1,bx 58 (WC a2)),(2,bx 58 [ci 0,ci 0,ci 0,ci 0,ci 0,ci 0])]⟩ ?_;obtain⟨v3,h4,hm⟩:=qH hm;obtain⟨v5,h6,hm⟩:=qH hm;obtain⟨v7,h8,hm⟩:=qH hm;refine s_du [qc 4 [8,10] 3 (UI a1.X a2.X v3 h4),qc 9 [13,15] 3 (UI a1.Y a2.Y v5 h6),qc 14 [18,20] 3 (UI a1.Z a2.Z v7 h8)] [0,1,0,4,15,0,32,0,128,511,0,1024,0,4096,16383,32767,0,131071] 3 [2,3] [(6,vp 3 0)] [0,1] [(3,bx 58 [ci v3.A,ci v3.B,ci v5.A,ci v5.B,ci v7.A,ci v7.B])] (q_sq ?_);refine q_jn (qFb v3 v5 v7) (λp=>UB v3 v5 v7 p=some r) ?_ ?_
 ·rintro x17 hm;refine q_cq hm (λhm=>?_) (λhm=>?_)
  ·refine s_vu [] 4 [6,35] [(5,vb false)] [3] [] ?_;obtain rfl:=oi hm;exact q_rt q_rm
  ·refine q_sk (s_vu [] 4 [6,35] [(5,vb true)] [2,3] [(2,bx 58 [ci v3.A,ci v3.B,ci v5.A,ci v5.B,ci v7.A,ci v7.B])] ?_);obtain rfl:=oi hm;exact q_rt q_rm
 ·obtain⟨v9,h10,hm⟩:=qH hm;rcases bif_c hm with⟨b11,hm⟩|⟨b11,hm⟩
  ·exact q_vv [qc 2 [24] 4 (wF v3 v9 h10),qf 3 b11] 4 [] [(35,vb true)] (q_J (true) hm)
  ·obtain⟨v12,h13,hm⟩:=qH hm;rcases bif_c hm with⟨b14,hm⟩|⟨b14,hm⟩
   ·exact q_vv [qc 2 [24] 4 (wF v3 v9 h10),qf 3 b11,qk 6 [26,28] 4 ⟨[(26,vb false),(28,va (qO v5))],[]⟩ (wF v5 v12 h13),qf 8 b14] 4 [] [(35,vb true)] (q_J (true) hm)
   ·obtain⟨v15,h16,hm⟩:=qH hm;exact q_vv [qc 2 [24] 4 (wF v3 v9 h10),qf 3 b11,qk 6 [26,28] 4 ⟨[(26,vb false),(28,va (qO v5))],[]⟩ (wF v5 v12 h13),qf 8 b14,qk 11 [31,33] 4 ⟨[(31,vb false),(33,va (qO v7))],[]⟩ (wF v7 v15 h16)] 4 [] [(35,vb v15)] (q_J (v15) hm)
open Go.Proofs Go.Proofs.Try
def qE0 (r:Bool):V:=vb r
def qFF (r:Bool):List (Nat×(Nat×O)):=[]
theorem AO (a1:qJ) (a2:Box) (r:Bool) (hm:KM a1 a2=some r):CtX Try.prog globs 87 0 0 [.agg (qE a1),.agg (WC a2)] [] (qE0 r) (qFF r):=by
 unfold KM at hm;refine q_E f87 15 λE=>?_;refine s_vn [] 0 ⟨[(2,vp 0 0),(3,vp 1 0)],[(0,bx 122 (qE a1)),(1,bx 58 (WC a2))]⟩ ?_;obtain⟨v3,h4,hm⟩:=qH hm;refine s_vn [qc 3 [9,10] 2 (qHB a1.Box a2 v3 h4)] 2 ⟨[(6,vb v3.2)],[]⟩ (s_vn [] 3 ⟨[(4,vb v3.2)],[]⟩ ?_);obtain rfl:=oi hm;exact q_rt q_rm
def qFr (r:Bool):V:=vb r
def qE3 (r:Bool):List (Nat×(Nat×O)):=[]
def qCY (x5:Bool):St:=
 ⟨[(4,vb x5)],[]⟩
theorem qEv (a1:Span) (a2:Int) (r:Bool) (hm:NB a1 a2=some r):CtX Try.prog globs 88 0 0 [.agg (qO a1),.one (ci a2)] [] (qFr r) (qE3 r):=by
 unfold NB at hm;refine q_E f88 21 λE=>?_;refine s_vn [] 0 ⟨[(1,vi a2),(2,vp 0 0)],[(0,bx 26 (qO a1))]⟩ (q_jn (qCY) (λp=>XN p=some r) ?_ ?_)
 ·rintro x5 hm;obtain rfl:=oi hm;exact q_rt q_rm
 ·rcases bif_c hm with⟨b3,hm⟩|⟨b3,hm⟩
  ·rcases bif_c hm with⟨b4,hm⟩|⟨b4,hm⟩
   ·exact q_vn [qf 3 b3,qf 10 b4] 1 ⟨[(4,vb (decide (a1.B<=a2)))],[]⟩ (q_J (decide (a1.B<=a2)) hm)
   ·exact q_vn [qf 3 b3,qf 10 b4] 1 ⟨[(4,vb false)],[]⟩ (q_J (false) hm)
  ·exact q_vn [qf 3 b3] 1 ⟨[(4,vb false)],[]⟩ (q_J (false) hm)
def HM (r:Int×Bool):V:= .tup [.one (ci r.1),.one (cb r.2)]
def HK (r:Int×Bool):List (Nat×(Nat×O)):=[]
def BF (a1:Product) (a2:Int) (x3:Int):St:=
 ⟨[(1,vi a2),(2,vp 0 0),(9,vc (tl qL du a1.Lengths)),(10,vi (a1.Lengths.length:Int)),(11,vi x3)],[(0,bx 114 (qC a1))]⟩
def EJ :St:=
 ⟨[],[]⟩
theorem qC0 (E:Env 0) (a1:Product) (a2:Int):∀(n:Nat) (x3:Int) (res:(Int×Bool)⊕Unit),ZQ a1 a2 n x3=some res->HL (kx E 30 0) (nd f89 52) (WB 0 (λo=>EJ) (λv st=>RetQ Try.prog f89 (HM v) (HK v) .ret st) res) n (BF a1 a2 x3):=by
 intro n
 induction n with
 |zero=>
  intro x3 res hm;cases hm
 |succ n ih=>
  intro x3 res hm;refine zF (s_va 1 [(12,vb (decide (x3<(a1.Lengths.length:Int))))] ?_);refine q_sq (q_cq hm (λhm=>?_) (λhm=>?_))
  ·refine q_sk (q_sq ?_);refine q_bk 1 ?_;obtain⟨g5,hm⟩:=qT hm;refine s_vv [qi 1 g5] 1 [12] [(6,vi x3),(7,vi (a1.Lengths.getD x3.toNat du))] (q_sq ?_);refine s_vv [] 1 [7] [(18,vb ((a1.Lengths.getD x3.toNat du) !=a2))] (q_cq hm (λhm=>?_) (λhm=>?_))
   ·refine q_ex 1 (q_vv [] 1 [6,11,18] [(11,vi (w64 (x3+1)))] ?_);exact q_hl (BF a1 a2 (w64 (x3+1))) (ih (w64 (x3+1)) _ hm)
   ·refine q_sk (q_sq ?_);refine s_vv [] 1 [1,9,10,11,18] [(23,vb (decide (x3≥(a1.Prices.length:Int))))] (q_cq hm (λhm=>?_) (λhm=>?_))
    ·refine s_vn [] 1 ⟨[(4,vi 0),(5,vb false)],[]⟩ ?_;obtain rfl:=oi hm;refine q_rt (wS (0,false) ?_);exact q_rm
    ·refine q_sk ?_;obtain⟨g8,hm⟩:=qT hm;refine s_vn [qi 3 g8] 1 ⟨[(4,vi (a1.Prices.getD x3.toNat du)),(5,vb true)],[]⟩ ?_;obtain rfl:=oi hm;refine q_rt (wS ((a1.Prices.getD x3.toNat du),true) ?_);exact q_rm
  ·refine q_ex 0 ?_;obtain rfl:=oi hm;exact q_l1 ()
theorem qEX (a1:Product) (a2:Int) (r:Int×Bool) (hm:GM a1 a2=some r):CtX Try.prog globs 89 0 0 [.agg (qC a1),.one (ci a2)] [] (HM r) (HK r):=by
 unfold GM at hm;refine q_E f89 30 λE=>?_;refine s_vn [] 0 ⟨[(1,vi a2),(2,vp 0 0)],[(0,bx 114 (qC a1))]⟩ (q_sq ?_);refine s_va 1 [(9,vc (tl qL du a1.Lengths)),(10,vi (a1.Lengths.length:Int)),(11,vi 0)] ?_;obtain⟨u11,h10,hm⟩:=qH hm;refine yA (nd f89 52) 0 (by kernel_rfl) FUEL (λo=>EJ) (λv st=>RetQ Try.prog f89 (HM v) (HK v) .ret st) u11 (q_hl (BF a1 a2 0) (qC0 E a1 a2 FUEL 0 u11 h10)) ?_ ?_
 ·rintro v12 rfl st hr;obtain rfl:=oi hm;exact hr
 ·rintro o9 rfl;replace hm:_=some r:=hm;refine s_vn [] 1 ⟨[(4,vi 0),(5,vb false)],[]⟩ ?_;obtain rfl:=oi hm;exact q_rt q_rm
open Go.Proofs Go.Proofs.Try
def OO (r:Box):V:=va (WC r)
def VJ (r:Box):List (Nat×(Nat×O)):=[]
theorem qEY (r:Box):US (VJ r):=by
 intro i k o h;unfold VJ at h;cases h
theorem AX (a1:qV) (a2:Span) (r:Box) (hm:KN a1 a2=some r):CtX Try.prog globs 86 0 0 [.agg (BG a1),.agg (qO a2)] [] (OO r) (VJ r):=by
 unfold KN at hm;refine q_E f86 13 λE=>?_;refine s_vn [] 0 ⟨[(2,vp 0 0),(3,vp 1 0),(4,vp 2 0)],[(0,bx 149 (BG a1)),(1,bx 26 (qO a2)),(2,bx 58 [ci 0,ci 0,ci 0,ci 0,ci 0,ci 0])]⟩ (s_vn [] 3 ⟨[(4,vp 2 0)],[(2,bx 58 [ci a1.rect.X.A,ci a1.rect.X.B,ci a1.rect.Y.A,ci a1.rect.Y.B,ci a2.A,ci a2.B])]⟩ ?_);obtain rfl:=oi hm;exact q_rt q_rm
def qIY (r:Int):V:=vi r
def qJe (r:Int):List (Nat×(Nat×O)):=[]
def DZ (a1:List qS) (a2:Span) (x4:Int):St:=
 ⟨[(3,vp 0 0),(8,vc (tl zD du a1)),(9,vi (a1.length:Int)),(10,vi x4)],[(0,bx 26 (qO a2))]⟩
def qE7 (a1:List qS) (a2:Span) (x4:Int) (x10:Int):St:=
 (DZ a1 a2 x4).up [] [(5,vi x10)] [] []
def qFl (a1:List qS) (a2:Span) (x3:Int) (x4:Int) (x8:Bool):St:=
 (DZ a1 a2 x4).up [] [(5,vi x3),(7,vp 1 0),(27,vb x8)] [] [(1,bx 182 (zD (a1.getD x4.toNat du)))]
def LR (a1:List qS) (a2:Span) (x3:Int) (x4:Int):St:=
 (DZ a1 a2 x4).up [] [(5,vi x3)] [] []
def OF (x11:Int):St:=
 ⟨[(5,vi x11)],[]⟩
theorem qEg (E:Env 0) (a1:List qS) (a2:Span):∀(n:Nat) (x3:Int) (x4:Int) (res:Int),QP a1 a2 n x3 x4=some res->HL (kx E 34 0) (nd f90 116) (jL 0 OF res) n (LR a1 a2 x3 x4):=by
 intro n
 induction n with
 |zero=>
  intro x3 x4 res hm;cases hm
 |succ n ih=>
  intro x3 x4 res hm;refine zF (s_va 1 [(11,vb (decide (x4<(a1.length:Int))))] ?_);refine q_sq (q_cq hm (λhm=>?_) (λhm=>?_))
  ·refine q_sk (q_jn (qE7 a1 a2 x4) (λp=>NU x4 (QP a1 a2 n) p=some res) ?_ ?_)
   ·rintro x10 hm;exact q_vv [] 2 [10] [(10,vi (w64 (x4+1)))] (q_hl (LR a1 a2 x10 (w64 (x4+1))) (ih x10 (w64 (x4+1)) _ hm))
   ·refine q_bk 1 ?_;obtain⟨g6,hm⟩:=qT hm;refine s_vu [qi 0 g6] 1 [11] [(7,vp 1 0)] [] [(1,bx 182 (zD (a1.getD x4.toNat du)))] (q_jn (qFl a1 a2 x3 x4) (λp=>NJ a1 x3 x4 (QP a1 a2 n) p=some res) ?_ ?_)
    ·rintro x8 hm;refine q_cq hm (λhm=>?_) (λhm=>?_)
     ·exact q_vu [] 2 [5,7,27] [(5,vi (imax x3 ((a1.getD x4.toNat du).lack)))] [1] [] (q_J (imax x3 ((a1.getD x4.toNat du).lack)) hm)
     ·exact q_sk (q_J (x3) hm)
    ·rcases bif_c hm with⟨b7,hm⟩|⟨b7,hm⟩
     ·exact q_vv [qf 6 b7] 2 [] [(27,vb (decide (a2.A<(((a1.getD x4.toNat du).z).B))))] (q_J (decide (a2.A<(((a1.getD x4.toNat du).z).B))) hm)
     ·exact q_vv [qf 6 b7] 2 [] [(27,vb false)] (q_J (false) hm)
  ·refine q_ex 0 ?_;obtain rfl:=oi hm;exact q_l0
theorem qHt (a1:List qS) (a2:Span) (r:Int) (hm:FW a1 a2=some r):CtX Try.prog globs 90 0 0 [.one (tl zD du a1),.agg (qO a2)] [] (qIY r) (qJe r):=by
 unfold FW at hm;refine q_E f90 34 λE=>?_;refine s_vn [] 0 ⟨[(0,vc (tl zD du a1)),(3,vp 0 0)],[(0,bx 26 (qO a2))]⟩ (s_va 1 [(5,vi 0)] ?_);refine q_sq (s_vv [] 1 [0] [(8,vc (tl zD du a1)),(9,vi (a1.length:Int)),(10,vi 0)] ?_);obtain⟨o12,h13,hm⟩:=qH hm;refine jC (nd f90 116) 0 (by kernel_rfl) FUEL OF o12 (q_hl (LR a1 a2 0 0) (qEg E a1 a2 FUEL 0 0 o12 h13)) (s_vn [] 1 ⟨[(4,vi o12)],[]⟩ ?_);obtain rfl:=oi hm;exact q_rt q_rm
def RH (r:Int×Bool):V:= .tup [.one (ci r.1),.one (cb r.2)]
def ZR (r:Int×Bool):List (Nat×(Nat×O)):=[]
theorem qDC (r:Int×Bool):US (ZR r):=by
 intro i k o h;unfold ZR at h;cases h
def qBv (a1:qV) (a3:Int) (v14:Box) (x17:Int) (x24:Int):St:=
 ⟨[(2,vi a3),(8,vi x24),(10,vp 2 0),(45,vc (tl qE du a1.defects)),(46,vi (a1.defects.length:Int)),(47,vi x17)],[(2,bx 58 (WC v14))]⟩
def TW (a1:qV) (a3:Int) (v14:Box) (x16:Int) (x17:Int):St:=
 ⟨[(2,vi a3),(8,vi x16),(10,vp 2 0),(45,vc (tl qE du a1.defects)),(46,vi (a1.defects.length:Int)),(47,vi x17)],[(2,bx 58 (WC v14))]⟩
def MJ (x25:Int):St:=
 ⟨[(8,vi x25)],[]⟩
def qBG (a1:qV) (a2:Span) (a3:Int) (v7:Int×Bool) (x12:Bool):St:=
 ⟨[(2,vi a3),(3,vp 0 0),(4,vp 1 0),(8,vi v7.1),(40,vb x12)],[(0,bx 149 (BG a1)),(1,bx 26 (qO a2))]⟩
theorem qA6 (E:Env 0) (a1:qV) (a3:Int) (v14:Box):∀(n:Nat) (x16:Int) (x17:Int) (res:(Int×Bool)⊕Int),zV a1 a3 v14 n x16 x17=some res->HL (kx E 64 0) (nd f67 1012) (WB 0 MJ (λv st=>RetQ Try.prog f67 (RH v) (ZR v) .ret st) res) n (TW a1 a3 v14 x16 x17):=by
 intro n
 induction n with
 |zero=>
  intro x16 x17 res hm;cases hm
 |succ n ih=>
  intro x16 x17 res hm;refine zF (s_va 3 [(48,vb (decide (x17<(a1.defects.length:Int))))] ?_);refine q_sq (q_cq hm (λhm=>?_) (λhm=>?_))
  ·refine q_sk (q_jn (qBv a1 a3 v14 x17) (λp=>PL x17 (zV a1 a3 v14 n) p=some res) ?_ ?_)
   ·rintro x24 hm;exact q_vv [] 4 [47] [(47,vi (w64 (x17+1)))] (q_hl (TW a1 a3 v14 x24 (w64 (x17+1))) (ih x24 (w64 (x17+1)) _ hm))
   ·refine q_bk 1 ?_;obtain⟨g19,hm⟩:=qT hm;refine s_vu [qi 0 g19] 3 [48] [(12,vp 3 0)] [] [(3,bx 122 (qE (a1.defects.getD x17.toNat du)))] (q_sq ?_);obtain⟨v20,h21,hm⟩:=qH hm;refine s_vv [qc 2 [51,52] 4 (AO (a1.defects.getD x17.toNat du) v14 v20 h21)] 4 [] [(54,vb (!v20))] (q_cq hm (λhm=>?_) (λhm=>?_))
    ·exact q_ex 1 (q_J (x16) hm)
    ·refine q_sk (q_sq ?_);refine s_vu [] 4 [12,54] [(57,vb (((a1.defects.getD x17.toNat du).Kind)==3))] [3] [] (q_cq hm (λhm=>?_) (λhm=>?_))
     ·refine s_vn [] 4 ⟨[(6,vi 0),(7,vb false)],[]⟩ ?_;obtain rfl:=oi hm;refine q_rt (wS (0,false) ?_);exact q_rm
     ·refine q_sk (q_vv [] 4 [8,57] [(8,vi (w64 (x16-a3)))] ?_);exact q_J (w64 (x16-a3)) hm
  ·refine q_ex 0 ?_;obtain rfl:=oi hm;exact q_l1 x16
theorem qCU (a1:qV) (a2:Span) (a3:Int) (r:Int×Bool) (hm:YA a1 a2 a3=some r):CtX Try.prog globs 67 0 0 [.agg (BG a1),.agg (qO a2),.one (ci a3)] [] (RH r) (ZR r):=by
 unfold YA at hm;refine q_E f67 64 λE=>?_;refine s_vn [] 0 ⟨[(2,vi a3),(3,vp 0 0),(4,vp 1 0)],[(0,bx 149 (BG a1)),(1,bx 26 (qO a2))]⟩ (q_sq ?_);obtain⟨v4,h5,hm⟩:=qH hm;refine s_vv [qc 3 [13,15] 2 (qEv a2 a1.length v4 h5)] 2 [] [(17,vb (!v4))] (q_cq hm (λhm=>?_) (λhm=>?_))
 ·refine s_vn [] 2 ⟨[(6,vi 0),(7,vb false)],[]⟩ ?_;obtain rfl:=oi hm;exact q_rt q_rm
 ·refine q_sk ?_;obtain⟨v7,h8,hm⟩:=qH hm;refine s_vv [qc 7 [20,25] 2 (qEX a1.product (w64 (a2.B-a2.A)) v7 h8)] 2 [17] [(8,vi v7.1),(9,vb v7.2)] (q_sq ?_);refine q_jn (qBG a1 a2 a3 v7) (λp=>PP a1 a2 a3 v7 p=some r) ?_ ?_
  ·rintro x12 hm;refine q_cq hm (λhm=>?_) (λhm=>?_)
   ·refine s_vn [] 2 ⟨[(6,vi 0),(7,vb false)],[]⟩ ?_;obtain rfl:=oi hm;exact q_rt q_rm
   ·refine q_sk ?_;obtain⟨v14,h15,hm⟩:=qH hm;refine s_vu [qc 2 [41,42] 2 (AX a1 a2 v14 h15)] 2 [4,40] [(10,vp 2 0)] [1] [(2,bx 58 (WC v14))] (q_sq ?_);refine s_vu [] 3 [3] [(45,vc (tl qE du a1.defects)),(46,vi (a1.defects.length:Int)),(47,vi 0)] [0] [] ?_;obtain⟨u28,h27,hm⟩:=qH hm;refine yA (nd f67 1012) 0 (by kernel_rfl) FUEL MJ (λv st=>RetQ Try.prog f67 (RH v) (ZR v) .ret st) u28 (q_hl (TW a1 a3 v14 v7.1 0) (qA6 E a1 a3 v14 FUEL v7.1 0 u28 h27)) ?_ ?_
    ·rintro v29 rfl st hr;obtain rfl:=oi hm;exact hr
    ·rintro o26 rfl;replace hm:_=some r:=hm;refine s_vn [] 3 ⟨[(6,vi (imax o26 0)),(7,vb true)],[]⟩ ?_;obtain rfl:=oi hm;exact q_rt q_rm
  ·rcases bif_c hm with⟨b9,hm⟩|⟨b9,hm⟩
   ·exact q_du [qf 2 b9] [0,1,3,7,15,7,63,7,135,391,1023,2047] 2 [9] [(40,vb true)] [] [] (q_J (true) hm)
   ·obtain⟨v10,h11,hm⟩:=qH hm;exact q_du [qf 2 b9,qk 6 [31,33,34] 2 ⟨[(31,vb false),(33,vc (tl zD du a1.zones)),(34,va (qO a2))],[]⟩ (qHt a1.zones a2 v10 h11)] [0,1,3,7,15,7,63,7,135,391,1023,2047] 2 [9] [(40,vb (decide (v10>a1.product.Wane)))] [] [] (q_J (decide (v10>a1.product.Wane)) hm)
open Go.Proofs Go.Proofs.Try
def qHh (r:Int):V:=vi r
def qH5 (r:Int):List (Nat×(Nat×O)):=[]
theorem qAQ (a1:Int) (a2:Int) (r:Int) (hm:DW a1 a2=some r):CtX Try.prog globs 98 0 0 [.one (ci a1),.one (ci a2)] [] (qHh r) (qH5 r):=by
 unfold DW at hm;refine q_E f98 11 λE=>?_;refine s_vn [] 0 ⟨[(0,vi a1),(1,vi a2)],[]⟩ (s_vn [qd 5 dN (show(1000:Int)≠0 by decide)] 0 ⟨[(4,vi (w64 (Int.tdiv (w64 ((w64 (a1*(w64 (1000+a2))))+999)) 1000)))],[]⟩ ?_);obtain rfl:=oi hm;exact q_rt q_rm
def qFz (r:Bool):V:=vb r
def qEW (r:Bool):List (Nat×(Nat×O)):=[]
def qCV (x3:Bool):St:=
 ⟨[(2,vb x3)],[]⟩
theorem ZD (a1:Int) (r:Bool) (hm:KI a1=some r):CtX Try.prog globs 97 0 0 [.one (ci a1)] [] (qFz r) (qEW r):=by
 unfold KI at hm;refine q_E f97 9 λE=>?_;refine s_vn [] 0 ⟨[(0,vi a1)],[]⟩ (q_jn (qCV) (λp=>TO p=some r) ?_ ?_)
 ·rintro x3 hm;obtain rfl:=oi hm;exact q_rt q_rm
 ·rcases bif_c hm with⟨b2,hm⟩|⟨b2,hm⟩
  ·exact q_vn [qf 2 b2] 0 ⟨[(2,vb (decide (a1<=600)))],[]⟩ (q_J (decide (a1<=600)) hm)
  ·exact q_vn [qf 2 b2] 0 ⟨[(2,vb false)],[]⟩ (q_J (false) hm)
def qGh (r:Int×Int):V:= .tup [.one (ci r.1),.one (ci r.2)]
def qF5 (r:Int×Int):List (Nat×(Nat×O)):=[]
def qDL (a1:Product) (x9:Bool):St:=
 ⟨[(1,vp 0 0),(23,vb x9)],[(0,bx 114 (qC a1))]⟩
theorem MB (a1:Product) (r:Int×Int) (hm:XF a1=some r):CtX Try.prog globs 78 0 0 [.agg (qC a1)] [] (qGh r) (qF5 r):=by
 unfold XF at hm;refine q_E f78 34 λE=>?_;refine s_vn [] 0 ⟨[(1,vp 0 0)],[(0,bx 114 (qC a1))]⟩ (q_sq ?_);refine q_jn (qDL a1) (λp=>JR a1 p=some r) ?_ ?_
 ·rintro x9 hm;refine q_cq hm (λhm=>?_) (λhm=>?_)
  ·refine s_vn [] 1 ⟨[(2,vi 0),(3,vi 0)],[]⟩ ?_;obtain rfl:=oi hm;exact q_rt q_rm
  ·refine q_sk ?_;obtain⟨v11,h12,hm⟩:=qH hm;obtain⟨v13,h14,hm⟩:=qH hm;refine s_dn [qc 4 [25,27] 1 (qAQ a1.Thick a1.Allow v11 h12),qc 9 [30,32] 1 (qAQ a1.Width a1.Allow v13 h14)] [0,1,0,4,15,0,32,0,128,511,1023,2047] 1 ⟨[(2,vi v11),(3,vi v13)],[]⟩ ?_;obtain rfl:=oi hm;exact q_rt q_rm
 ·obtain⟨v2,h3,hm⟩:=qH hm;rcases bif_c hm with⟨b4,hm⟩|⟨b4,hm⟩
  ·exact q_vv [qc 2 [5] 1 (ZD a1.Thick v2 h3),qf 4 b4] 1 [] [(23,vb true)] (q_J (true) hm)
  ·obtain⟨v5,h6,hm⟩:=qH hm;rcases bif_c hm with⟨b7,hm⟩|⟨b7,hm⟩
   ·exact q_vv [qc 2 [5] 1 (ZD a1.Thick v2 h3),qf 4 b4,qk 7 [8,10] 1 ⟨[(8,vb false),(10,vi a1.Width)],[]⟩ (ZD a1.Width v5 h6),qf 10 b7] 1 [] [(23,vb true)] (q_J (true) hm)
   ·rcases bif_c hm with⟨b8,hm⟩|⟨b8,hm⟩
    ·exact q_vv [qc 2 [5] 1 (ZD a1.Thick v2 h3),qf 4 b4,qk 7 [8,10] 1 ⟨[(8,vb false),(10,vi a1.Width)],[]⟩ (ZD a1.Width v5 h6),qf 10 b7,qf 15 b8] 1 [] [(23,vb true)] (q_J (true) hm)
    ·exact q_vv [qc 2 [5] 1 (ZD a1.Thick v2 h3),qf 4 b4,qk 7 [8,10] 1 ⟨[(8,vb false),(10,vi a1.Width)],[]⟩ (ZD a1.Width v5 h6),qf 10 b7,qf 15 b8] 1 [] [(23,vb (decide (a1.Allow>200)))] (q_J (decide (a1.Allow>200)) hm)
open Go.Proofs Go.Proofs.Try
def qED (r:Bool):V:=vb r
def qEo (r:Bool):List (Nat×(Nat×O)):=[]
def qBY (x3:Bool):St:=
 ⟨[(2,vb x3)],[]⟩
theorem qDI (a1:Span) (r:Bool) (hm:RN a1=some r):CtX Try.prog globs 91 0 0 [.agg (qO a1)] [] (qED r) (qEo r):=by
 unfold RN at hm;refine q_E f91 17 λE=>?_;refine s_vn [] 0 ⟨[(1,vp 0 0)],[(0,bx 26 (qO a1))]⟩ (q_jn (qBY) (λp=>RK p=some r) ?_ ?_)
 ·rintro x3 hm;obtain rfl:=oi hm;exact q_rt q_rm
 ·rcases bif_c hm with⟨b2,hm⟩|⟨b2,hm⟩
  ·exact q_vn [qf 6 b2] 1 ⟨[(2,vb (decide ((imax a1.A a1.B)<=600)))],[]⟩ (q_J (decide ((imax a1.A a1.B)<=600)) hm)
  ·exact q_vn [qf 6 b2] 1 ⟨[(2,vb false)],[]⟩ (q_J (false) hm)
def qEh (r:Bool):V:=vb r
def qEE (r:Bool):List (Nat×(Nat×O)):=[]
theorem YP (a1:Span) (r:Bool) (hm:YX a1=some r):CtX Try.prog globs 92 0 0 [.agg (qO a1)] [] (qEh r) (qEE r):=by
 unfold YX at hm;refine q_E f92 8 λE=>?_;refine s_vn [] 0 ⟨[(1,vp 0 0)],[(0,bx 26 (qO a1))]⟩ (s_vn [] 1 ⟨[(2,vb (decide (a1.A≥a1.B)))],[]⟩ ?_);obtain rfl:=oi hm;exact q_rt q_rm
def RO (r:Int):V:=vi r
def RY (r:Int):List (Nat×(Nat×O)):=[]
def DP (a1:qR) (x6:Int):St:=
 ⟨[(1,vp 0 0),(3,vi (a1.Rows.length:Int)),(24,vc (tl qO du a1.Rows)),(25,vi (a1.Rows.length:Int)),(26,vi x6)],[(0,bx 91 (jX a1))]⟩
def ER (a1:qR):St:=
 ⟨[(1,vp 0 0),(3,vi (a1.Rows.length:Int))],[(0,bx 91 (jX a1))]⟩
def qDH (a1:qR) (x27:Int) (x33:Bool):St:=
 ⟨[(54,vc (tl qO du a1.Rows)),(55,vi (a1.Rows.length:Int)),(56,vi x27),(66,vb x33)],[]⟩
def BM (a1:qR) (x27:Int):St:=
 ⟨[(54,vc (tl qO du a1.Rows)),(55,vi (a1.Rows.length:Int)),(56,vi x27)],[]⟩
def EP :St:=
 ⟨[],[]⟩
def qDy (a1:qR) (x25:Bool):St:=
 ⟨[(1,vp 0 0),(52,vb x25)],[(0,bx 91 (jX a1))]⟩
def qDF (a1:qR) (x4:Bool):St:=
 ⟨[(1,vp 0 0),(3,vi (a1.Rows.length:Int)),(22,vb x4)],[(0,bx 91 (jX a1))]⟩
theorem qCO (E:Env 0) (a1:qR):∀(n:Nat) (x6:Int) (res:Int⊕Unit),ZO a1 n x6=some res->HL (kx E 68 0) (nd f72 500) (WB 0 (λo=>ER a1) (λv st=>RetQ Try.prog f72 (RO v) (RY v) .ret st) res) n (DP a1 x6):=by
 intro n
 induction n with
 |zero=>
  intro x6 res hm;cases hm
 |succ n ih=>
  intro x6 res hm;refine zF (s_va 1 [(27,vb (decide (x6<(a1.Rows.length:Int))))] ?_);refine q_sq (q_cq hm (λhm=>?_) (λhm=>?_))
  ·refine q_sk (q_sq ?_);refine q_bk 1 ?_;obtain⟨g8,hm⟩:=qT hm;refine s_vu [qi 0 g8] 1 [27] [(5,vp 1 0)] [] [(1,bx 26 (qO (a1.Rows.getD x6.toNat du)))] ?_;obtain⟨v9,h10,hm⟩:=qH hm;refine s_vu [qc 1 [30] 2 (qDI (a1.Rows.getD x6.toNat du) v9 h10)] 2 [5] [(32,vb (!v9))] [1] [] (q_cq hm (λhm=>?_) (λhm=>?_))
   ·refine s_vn [] 2 ⟨[(2,vi 9)],[]⟩ ?_;obtain rfl:=oi hm;refine q_rt (wS 9 ?_);exact q_rm
   ·refine q_sk (q_vv [] 2 [26,32] [(26,vi (w64 (x6+1)))] ?_);exact q_hl (DP a1 (w64 (x6+1))) (ih (w64 (x6+1)) _ hm)
  ·refine q_ex 0 ?_;obtain rfl:=oi hm;exact q_l1 ()
theorem qCS (E:Env 0) (a1:qR):∀(n:Nat) (x27:Int) (res:Int⊕Unit),yM a1 n x27=some res->HL (kx E 68 0) (nd f72 4084) (WB 2 (λo=>EP) (λv st=>RetQ Try.prog f72 (RO v) (RY v) .ret st) res) n (BM a1 x27):=by
 intro n
 induction n with
 |zero=>
  intro x27 res hm;cases hm
 |succ n ih=>
  intro x27 res hm;refine zF (s_va 1 [(57,vb (decide (x27<(a1.Rows.length:Int))))] ?_);refine q_sq (q_cq hm (λhm=>?_) (λhm=>?_))
  ·refine q_sk (q_sq ?_);refine q_bk 3 ?_;obtain⟨g29,hm⟩:=qT hm;refine s_vu [qi 0 g29] 1 [57] [(7,vp 1 0)] [] [(1,bx 26 (qO (a1.Rows.getD x27.toNat du)))] (q_jn (qDH a1 x27) (λp=>VM x27 (yM a1 n) p=some res) ?_ ?_)
   ·rintro x33 hm;refine q_cq hm (λhm=>?_) (λhm=>?_)
    ·refine s_vn [] 2 ⟨[(2,vi 19)],[]⟩ ?_;obtain rfl:=oi hm;refine q_rt (wS 19 ?_);exact q_rm
    ·refine q_sk (q_vv [] 2 [56,66] [(56,vi (w64 (x27+1)))] ?_);exact q_hl (BM a1 (w64 (x27+1))) (ih (w64 (x27+1)) _ hm)
   ·obtain⟨v30,h31,hm⟩:=qH hm;rcases bif_c hm with⟨b32,hm⟩|⟨b32,hm⟩
    ·exact q_vu [qc 1 [60] 2 (YP (a1.Rows.getD x27.toNat du) v30 h31),qf 2 b32] 2 [7] [(66,vb (!((((a1.Rows.getD x27.toNat du).A)==0)&&((((a1.Rows.getD x27.toNat du).B)==0)&&true))))] [1] [] (q_J (!((((a1.Rows.getD x27.toNat du).A)==0)&&((((a1.Rows.getD x27.toNat du).B)==0)&&true))) hm)
    ·exact q_vu [qc 1 [60] 2 (YP (a1.Rows.getD x27.toNat du) v30 h31),qf 2 b32] 2 [7] [(66,vb false)] [1] [] (q_J (false) hm)
  ·refine q_ex 2 ?_;obtain rfl:=oi hm;exact q_l1 ()
theorem OS (a1:qR) (r:Int) (hm:RA a1=some r):CtX Try.prog globs 72 0 0 [.agg (jX a1)] [] (RO r) (RY r):=by
 unfold RA at hm;refine q_E f72 68 λE=>?_;refine s_vn [] 0 ⟨[(1,vp 0 0)],[(0,bx 91 (jX a1))]⟩ (s_va 1 [(3,vi (a1.Rows.length:Int))] ?_);refine q_sq (s_va 1 [(12,vb (decide ((a1.Rows.length:Int)>120)))] ?_);refine q_cq hm (λhm=>?_) (λhm=>?_)
 ·refine s_vn [] 1 ⟨[(2,vi 4)],[]⟩ ?_;obtain rfl:=oi hm;exact q_rt q_rm
 ·refine q_sk (q_sq ?_);refine q_jn (qDF a1) (λp=>VT a1 p=some r) ?_ ?_
  ·rintro x4 hm;refine q_cq hm (λhm=>?_) (λhm=>?_)
   ·refine s_vn [] 1 ⟨[(2,vi 9)],[]⟩ ?_;obtain rfl:=oi hm;exact q_rt q_rm
   ·refine q_sk (q_sq ?_);refine s_vv [] 1 [22] [(24,vc (tl qO du a1.Rows)),(25,vi (a1.Rows.length:Int)),(26,vi 0)] ?_;obtain⟨u14,h13,hm⟩:=qH hm;refine yA (nd f72 500) 0 (by kernel_rfl) FUEL (λo=>ER a1) (λv st=>RetQ Try.prog f72 (RO v) (RY v) .ret st) u14 (q_hl (DP a1 0) (qCO E a1 FUEL 0 u14 h13)) ?_ ?_
    ·rintro v15 rfl st hr;obtain rfl:=oi hm;exact hr
    ·rintro o12 rfl;replace hm:_=some r:=hm;refine q_sq (s_va 1 [(35,vb ((a1.Rows.length:Int)==0))] ?_);refine q_cq hm (λhm=>?_) (λhm=>?_)
     ·refine q_sq (s_vn [] 1 ⟨[(38,vb (a1.Low !=0))],[]⟩ ?_);refine q_cq hm (λhm=>?_) (λhm=>?_)
      ·refine s_vn [] 1 ⟨[(2,vi 19)],[]⟩ ?_;obtain rfl:=oi hm;exact q_rt q_rm
      ·refine q_sk (s_vn [] 1 ⟨[(2,vi 0)],[]⟩ ?_);obtain rfl:=oi hm;exact q_rt q_rm
     ·refine q_sk (q_sq ?_);refine q_jn (qDy a1) (λp=>VK a1 p=some r) ?_ ?_
      ·rintro x25 hm;refine q_cq hm (λhm=>?_) (λhm=>?_)
       ·refine s_vn [] 1 ⟨[(2,vi 19)],[]⟩ ?_;obtain rfl:=oi hm;exact q_rt q_rm
       ·refine q_sk (q_sq ?_);refine s_vn [] 1 ⟨[(54,vc (tl qO du a1.Rows)),(55,vi (a1.Rows.length:Int)),(56,vi 0)],[]⟩ ?_;obtain⟨u37,h36,hm⟩:=qH hm;refine yA (nd f72 4084) 2 (by kernel_rfl) FUEL (λo=>EP) (λv st=>RetQ Try.prog f72 (RO v) (RY v) .ret st) u37 (q_hl (BM a1 0) (qCS E a1 FUEL 0 u37 h36)) ?_ ?_
        ·rintro v38 rfl st hr;obtain rfl:=oi hm;exact hr
        ·rintro o35 rfl;replace hm:_=some r:=hm;refine s_vn [] 1 ⟨[(2,vi 0)],[]⟩ ?_;obtain rfl:=oi hm;exact q_rt q_rm
      ·obtain⟨g18,hm⟩:=qT hm;obtain⟨v19,h20,hm⟩:=qH hm;rcases bif_c hm with⟨b21,hm⟩|⟨b21,hm⟩
       ·exact q_vv [qi 2 g18,qc 4 [42] 1 (YP (a1.Rows.getD (0:Int).toNat du) v19 h20),qf 5 b21] 1 [3,35] [(52,vb true)] (q_J (true) hm)
       ·obtain⟨g22,hm⟩:=qT hm;obtain⟨v23,h24,hm⟩:=qH hm;exact q_vv [qi 2 g18,qc 4 [42] 1 (YP (a1.Rows.getD (0:Int).toNat du) v19 h20),qf 5 b21,qi 10 g22,qk 12 [44,50] 1 ⟨[(44,vb false),(50,va [ci ((a1.Rows.getD (w64 ((a1.Rows.length:Int)-1)).toNat du).A),ci ((a1.Rows.getD (w64 ((a1.Rows.length:Int)-1)).toNat du).B)])],[]⟩ (YP (a1.Rows.getD (w64 ((a1.Rows.length:Int)-1)).toNat du) v23 h24)] 1 [3,35] [(52,vb v23)] (q_J (v23) hm)
  ·rcases bif_c hm with⟨b3,hm⟩|⟨b3,hm⟩
   ·exact q_vv [qf 3 b3] 1 [12] [(22,vb true)] (q_J (true) hm)
   ·exact q_vv [qf 3 b3] 1 [12] [(22,vb (decide (a1.Low>(w64 (60-(a1.Rows.length:Int))))))] (q_J (decide (a1.Low>(w64 (60-(a1.Rows.length:Int))))) hm)
open Go.Proofs Go.Proofs.Try
def AJ (r:Int):V:=vi r
def AL (r:Int):List (Nat×(Nat×O)):=[]
def qFo (a1:List qG) (x4:Int) (x5:Int) (x13:Bool):St:=
 ⟨[(3,vi x4),(5,vp 0 0),(13,vc (tl qF du a1)),(14,vi (a1.length:Int)),(15,vi x5),(39,vb x13)],[(0,bx 93 (qF (a1.getD x5.toNat du)))]⟩
def LQ (a1:List qG) (x4:Int) (x5:Int):St:=
 ⟨[(3,vi x4),(13,vc (tl qF du a1)),(14,vi (a1.length:Int)),(15,vi x5)],[]⟩
def OU :St:=
 ⟨[],[]⟩
theorem qEy (E:Env 0) (a1:List qG):∀(n:Nat) (x4:Int) (x5:Int) (res:Int⊕Unit),QO a1 n x4 x5=some res->HL (kx E 45 0) (nd f49 500) (WB 0 (λo=>OU) (λv st=>RetQ Try.prog f49 (AJ v) (AL v) .ret st) res) n (LQ a1 x4 x5):=by
 intro n
 induction n with
 |zero=>
  intro x4 x5 res hm;cases hm
 |succ n ih=>
  intro x4 x5 res hm;refine zF (s_va 0 [(16,vb (decide (x5<(a1.length:Int))))] ?_);refine q_sq (q_cq hm (λhm=>?_) (λhm=>?_))
  ·refine q_sk (q_sq ?_);refine q_bk 1 ?_;obtain⟨g7,hm⟩:=qT hm;refine s_vu [qi 0 g7] 0 [16] [(5,vp 0 0)] [] [(0,bx 93 (qF (a1.getD x5.toNat du)))] (q_sq ?_);obtain⟨v8,h9,hm⟩:=qH hm;refine s_vv [qc 2 [20] 1 (OS ((a1.getD x5.toNat du).Sec) v8 h9)] 1 [] [(6,vi v8)] (s_va 1 [(23,vb (v8 !=0))] ?_);refine q_cq hm (λhm=>?_) (λhm=>?_)
   ·refine s_vn [] 1 ⟨[(2,vi v8)],[]⟩ ?_;obtain rfl:=oi hm;refine q_rt (wS v8 ?_);exact q_rm
   ·refine q_sk (q_sq ?_);refine s_vv [] 1 [6,23] [(29,vb ((((((a1.getD x5.toNat du).Sec).Rows).length:Nat):Int)==0))] (q_cq hm (λhm=>?_) (λhm=>?_))
    ·refine s_vn [] 1 ⟨[(2,vi 18)],[]⟩ ?_;obtain rfl:=oi hm;refine q_rt (wS 18 ?_);exact q_rm
    ·refine q_sk (q_sq ?_);refine q_jn (qFo a1 x4 x5) (λp=>NO a1 x4 x5 (QO a1 n) p=some res) ?_ ?_
     ·rintro x13 hm;refine q_cq hm (λhm=>?_) (λhm=>?_)
      ·refine s_vn [] 1 ⟨[(2,vi 9)],[]⟩ ?_;obtain rfl:=oi hm;refine q_rt (wS 9 ?_);exact q_rm
      ·refine q_sk (q_vu [] 1 [3,5,39] [(3,vi (w64 (x4+((a1.getD x5.toNat du).Len))))] [0] [] ?_);exact q_vv [] 1 [15] [(15,vi (w64 (x5+1)))] (q_hl (LQ a1 (w64 (x4+((a1.getD x5.toNat du).Len))) (w64 (x5+1))) (ih (w64 (x4+((a1.getD x5.toNat du).Len))) (w64 (x5+1)) _ hm))
     ·rcases bif_c hm with⟨b12,hm⟩|⟨b12,hm⟩
      ·exact q_vv [qf 3 b12] 1 [29] [(39,vb true)] (q_J (true) hm)
      ·exact q_vv [qf 3 b12] 1 [29] [(39,vb (decide (((a1.getD x5.toNat du).Len)>(w64 (20000-x4)))))] (q_J (decide (((a1.getD x5.toNat du).Len)>(w64 (20000-x4)))) hm)
  ·refine q_ex 0 ?_;obtain rfl:=oi hm;exact q_l1 ()
theorem JY (a1:List qG) (r:Int) (hm:KB a1=some r):CtX Try.prog globs 49 0 0 [.one (tl qF du a1)] [] (AJ r) (AL r):=by
 unfold KB at hm;refine q_E f49 45 λE=>?_;refine s_vn [] 0 ⟨[(0,vc (tl qF du a1))],[]⟩ (q_sq ?_);refine s_va 0 [(9,vb ((a1.length:Int)==0))] (q_cq hm (λhm=>?_) (λhm=>?_))
 ·refine s_vn [] 0 ⟨[(2,vi 3)],[]⟩ ?_;obtain rfl:=oi hm;exact q_rt q_rm
 ·refine q_sk (q_sq ?_);refine s_vv [] 0 [9] [(12,vb (decide ((a1.length:Int)>24)))] (q_cq hm (λhm=>?_) (λhm=>?_))
  ·refine s_vn [] 0 ⟨[(2,vi 4)],[]⟩ ?_;obtain rfl:=oi hm;exact q_rt q_rm
  ·refine q_sk (s_vv [] 0 [12] [(3,vi 0)] ?_);refine q_sq (s_vv [] 0 [0] [(13,vc (tl qF du a1)),(14,vi (a1.length:Int)),(15,vi 0)] ?_);obtain⟨u17,h16,hm⟩:=qH hm;refine yA (nd f49 500) 0 (by kernel_rfl) FUEL (λo=>OU) (λv st=>RetQ Try.prog f49 (AJ v) (AL v) .ret st) u17 (q_hl (LQ a1 0 0) (qEy E a1 FUEL 0 0 u17 h16)) ?_ ?_
   ·rintro v18 rfl st hr;obtain rfl:=oi hm;exact hr
   ·rintro o15 rfl;replace hm:_=some r:=hm;refine s_vn [] 0 ⟨[(2,vi 0)],[]⟩ ?_;obtain rfl:=oi hm;exact q_rt q_rm
def qJl (r:(List qG)):V:=vc (tl qF du r)
def qI2 (r:(List qG)):List (Nat×(Nat×O)):=[]
theorem SE (a1:List qG) (r:(List qG)) (hm:TE a1=some r):CtX Try.prog globs 29 0 0 [.one (tl qF du a1)] [] (qJl r) (qI2 r):=by
 unfold TE at hm;refine q_E f29 7 λE=>?_;refine s_vn [] 0 ⟨[(0,vc (tl qF du a1))],[]⟩ (q_sq ?_);obtain⟨v2,h3,hm⟩:=qH hm;refine s_vv [qc 1 [3] 0 (JY a1 v2 h3)] 0 [] [(5,vb (v2 !=0))] (q_cq hm (λhm=>?_) (λhm=>?_))
 ·refine s_vn [] 0 ⟨[(2,vc (.emp))],[]⟩ (q_fn [.own 2 0 93 3 (rf qF [])] ⟨[(2,vo 0 0 3 0)],[(0,ro 0 93 3 0 (rf qF []))]⟩ o0 ?_);refine q_fn [.len 0 (([]:List qG).length),.frz 0] ⟨[(2,vc (tl qF du ([]:List qG)))],[]⟩ (o1 (And.intro (And.intro (show 0=([]:List qG).length from rfl) (show 0=([]:List qG).length from rfl)) (kf (([]:List qG).length)))) ?_;obtain rfl:=oi hm;exact q_rt q_rm
 ·refine q_sk (s_vn [] 0 ⟨[(2,vc (tl qF du a1))],[]⟩ ?_);obtain rfl:=oi hm;exact q_rt q_rm
def qHs (r:Int):V:=vi r
def qHC (r:Int):List (Nat×(Nat×O)):=[]
def FN (v2:(List qG)) (x4:Int) (x5:Int):St:=
 ⟨[(3,vi x4),(7,vc (tl qF du v2)),(8,vi (v2.length:Int)),(9,vi x5)],[]⟩
def IB (x8:Int):St:=
 ⟨[(3,vi x8)],[]⟩
theorem qDc (E:Env 0) (v2:(List qG)):∀(n:Nat) (x4:Int) (x5:Int) (res:Int),WK v2 n x4 x5=some res->HL (kx E 19 0) (nd f37 116) (jL 0 IB res) n (FN v2 x4 x5):=by
 intro n
 induction n with
 |zero=>
  intro x4 x5 res hm;cases hm
 |succ n ih=>
  intro x4 x5 res hm;refine zF (s_va 0 [(10,vb (decide (x5<(v2.length:Int))))] ?_);refine q_sq (q_cq hm (λhm=>?_) (λhm=>?_))
  ·refine q_sk (q_sq ?_);refine q_bk 1 ?_;obtain⟨g7,hm⟩:=qT hm;refine s_vu [qi 0 g7] 0 [10] [(5,vp 0 0)] [] [(0,bx 93 (qF (v2.getD x5.toNat du)))] (q_vu [] 1 [3,5] [(3,vi (w64 (x4+((v2.getD x5.toNat du).Len))))] [0] [] ?_);exact q_vv [] 1 [9] [(9,vi (w64 (x5+1)))] (q_hl (FN v2 (w64 (x4+((v2.getD x5.toNat du).Len))) (w64 (x5+1))) (ih (w64 (x4+((v2.getD x5.toNat du).Len))) (w64 (x5+1)) _ hm))
  ·refine q_ex 0 ?_;obtain rfl:=oi hm;exact q_l0
theorem HE (a1:List qG) (r:Int) (hm:KZ a1=some r):CtX Try.prog globs 37 0 0 [.one (tl qF du a1)] [] (qHs r) (qHC r):=by
 unfold KZ at hm;refine q_E f37 19 λE=>?_;refine s_vn [] 0 ⟨[(0,vc (tl qF du a1))],[]⟩ (s_va 0 [(3,vi 0)] ?_);refine q_sq ?_;obtain⟨v2,h3,hm⟩:=qH hm;refine s_vv [qc 1 [6] 0 (SE a1 v2 h3)] 0 [0] [(7,vc (tl qF du v2)),(8,vi (v2.length:Int)),(9,vi 0)] ?_;obtain⟨o9,h10,hm⟩:=qH hm;refine jC (nd f37 116) 0 (by kernel_rfl) FUEL IB o9 (q_hl (FN v2 0 0) (qDc E v2 FUEL 0 0 o9 h10)) (s_vn [] 0 ⟨[(2,vi o9)],[]⟩ ?_);obtain rfl:=oi hm;exact q_rt q_rm
open Go.Proofs Go.Proofs.Try
def qEi (r:Span):V:=va (qO r)
def qEq (r:Span):List (Nat×(Nat×O)):=[]
theorem qDK (a1:Int) (a2:Int) (r:Span) (hm:RS a1 a2=some r):CtX Try.prog globs 53 0 0 [.one (ci a1),.one (ci a2)] [] (qEi r) (qEq r):=by
 unfold RS at hm;refine q_E f53 10 λE=>?_;refine s_vn [] 0 ⟨[(0,vi a1),(1,vi a2),(4,vp 0 0)],[(0,bx 26 [ci 0,ci 0])]⟩ (s_vu [] 1 [0,1] [] [0] [(0,bx 26 [ci (w64 (10*a1)),ci (w64 (10*a2))])] ?_);obtain rfl:=oi hm;exact q_rt q_rm
def qLj (r:Int):V:=vc (.val (.int .u64 r))
def qLe (r:Int):List (Nat×(Nat×O)):=[]
theorem qJV (a1:Span) (r:Int) (hm:qAC a1=some r):CtX Try.prog globs 52 0 0 [.agg (qO a1)] [] (qLj r) (qLe r):=by
 unfold qAC at hm;refine q_E f52 15 λE=>?_;refine s_vn [] 0 ⟨[(1,vp 0 0)],[(0,bx 26 (qO a1))]⟩ (q_sq ?_);refine s_va 1 [(7,vb (decide (a1.A≥a1.B)))] (q_cq hm (λhm=>?_) (λhm=>?_))
 ·refine s_vn [] 1 ⟨[(2,vc (.val (.int .u64 0)))],[]⟩ ?_;obtain rfl:=oi hm;exact q_rt q_rm
 ·refine q_sk (s_vn [] 1 ⟨[(2,vc (.val (.int .u64 (IntKind.u64.wrap ((IntKind.u64.wrap (a1.B))-(IntKind.u64.wrap (a1.A)))))))],[]⟩ ?_);obtain rfl:=oi hm;exact q_rt q_rm
def qHR (r:Int):V:=vi r
def qHl (r:Int):List (Nat×(Nat×O)):=[]
theorem qF3 (a1:Int) (r:Int) (hm:MX a1=some r):CtX Try.prog globs 51 0 0 [.one (.val (.int .u64 a1))] [] (qHR r) (qHl r):=by
 unfold MX at hm;refine q_E f51 6 λE=>?_;refine s_vn [] 0 ⟨[(0,vc (.val (.int .u64 a1)))],[]⟩ (s_vn [] 0 ⟨[(2,vi (w64 (imin a1 9223372036854775807)))],[]⟩ ?_);obtain rfl:=oi hm;exact q_rt q_rm
open Go.Proofs Go.Proofs.Try
def qL2 (r:Int):V:=vi r
def qMl (r:Int):List (Nat×(Nat×O)):=[]
theorem GS (a1:Span) (r:Int) (hm:XL a1=some r):CtX Try.prog globs 32 0 0 [.agg (qO a1)] [] (qL2 r) (qMl r):=by
 unfold XL at hm;refine q_E f32 6 λE=>?_;refine s_vn [] 0 ⟨[(1,vp 0 0)],[(0,bx 26 (qO a1))]⟩ ?_;obtain⟨v2,h3,hm⟩:=qH hm;obtain⟨v4,h5,hm⟩:=qH hm;refine s_vn [qc 1 [3] 1 (qJV a1 v2 h3),qc 2 [4] 1 (qF3 v2 v4 h5)] 1 ⟨[(2,vi v4)],[]⟩ ?_;obtain rfl:=oi hm;exact q_rt q_rm
def qGU (r:qR):V:=va (jX r)
def qF2 (r:qR):List (Nat×(Nat×O)):=[]
theorem OK (a1:qR) (r:qR) (hm:PV a1=some r):CtX Try.prog globs 50 0 0 [.agg (jX a1)] [] (qGU r) (qF2 r):=by
 unfold PV at hm;refine q_E f50 8 λE=>?_;refine s_vn [] 0 ⟨[(1,vp 0 0),(2,vp 1 0)],[(0,bx 91 (jX a1)),(1,bx 91 [ci 0,.emp])]⟩ (q_sq ?_);obtain⟨v2,h3,hm⟩:=qH hm;refine s_vv [qc 1 [3] 2 (OS a1 v2 h3)] 2 [] [(5,vb (v2 !=0))] (q_cq hm (λhm=>?_) (λhm=>?_))
 ·refine s_vu [] 2 [1,5] [] [0] [] (q_fu [.ownB 1 1 2 26 2 (rf qO [])] [] [] [1] [(1,bx 91 [ci 0,.own 2 0 2 0]),(2,ro 0 26 2 0 (rf qO []))] o0 ?_);refine q_fu [.len 2 (([]:List Span).length),.frz 2] [] [] [1,2] [(1,bx 91 [ci 0,tl qO du ([]:List Span)])] (o1 (And.intro (And.intro (show 0=([]:List Span).length from rfl) (show 0=([]:List Span).length from rfl)) (kf (([]:List Span).length)))) ?_;obtain rfl:=oi hm;exact q_rt q_rm
 ·refine q_sk (s_vn [] 2 ⟨[(2,vp 1 0)],[(1,bx 91 (jX a1))]⟩ ?_);obtain rfl:=oi hm;exact q_rt q_rm
def qFH (r:Int):V:=vi r
def qEV (r:Int):List (Nat×(Nat×O)):=[]
def GW (a2:Rect) (v3:qR) (x5:Int) (x6:Int):St:=
 ⟨[(2,vp 0 0),(3,vp 1 0),(5,vi x5),(12,vc (tl qO du v3.Rows)),(13,vi (v3.Rows.length:Int)),(14,vi x6)],[(0,bx 91 (jX v3)),(1,bx 28 (qK a2))]⟩
def HS (x19:Int):St:=
 ⟨[(5,vi x19)],[]⟩
theorem qB6 (E:Env 0) (a2:Rect) (v3:qR):∀(n:Nat) (x5:Int) (x6:Int) (res:Int),WW a2 v3 n x5 x6=some res->HL (kx E 44 0) (nd f34 244) (jL 0 HS res) n (GW a2 v3 x5 x6):=by
 intro n
 induction n with
 |zero=>
  intro x5 x6 res hm;cases hm
 |succ n ih=>
  intro x5 x6 res hm;refine zF (s_va 2 [(15,vb (decide (x6<(v3.Rows.length:Int))))] ?_);refine q_sq (q_cq hm (λhm=>?_) (λhm=>?_))
  ·refine q_sk (q_sq ?_);refine q_bk 1 ?_;obtain⟨g8,hm⟩:=qT hm;refine s_vu [qi 1 g8] 2 [15] [(6,vi x6),(7,vp 2 0)] [] [(2,bx 26 (qO (v3.Rows.getD x6.toNat du)))] ?_;obtain⟨v9,h10,hm⟩:=qH hm;refine s_vu [qc 9 [22,27] 3 (qDK (w64 (v3.Low+x6)) (w64 ((w64 (v3.Low+x6))+1)) v9 h10)] 3 [6] [(8,vp 3 0)] [] [(3,bx 26 (qO v9))] ?_;obtain⟨v11,h12,hm⟩:=qH hm;obtain⟨v13,h14,hm⟩:=qH hm;obtain⟨v15,h16,hm⟩:=qH hm;obtain⟨v17,h18,hm⟩:=qH hm
   refine q_du [qc 4 [30,32] 4 (UI (v3.Rows.getD x6.toNat du) a2.X v11 h12),qc 5 [33] 4 (GS v11 v13 h14),qc 9 [35,37] 4 (UI v9 a2.Y v15 h16),qc 10 [38] 4 (GS v15 v17 h18)] [0,0,0,4,14,30,0,0,128,510,1022,2046,4095,8191] 4 [5,7,8] [(5,vi (w64 (x5+(w64 (v13*v17)))))] [2,3] [] (q_vv [] 4 [14] [(14,vi (w64 (x6+1)))] ?_);exact q_hl (GW a2 v3 (w64 (x5+(w64 (v13*v17)))) (w64 (x6+1))) (ih (w64 (x5+(w64 (v13*v17)))) (w64 (x6+1)) _ hm)
  ·refine q_ex 0 ?_;obtain rfl:=oi hm;exact q_l0
theorem AU (a1:qR) (a2:Rect) (r:Int) (hm:KH a1 a2=some r):CtX Try.prog globs 34 0 0 [.agg (jX a1),.agg (qK a2)] [] (qFH r) (qEV r):=by
 unfold KH at hm;refine q_E f34 44 λE=>?_;refine s_vn [] 0 ⟨[(2,vp 0 0),(3,vp 1 0)],[(0,bx 91 (jX a1)),(1,bx 28 (qK a2))]⟩ ?_;obtain⟨v3,h4,hm⟩:=qH hm;refine s_vu [qc 1 [9] 2 (OK a1 v3 h4)] 2 [] [] [0] [(0,bx 91 (jX v3))] (s_va 2 [(5,vi 0)] ?_);refine q_sq (s_va 2 [(12,vc (tl qO du v3.Rows)),(13,vi (v3.Rows.length:Int)),(14,vi 0)] ?_);obtain⟨o20,h21,hm⟩:=qH hm;refine jC (nd f34 244) 0 (by kernel_rfl) FUEL HS o20 (q_hl (GW a2 v3 0 0) (qB6 E a2 v3 FUEL 0 0 o20 h21)) (s_vn [] 2 ⟨[(4,vi o20)],[]⟩ ?_);obtain rfl:=oi hm;exact q_rt q_rm
end Saw
end Go.SL

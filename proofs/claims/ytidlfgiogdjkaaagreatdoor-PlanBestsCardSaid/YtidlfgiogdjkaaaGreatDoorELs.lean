import Derived.Test.YtidlfgiogdjkaaaGreatDoorEBase
import Derived.Test.YtidlfgiogdjkaaaGreatDoorEFa1
import Derived.Test.YtidlfgiogdjkaaaGreatDoorEFa7
set_option linter.unusedVariables false
set_option linter.unusedSimpArgs false
namespace Go.SL
namespace Saw
open Go.Proofs Go.Proofs.Tryz
set_option maxHeartbeats 4000000
set_option maxRecDepth 100000
def qV8 (r:Int):V:=vi r
def qV1 (r:Int):List (Nat×(Nat×O)):=[]
def qPR (a1:Span) (a2:Int) (x5:Bool):St:=
 ⟨[(1,vi a2),(2,vp 0 0),(16,vb x5)],[(0,bx 31 (qG a1))]⟩
theorem qJd (a1:Span) (a2:Int) (r:Int) (hm:AV a1 a2=some r):CtX Tryz.prog globs 40 0 0 [.agg (qG a1),.one (ci a2)] [] (qV8 r) (qV1 r):=by
 unfold AV at hm;refine q_E f40 25 λE=>?_;refine s_vn [] 0 ⟨[(1,vi a2),(2,vp 0 0)],[(0,bx 31 (qG a1))]⟩ (q_sq ?_);refine q_jn (qPR a1 a2) (λp=>FF a1 a2 p=some r) ?_ ?_
 ·rintro x5 hm;refine q_cq hm (λhm=>?_) (λhm=>?_)
  ·refine s_vn [] 1 ⟨[(4,vi 1)],[]⟩ ?_;obtain rfl:=oi hm;exact q_rt q_rm
  ·refine q_sk ?_;obtain⟨g7,hm⟩:=qI hm;refine s_vn [qd 6 dN (AP g7)] 1 ⟨[(4,vi (w64 ((w64 (Int.tdiv (w64 (a1.B-a1.A)) a2))+1)))],[]⟩ ?_;obtain rfl:=oi hm;exact q_rt q_rm
 ·rcases bif_c hm with⟨b3,hm⟩|⟨b3,hm⟩
  ·exact q_vv [qf 3 b3] 1 [] [(16,vb true)] (q_J (true) hm)
  ·rcases bif_c hm with⟨b4,hm⟩|⟨b4,hm⟩
   ·exact q_vv [qf 3 b3,qf 8 b4] 1 [] [(16,vb true)] (q_J (true) hm)
   ·exact q_vv [qf 3 b3,qf 8 b4] 1 [] [(16,vb (decide (a2<1)))] (q_J (decide (a2<1)) hm)
def qDU (r:Bool):V:=vb r
def qDB (r:Bool):List (Nat×(Nat×O)):=[]
def qAx (a1:List qC) (x3:Int):St:=
 ⟨[(0,vc (tl qL du a1)),(3,vi x3)],[]⟩
def qFC :St:=
 ⟨[],[]⟩
theorem qMa (E:Env 0) (a1:List qC):∀(n:Nat) (x3:Int) (res:Bool⊕Unit),RM a1 n x3=some res->HL (kx E 21 0) (nd f11 116) (wN 0 (λo=>qFC) (λv st=>RetQ Tryz.prog f11 (qDU v) (qDB v) .ret st) res) n (qAx a1 x3):=by
 intro n
 induction n with
 |zero=>
  intro x3 res hm;cases hm
 |succ n ih=>
  intro x3 res hm;refine qT (q_sq ?_);refine s_va 0 [(10,vb (decide (x3<(a1.length:Int))))] (q_cq hm (λhm=>?_) (λhm=>?_))
  ·refine q_sk (q_sq ?_);refine q_bk 1 ?_;obtain⟨g5,hm⟩:=qI hm;refine s_vv [qi 2 g5] 0 [10] [(20,vb (decide ((((((a1.getD x3.toNat du).Sec).Rows).length:Nat):Int)>130)))] (q_cq hm (λhm=>?_) (λhm=>?_))
   ·refine s_vn [] 0 ⟨[(2,vb false)],[]⟩ ?_;obtain rfl:=oi hm;refine q_rt (zG false ?_);exact q_rm
   ·refine q_sk (q_vv [] 0 [3,20] [(3,vi (w64 (x3+1)))] ?_);exact q_hl (qAx a1 (w64 (x3+1))) (ih (w64 (x3+1)) _ hm)
  ·refine q_ex 0 ?_;obtain rfl:=oi hm;exact q_l1 ()
theorem AQ (a1:List qC) (r:Bool) (hm:OH a1=some r):CtX Tryz.prog globs 11 0 0 [.one (tl qL du a1)] [] (qDU r) (qDB r):=by
 unfold OH at hm;refine q_E f11 21 λE=>?_;refine s_vn [] 0 ⟨[(0,vc (tl qL du a1))],[]⟩ (q_sq ?_);refine s_va 0 [(6,vb (decide ((a1.length:Int)>30)))] (q_cq hm (λhm=>?_) (λhm=>?_))
 ·refine s_vn [] 0 ⟨[(2,vb false)],[]⟩ ?_;obtain rfl:=oi hm;exact q_rt q_rm
 ·refine q_sk (q_sq ?_);refine s_vv [] 0 [6] [(3,vi 0)] ?_;obtain⟨u9,h8,hm⟩:=qB hm;refine zT (nd f11 116) 0 (by kernel_rfl) FUEL (λo=>qFC) (λv st=>RetQ Tryz.prog f11 (qDU v) (qDB v) .ret st) u9 (q_hl (qAx a1 0) (qMa E a1 FUEL 0 u9 h8)) ?_ ?_
  ·rintro v10 rfl st hr;obtain rfl:=oi hm;exact hr
  ·rintro o7 rfl;replace hm:_=some r:=hm;refine s_vn [] 0 ⟨[(2,vb true)],[]⟩ ?_;obtain rfl:=oi hm;exact q_rt q_rm
def qG9 (r:Bool):V:=vb r
def qG3 (r:Bool):List (Nat×(Nat×O)):=[]
def qRL (a1:List Product) (x3:Int) (x8:Bool):St:=
 ⟨[(0,vc (tl qH du a1)),(3,vi x3),(37,vb x8)],[]⟩
def qCK (a1:List Product) (x3:Int):St:=
 ⟨[(0,vc (tl qH du a1)),(3,vi x3)],[]⟩
def qHs :St:=
 ⟨[],[]⟩
theorem qQj (E:Env 0) (a1:List Product):∀(n:Nat) (x3:Int) (res:Bool⊕Unit),JF a1 n x3=some res->HL (kx E 38 0) (nd f10 116) (wN 0 (λo=>qHs) (λv st=>RetQ Tryz.prog f10 (qG9 v) (qG3 v) .ret st) res) n (qCK a1 x3):=by
 intro n
 induction n with
 |zero=>
  intro x3 res hm;cases hm
 |succ n ih=>
  intro x3 res hm;refine qT (q_sq ?_);refine s_va 0 [(10,vb (decide (x3<(a1.length:Int))))] (q_cq hm (λhm=>?_) (λhm=>?_))
  ·refine q_sk (q_sq ?_);refine q_bk 1 (q_jn (qRL a1 x3) (λp=>MQ x3 (JF a1 n) p=some res) ?_ ?_)
   ·rintro x8 hm;refine q_cq hm (λhm=>?_) (λhm=>?_)
    ·refine s_vn [] 0 ⟨[(2,vb false)],[]⟩ ?_;obtain rfl:=oi hm;refine q_rt (zG false ?_);exact q_rm
    ·refine q_sk (q_vv [] 0 [3,37] [(3,vi (w64 (x3+1)))] ?_);exact q_hl (qCK a1 (w64 (x3+1))) (ih (w64 (x3+1)) _ hm)
   ·obtain⟨g5,hm⟩:=qI hm;rcases bif_c hm with⟨b6,hm⟩|⟨b6,hm⟩
    ·exact q_vv [qi 2 g5,qf 7 b6] 0 [10] [(37,vb true)] (q_J (true) hm)
    ·rcases bif_c hm with⟨b7,hm⟩|⟨b7,hm⟩
     ·exact q_vv [qi 2 g5,qf 7 b6,qi 10 g5,qf 16 b7] 0 [10] [(37,vb true)] (q_J (true) hm)
     ·exact q_vv [qi 2 g5,qf 7 b6,qi 10 g5,qf 16 b7,qi 19 g5] 0 [10] [(37,vb (decide (((((a1.getD x3.toNat du).Prices).length:Nat):Int)>12)))] (q_J (decide (((((a1.getD x3.toNat du).Prices).length:Nat):Int)>12)) hm)
  ·refine q_ex 0 ?_;obtain rfl:=oi hm;exact q_l1 ()
theorem qK2 (a1:List Product) (r:Bool) (hm:qDq a1=some r):CtX Tryz.prog globs 10 0 0 [.one (tl qH du a1)] [] (qG9 r) (qG3 r):=by
 unfold qDq at hm;refine q_E f10 38 λE=>?_;refine s_vn [] 0 ⟨[(0,vc (tl qH du a1))],[]⟩ (q_sq ?_);refine s_va 0 [(6,vb (decide ((a1.length:Int)>20)))] (q_cq hm (λhm=>?_) (λhm=>?_))
 ·refine s_vn [] 0 ⟨[(2,vb false)],[]⟩ ?_;obtain rfl:=oi hm;exact q_rt q_rm
 ·refine q_sk (q_sq ?_);refine s_vv [] 0 [6] [(3,vi 0)] ?_;obtain⟨u12,h11,hm⟩:=qB hm;refine zT (nd f10 116) 0 (by kernel_rfl) FUEL (λo=>qHs) (λv st=>RetQ Tryz.prog f10 (qG9 v) (qG3 v) .ret st) u12 (q_hl (qCK a1 0) (qQj E a1 FUEL 0 u12 h11)) ?_ ?_
  ·rintro v13 rfl st hr;obtain rfl:=oi hm;exact hr
  ·rintro o10 rfl;replace hm:_=some r:=hm;refine s_vn [] 0 ⟨[(2,vb true)],[]⟩ ?_;obtain rfl:=oi hm;exact q_rt q_rm
open Go.Proofs Go.Proofs.Tryz
def qUp (r:Bool):V:=vb r
def qUt (r:Bool):List (Nat×(Nat×O)):=[]
def qML (a1:zB) (x15:Bool):St:=
 ⟨[(1,vp 0 0),(38,vb x15)],[(0,bx 42 (QG a1))]⟩
def qMM (a1:zB) (x9:Bool):St:=
 ⟨[(1,vp 0 0),(24,vb x9)],[(0,bx 42 (QG a1))]⟩
theorem qRj (a1:zB) (r:Bool) (hm:LA a1=some r):CtX Tryz.prog globs 18 0 0 [.agg (QG a1)] [] (qUp r) (qUt r):=by
 unfold LA at hm;refine q_E f18 55 λE=>?_;refine s_vn [] 0 ⟨[(1,vp 0 0)],[(0,bx 42 (QG a1))]⟩ (q_sq ?_);refine q_jn (qMM a1) (λp=>YR a1 p=some r) ?_ ?_
 ·rintro x9 hm;refine q_cq hm (λhm=>?_) (λhm=>?_)
  ·refine s_vn [] 1 ⟨[(2,vb false)],[]⟩ ?_;obtain rfl:=oi hm;exact q_rt q_rm
  ·refine q_sk (q_sq ?_);refine q_jn (qML a1) (λp=>DZ a1 p=some r) ?_ ?_
   ·rintro x15 hm;refine q_cq hm (λhm=>?_) (λhm=>?_)
    ·refine s_vn [] 1 ⟨[(2,vb false)],[]⟩ ?_;obtain rfl:=oi hm;exact q_rt q_rm
    ·refine q_sk ?_;obtain⟨v17,h18,hm⟩:=qB hm;obtain⟨v19,h20,hm⟩:=qB hm;refine s_dn [qc 6 [41,44] 1 (qJd a1.Frame.X a1.Saw.Pitch v17 h18),qc 13 [48,51] 1 (qJd a1.Frame.Y a1.Saw.Pitch v19 h20)] [0,1,3,0,8,24,63,0,128,384,0,1024,3072,8191,16383,32767,65535] 1 ⟨[(2,vb (decide ((w64 (v17*v19))<=300)))],[]⟩ ?_;obtain rfl:=oi hm;exact q_rt q_rm
   ·rcases bif_c hm with⟨b11,hm⟩|⟨b11,hm⟩
    ·obtain⟨v12,h13,hm⟩:=qB hm;obtain⟨g14,hm⟩:=qI hm;exact q_du [qf 4 b11,qk 7 [29,31] 1 ⟨[(29,vb true),(31,vc (tl qL du a1.Solid))],[]⟩ (VI a1.Solid v12 h13),qd 11 dN (AP g14)] [0,1,3,7,15,31,63,127,31,287,799,2047,4095,8191] 1 [24] [(38,vb (decide ((w64 (Int.tdiv v12 a1.Saw.Step))>30)))] [] [] (q_J (decide ((w64 (Int.tdiv v12 a1.Saw.Step))>30)) hm)
    ·exact q_du [qf 4 b11] [0,1,3,7,15,31,63,127,31,287,799,2047,4095,8191] 1 [24] [(38,vb false)] [] [] (q_J (false) hm)
 ·obtain⟨v2,h3,hm⟩:=qB hm;rcases bif_c hm with⟨b4,hm⟩|⟨b4,hm⟩
  ·exact q_vv [qc 2 [4] 1 (AQ a1.Solid v2 h3),qf 4 b4] 1 [] [(24,vb true)] (q_J (true) hm)
  ·rcases bif_c hm with⟨b5,hm⟩|⟨b5,hm⟩
   ·exact q_vv [qc 2 [4] 1 (AQ a1.Solid v2 h3),qf 4 b4,qf 10 b5] 1 [] [(24,vb true)] (q_J (true) hm)
   ·obtain⟨v6,h7,hm⟩:=qB hm;rcases bif_c hm with⟨b8,hm⟩|⟨b8,hm⟩
    ·exact q_vv [qc 2 [4] 1 (AQ a1.Solid v2 h3),qf 4 b4,qf 10 b5,qk 13 [13,15] 1 ⟨[(13,vb false),(15,vc (tl qH du a1.Products))],[]⟩ (qK2 a1.Products v6 h7),qf 16 b8] 1 [] [(24,vb true)] (q_J (true) hm)
    ·exact q_vv [qc 2 [4] 1 (AQ a1.Solid v2 h3),qf 4 b4,qf 10 b5,qk 13 [13,15] 1 ⟨[(13,vb false),(15,vc (tl qH du a1.Products))],[]⟩ (qK2 a1.Products v6 h7),qf 16 b8] 1 [] [(24,vb (decide ((a1.Products.length:Int)>4)))] (q_J (decide ((a1.Products.length:Int)>4)) hm)
def qFh (r:qN×Int×Int):V:= .tup [.agg [ci r.1.Frame.X.A,ci r.1.Frame.X.B,ci r.1.Frame.Y.A,ci r.1.Frame.Y.B,.own 0 0 2 r.1.Nodes.length],.one (ci r.2.1),.one (ci r.2.2)]
def SQ (r:qN×Int×Int):List (Nat×(Nat×O)):=[(0,ro 0 65 2 r.1.Nodes.length (rf qE r.1.Nodes))]
theorem qKU (r:qN×Int×Int):jS (SQ r):=by
 intro i k o h;unfold SQ at h;rw[look_cons] at h;split at h
 ·cases h;exact λ_ _=>rfl
 ·cases h
theorem qDR (a1:zB) (r:qN×Int×Int) (hm:WO a1=some r):CtX Tryz.prog globs 19 0 0 [.agg (QG a1)] [] (qFh r) (SQ r):=by
 unfold WO at hm;refine q_E f19 21 λE=>?_;refine s_vn [] 0 ⟨[(1,vp 0 0),(2,vp 1 0)],[(0,bx 42 (QG a1)),(1,bx 46 [ci 0,ci 0,ci 0,ci 0,.emp])]⟩ ?_;obtain⟨v2,h3,hm⟩:=qB hm;refine s_vu [qc 12 [6,8,10,12,14,16] 2 (qWU a1.Solid a1.Defects a1.Products a1.Frame a1.Saw a1.Rates v2 h3)] 2 [1] [(3,vi v2.2.1),(4,vi v2.2.2)] [0,1] [(1,bx 46 [ci v2.1.Frame.X.A,ci v2.1.Frame.X.B,ci v2.1.Frame.Y.A,ci v2.1.Frame.Y.B,.own 2 0 2 v2.1.Nodes.length]),(2,ro 0 65 2 v2.1.Nodes.length (rf qE v2.1.Nodes))] ?_;obtain rfl:=oi hm;exact q_sw 2 0 (q_rt q_rm)
def RR (r:Bool):V:=vb r
def JM (r:Bool):List (Nat×(Nat×O)):=[]
theorem qBH (r:Bool):jS (JM r):=by
 intro i k o h;unfold JM at h;cases h
def qBR (a1:qN) (a2:qN) (x6:Int):St:=
 ⟨[(2,vp 0 0),(3,vp 1 0),(5,vi x6)],[(0,bx 46 (JS a1)),(1,bx 46 (JS a2))]⟩
def qGq :St:=
 ⟨[],[]⟩
def qPN (a1:qN) (a2:qN) (x4:Bool):St:=
 ⟨[(2,vp 0 0),(3,vp 1 0),(19,vb x4)],[(0,bx 46 (JS a1)),(1,bx 46 (JS a2))]⟩
theorem qNv (E:Env 0) (a1:qN) (a2:qN):∀(n:Nat) (x6:Int) (res:Bool⊕Unit),UD a1 a2 n x6=some res->HL (kx E 38 0) (nd f21 116) (wN 0 (λo=>qGq) (λv st=>RetQ Tryz.prog f21 (RR v) (JM v) .ret st) res) n (qBR a1 a2 x6):=by
 intro n
 induction n with
 |zero=>
  intro x6 res hm;cases hm
 |succ n ih=>
  intro x6 res hm;refine qT (q_sq ?_);refine s_va 2 [(24,vb (decide (x6<(a1.Nodes.length:Int))))] (q_cq hm (λhm=>?_) (λhm=>?_))
  ·refine q_sk (q_sq ?_);refine q_bk 1 ?_;obtain⟨g8,hm⟩:=qI hm;obtain⟨g9,hm⟩:=qI hm;refine s_du [qi 3 g8,qi 8 g9] [0,1,0,7,15,0,32,0,224,480,1023] 2 [24] [(37,vb (!((((a1.Nodes.getD x6.toNat du).Kind)==((a2.Nodes.getD x6.toNat du).Kind))&&((((a1.Nodes.getD x6.toNat du).At)==((a2.Nodes.getD x6.toNat du).At))&&true))))] [] [] (q_cq hm (λhm=>?_) (λhm=>?_))
   ·refine s_vn [] 2 ⟨[(4,vb false)],[]⟩ ?_;obtain rfl:=oi hm;refine q_rt (zG false ?_);exact q_rm
   ·refine q_sk (q_vv [] 2 [5,37] [(5,vi (w64 (x6+1)))] ?_);exact q_hl (qBR a1 a2 (w64 (x6+1))) (ih (w64 (x6+1)) _ hm)
  ·refine q_ex 0 ?_;obtain rfl:=oi hm;exact q_l1 ()
theorem CB (a1:qN) (a2:qN) (r:Bool) (hm:EA a1 a2=some r):CtX Tryz.prog globs 21 0 0 [.agg (JS a1),.agg (JS a2)] [] (RR r) (JM r):=by
 unfold EA at hm;refine q_E f21 38 λE=>?_;refine s_vn [] 0 ⟨[(2,vp 0 0),(3,vp 1 0)],[(0,bx 46 (JS a1)),(1,bx 46 (JS a2))]⟩ (q_sq ?_);refine q_jn (qPN a1 a2) (λp=>CA a1 a2 p=some r) ?_ ?_
 ·rintro x4 hm;refine q_cq hm (λhm=>?_) (λhm=>?_)
  ·refine s_vn [] 2 ⟨[(4,vb false)],[]⟩ ?_;obtain rfl:=oi hm;exact q_rt q_rm
  ·refine q_sk (q_sq ?_);refine s_vv [] 2 [19] [(5,vi 0)] ?_;obtain⟨u13,h12,hm⟩:=qB hm;refine zT (nd f21 116) 0 (by kernel_rfl) FUEL (λo=>qGq) (λv st=>RetQ Tryz.prog f21 (RR v) (JM v) .ret st) u13 (q_hl (qBR a1 a2 0) (qNv E a1 a2 FUEL 0 u13 h12)) ?_ ?_
   ·rintro v14 rfl st hr;obtain rfl:=oi hm;exact hr
   ·rintro o11 rfl;replace hm:_=some r:=hm;refine s_vn [] 2 ⟨[(4,vb true)],[]⟩ ?_;obtain rfl:=oi hm;exact q_rt q_rm
 ·rcases bif_c hm with⟨b3,hm⟩|⟨b3,hm⟩
  ·exact q_vv [qf 5 b3] 2 [] [(19,vb true)] (q_J (true) hm)
  ·exact q_vv [qf 5 b3] 2 [] [(19,vb ((a1.Nodes.length:Int) !=(a2.Nodes.length:Int)))] (q_J ((a1.Nodes.length:Int) !=(a2.Nodes.length:Int)) hm)
end Saw
end Go.SL

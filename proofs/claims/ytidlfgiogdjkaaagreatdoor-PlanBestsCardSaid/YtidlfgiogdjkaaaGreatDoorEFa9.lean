import Derived.Test.YtidlfgiogdjkaaaGreatDoorEBase
import Derived.Test.YtidlfgiogdjkaaaGreatDoorEFa8
import Derived.Test.YtidlfgiogdjkaaaGreatDoorEFa7
import Derived.Test.YtidlfgiogdjkaaaGreatDoorEFa2
set_option linter.unusedVariables false
set_option linter.unusedSimpArgs false
namespace Go.SL
namespace Saw
open Go.Proofs Go.Proofs.Tryz
set_option maxHeartbeats 4000000
set_option maxRecDepth 100000
def CD (r:Bool):V:=vb r
def TU (r:Bool):List (Nat×(Nat×O)):=[]
theorem qUa (r:Bool):jS (TU r):=by
 intro i k o h;unfold TU at h;cases h
def qDb (a1:qN) (a2:List Product) (a3:Saw) (v14:(List Span)×(List (List Node))×Bool) (v17:(List Int)) (x19:Int):St:=
 ⟨[(1,vc (tl qH du a2)),(3,vp 0 0),(5,vp 1 0),(8,vo 3 0 1 v14.2.1.length),(10,vo 4 0 1 v17.length),(43,vo 2 0 2 v14.1.length),(44,vi (v14.1.length:Int)),(45,vi x19)],[(0,bx 46 (JS a1)),(1,bx 38 (zW a3)),(2,ro 0 31 2 v14.1.length (rf qG v14.1)),(3,ro 0 44 1 v14.2.1.length (rf (qM qE) v14.2.1)),(4,ro 0 3 1 v17.length (rf qA v17))]⟩
def qNI (a1:qN) (a2:List Product) (a3:Saw) (v14:(List Span)×(List (List Node))×Bool) (v17:(List Int)) (x19:Int) (x26:Bool):St:=
 (qDb a1 a2 a3 v14 v17 x19).up [] [(11,vi x19),(12,vp 5 0),(70,vb x26)] [] [(5,bx 31 (qG (v14.1.getD x19.toNat du)))]
def qAb (a1:qN) (a2:List Product) (a3:Saw) (v14:(List Span)×(List (List Node))×Bool) (v17:(List Int)) (x19:Int):St:=
 (qDb a1 a2 a3 v14 v17 x19).up [] [] [] []
def qFk :St:=
 ⟨[],[]⟩
def qNP (a1:qN) (a2:List Product) (a3:Saw) (x12:Bool):St:=
 ⟨[(1,vc (tl qH du a2)),(3,vp 0 0),(5,vp 1 0),(27,vb x12)],[(0,bx 46 (JS a1)),(1,bx 38 (zW a3))]⟩
theorem qL7 (E:Env 0) (a1:qN) (a2:List Product) (a3:Saw) (v14:(List Span)×(List (List Node))×Bool) (v17:(List Int)):∀(n:Nat) (x19:Int) (res:Bool⊕Unit),DL a1 a2 a3 v14 v17 n x19=some res->HL (kx E 85 0) (nd f22 1012) (wN 0 (λo=>qFk) (λv st=>RetQ Tryz.prog f22 (CD v) (TU v) .ret st) res) n (qAb a1 a2 a3 v14 v17 x19):=by
 intro n
 induction n with
 |zero=>
  intro x19 res hm;cases hm
 |succ n ih=>
  intro x19 res hm;refine qT (s_va 5 [(46,vb (decide (x19<(v14.1.length:Int))))] ?_);refine q_sq (q_cq hm (λhm=>?_) (λhm=>?_))
  ·refine q_sk (q_sq ?_);refine q_bk 1 ?_;obtain⟨g21,hm⟩:=qI hm;refine s_vu [qi 1 g21,qd 2 dN (qV (zC g21))] 5 [46] [(11,vi x19),(12,vp 5 0)] [] [(5,bx 31 (qG (v14.1.getD x19.toNat du)))] (q_sq ?_);refine q_jn (qNI a1 a2 a3 v14 v17 x19) (λp=>qCl a1 a2 a3 v14 x19 (DL a1 a2 a3 v14 v17 n) p=some res) ?_ ?_
   ·rintro x26 hm;refine q_cq hm (λhm=>?_) (λhm=>?_)
    ·refine s_vn [] 6 ⟨[(6,vb false)],[]⟩ ?_;obtain rfl:=oi hm;refine q_rt (zG false ?_);exact q_rm
    ·refine q_sk ?_;obtain⟨g28,hm⟩:=qI hm;obtain⟨v29,h30,hm⟩:=qB hm;refine s_du [qi 9 g28,qd 10 dN (qV (zC g28)),qc 11 [75,76,77,81] 6 (qPD (Rect.mk a1.Frame.X (v14.1.getD x19.toNat du)) a2 a3 (v14.2.1.getD x19.toNat du) v29 h30)] [0,1,3,0,15,0,0,0,0,384,896,2047,4095] 6 [11,12,70] [(83,vb (!v29))] [5] [] (q_cq hm (λhm=>?_) (λhm=>?_))
     ·refine s_vn [] 6 ⟨[(6,vb false)],[]⟩ ?_;obtain rfl:=oi hm;refine q_rt (zG false ?_);exact q_rm
     ·refine q_sk (q_vv [] 6 [45,83] [(45,vi (w64 (x19+1)))] ?_);exact q_hl (qAb a1 a2 a3 v14 v17 (w64 (x19+1))) (ih (w64 (x19+1)) _ hm)
   ·obtain⟨g22,hm⟩:=qI hm;rcases bif_c hm with⟨b23,hm⟩|⟨b23,hm⟩
    ·exact q_vv [qd 9 dN (AP g22),qf 11 b23] 6 [] [(70,vb true)] (q_J (true) hm)
    ·obtain⟨v24,h25,hm⟩:=qB hm;exact q_vv [qd 9 dN (AP g22),qf 11 b23,qd 18 (dex (cen [] [] 6 0 (OL v24) (XB v24) [61,62,67] [4])) (wU (K:=(kx E 85 0)) (b:=false) ⟨[(61,vb false),(62,vo 4 0 1 v17.length),(67,vi (w64 (((v14.1.getD x19.toNat du).B)-((v14.1.getD x19.toNat du).A))))],[(4,ro 0 3 1 v17.length (rf qA v17))]⟩ (opAt (rg f22 129636) 18) [] [] 6 (o1 (ki v17.length)) rfl (qFJ v17 (w64 (((v14.1.getD x19.toNat du).B)-((v14.1.getD x19.toNat du).A))) v24 h25) (.inr ⟨(by kernel_rfl),qHe v24⟩) (by kernel_rfl))] 6 [] [(70,vb (!v24))] (q_J (!v24) hm)
  ·refine q_ex 0 ?_;obtain rfl:=oi hm;exact q_l1 ()
theorem qQZ (a1:qN) (a2:List Product) (a3:Saw) (r:Bool) (hm:OW a1 a2 a3=some r):CtX Tryz.prog globs 22 0 0 [.agg (JS a1),.one (tl qH du a2),.agg (zW a3)] [] (CD r) (TU r):=by
 unfold OW at hm;refine q_E f22 85 λE=>?_;refine s_vn [] 0 ⟨[(1,vc (tl qH du a2)),(3,vp 0 0),(5,vp 1 0)],[(0,bx 46 (JS a1)),(1,bx 38 (zW a3))]⟩ (q_sq ?_);refine q_jn (qNP a1 a2 a3) (λp=>EQ a1 a2 a3 p=some r) ?_ ?_
 ·rintro x12 hm;refine q_cq hm (λhm=>?_) (λhm=>?_)
  ·refine s_vn [] 2 ⟨[(6,vb false)],[]⟩ ?_;obtain rfl:=oi hm;exact q_rt q_rm
  ·refine q_sk ?_;obtain⟨v14,h15,hm⟩:=qB hm;refine s_vu [qk 6 [30,32,34] 2 ⟨[(30,va (qO a1.Frame)),(32,vi a3.Kerf),(34,vc (tl qE du a1.Nodes))],[]⟩ (qMu a1.Frame 3 a3.Kerf a1.Nodes v14 h15)] 2 [27] [(7,vo 2 0 2 v14.1.length),(8,vo 3 0 1 v14.2.1.length),(9,vb v14.2.2)] [] [(2,ro 0 31 2 v14.1.length (rf qG v14.1)),(3,ro 0 44 1 v14.2.1.length (rf (qM qE) v14.2.1))] (q_sq ?_);refine s_vv [] 4 [9] [(40,vb (!v14.2.2))] (q_cq hm (λhm=>?_) (λhm=>?_))
   ·refine s_vn [] 4 ⟨[(6,vb false)],[]⟩ ?_;obtain rfl:=oi hm;exact q_rt q_rm
   ·refine q_sk ?_;obtain⟨v17,h18,hm⟩:=qB hm;refine s_vu [qc 1 [41] 4 (qBM a2 v17 h18)] 4 [40] [(10,vo 4 0 1 v17.length)] [] [(4,ro 0 3 1 v17.length (rf qA v17))] (q_sq ?_);refine s_vv [] 5 [7] [(43,vo 2 0 2 v14.1.length),(44,vi (v14.1.length:Int)),(45,vi 0)] ?_;obtain⟨u34,h33,hm⟩:=qB hm;refine zT (nd f22 1012) 0 (by kernel_rfl) FUEL (λo=>qFk) (λv st=>RetQ Tryz.prog f22 (CD v) (TU v) .ret st) u34 (q_hl (qAb a1 a2 a3 v14 v17 0) (qL7 E a1 a2 a3 v14 v17 FUEL 0 u34 h33)) ?_ ?_
    ·rintro v35 rfl st hr;obtain rfl:=oi hm;exact hr
    ·rintro o32 rfl;replace hm:_=some r:=hm;refine s_vn [] 5 ⟨[(6,vb true)],[]⟩ ?_;obtain rfl:=oi hm;exact q_rt q_rm
 ·obtain⟨v4,h5,hm⟩:=qB hm;rcases bif_c hm with⟨b6,hm⟩|⟨b6,hm⟩
  ·exact q_vv [qc 1 [13] 2 (jZ a2 v4 h5),qf 3 b6] 2 [] [(27,vb true)] (q_J (true) hm)
  ·obtain⟨v7,h8,hm⟩:=qB hm;rcases bif_c hm with⟨b9,hm⟩|⟨b9,hm⟩
   ·exact q_vv [qc 1 [13] 2 (jZ a2 v4 h5),qf 3 b6,qk 6 [16,17,18] 2 ⟨[(16,vb false),(17,va (zW a3)),(18,va [ci 0,ci 0,ci 0])],[]⟩ (AJ a3 (Rates.mk 0 0 0) v7 h8),qf 9 b9] 2 [] [(27,vb true)] (q_J (true) hm)
   ·obtain⟨v10,h11,hm⟩:=qB hm;exact q_vv [qc 1 [13] 2 (jZ a2 v4 h5),qf 3 b6,qk 6 [16,17,18] 2 ⟨[(16,vb false),(17,va (zW a3)),(18,va [ci 0,ci 0,ci 0])],[]⟩ (AJ a3 (Rates.mk 0 0 0) v7 h8),qf 9 b9,qk 12 [22,24] 2 ⟨[(22,vb false),(24,va (qO a1.Frame))],[]⟩ (qDs a1.Frame v10 h11)] 2 [] [(27,vb (v10 !=0))] (q_J (v10 !=0) hm)
def qUi (r:Rect):V:=va (qO r)
def qUm (r:Rect):List (Nat×(Nat×O)):=[]
theorem qB7 (a1:Rect) (a2:Int) (a3:Int) (r:Rect) (hm:VX a1 a2 a3=some r):CtX Tryz.prog globs 45 0 0 [.agg (qO a1),.one (ci a2),.one (ci a3)] [] (qUi r) (qUm r):=by
 unfold VX at hm;refine q_E f45 21 λE=>?_;refine s_vn [] 0 ⟨[(1,vi a2),(2,vi a3),(3,vp 0 0),(6,vp 1 0)],[(0,bx 33 (qO a1)),(1,bx 33 [ci 0,ci 0,ci 0,ci 0])]⟩ (s_vn [] 2 ⟨[(6,vp 1 0)],[(1,bx 33 [ci a1.X.A,ci a1.X.B,ci (w64 (a1.Y.A+a2)),ci (w64 (a1.Y.A+a3))])]⟩ ?_);obtain rfl:=oi hm;exact q_rt q_rm
def qWK (r:Rect):V:=va (qO r)
def qVX (r:Rect):List (Nat×(Nat×O)):=[]
theorem qDK (a1:Rect) (a2:Int) (a3:Int) (r:Rect) (hm:BU a1 a2 a3=some r):CtX Tryz.prog globs 100 0 0 [.agg (qO a1),.one (ci a2),.one (ci a3)] [] (qWK r) (qVX r):=by
 unfold BU at hm;refine q_E f100 21 λE=>?_;refine s_vn [] 0 ⟨[(1,vi a2),(2,vi a3),(3,vp 0 0),(6,vp 1 0)],[(0,bx 33 (qO a1)),(1,bx 33 [ci 0,ci 0,ci 0,ci 0])]⟩ (s_vn [] 2 ⟨[(6,vp 1 0)],[(1,bx 33 [ci (w64 (a1.X.A+a2)),ci (w64 (a1.X.A+a3)),ci a1.Y.A,ci a1.Y.B])]⟩ ?_);obtain rfl:=oi hm;exact q_rt q_rm
open Go.Proofs Go.Proofs.Tryz
def qUV (r:Span):V:=va (qG r)
def qW4 (r:Span):List (Nat×(Nat×O)):=[]
theorem qDF (a1:Span) (a2:Span) (r:Span) (hm:NG a1 a2=some r):CtX Tryz.prog globs 223 0 0 [.agg (qG a1),.agg (qG a2)] [] (qUV r) (qW4 r):=by
 unfold NG at hm;refine q_E f223 24 λE=>?_;refine s_vn [] 0 ⟨[(2,vp 0 0),(3,vp 1 0),(4,vp 2 0)],[(0,bx 31 (qG a1)),(1,bx 31 (qG a2)),(2,bx 31 [ci 0,ci 0])]⟩ (s_vu [] 3 [2,3] [(5,vp 3 0)] [0,1] [(3,bx 31 [ci (imax a1.A a2.A),ci (imin a1.B a2.B)])] ?_);refine q_sq (s_va 4 [(21,vb (decide ((imax a1.A a2.A)≥(imin a1.B a2.B))))] ?_);refine q_cq hm (λhm=>?_) (λhm=>?_)
 ·refine s_vu [] 4 [5,21] [] [3] [] ?_;obtain rfl:=oi hm;exact q_rt q_rm
 ·refine q_sk (s_vn [] 4 ⟨[(4,vp 2 0)],[(2,bx 31 [ci (imax a1.A a2.A),ci (imin a1.B a2.B)])]⟩ ?_);obtain rfl:=oi hm;exact q_rt q_rm
def qVd (r:Box):V:=va (wG r)
def qU1 (r:Box):List (Nat×(Nat×O)):=[]
theorem qTN (a1:Box) (a2:Box) (r:Box) (hm:qEC a1 a2=some r):CtX Tryz.prog globs 221 0 0 [.agg (wG a1),.agg (wG a2)] [] (qVd r) (qU1 r):=by
 unfold qEC at hm;refine q_E f221 21 λE=>?_;refine s_vn [] 0 ⟨[(2,vp 0 0),(3,vp 1 0),(4,vp 2 0)],[(0,bx 128 (wG a1)),(1,bx 128 (wG a2)),(2,bx 128 [ci 0,ci 0,ci 0,ci 0,ci 0,ci 0])]⟩ ?_;obtain⟨v3,h4,hm⟩:=qB hm;obtain⟨v5,h6,hm⟩:=qB hm;obtain⟨v7,h8,hm⟩:=qB hm;refine s_dn [qc 4 [6,8] 3 (qDF a1.X a2.X v3 h4),qc 9 [11,13] 3 (qDF a1.Y a2.Y v5 h6),qc 14 [16,18] 3 (qDF a1.Z a2.Z v7 h8)] [0,1,0,4,15,0,32,0,128,511,0,1024,0,4096,16383,32767,65535] 3 ⟨[(4,vp 2 0)],[(2,bx 128 [ci v3.A,ci v3.B,ci v5.A,ci v5.B,ci v7.A,ci v7.B])]⟩ ?_;obtain rfl:=oi hm;exact q_rt q_rm
def qTX (r:Bool):V:=vb r
def qTD (r:Bool):List (Nat×(Nat×O)):=[]
def qM0 (x4:Bool):St:=
 ⟨[(2,vb x4)],[]⟩
theorem qHp (a1:Box) (r:Bool) (hm:FZ a1=some r):CtX Tryz.prog globs 156 0 0 [.agg (wG a1)] [] (qTX r) (qTD r):=by
 unfold FZ at hm;refine q_E f156 28 λE=>?_;refine s_vn [] 0 ⟨[(1,vp 0 0)],[(0,bx 128 (wG a1))]⟩ (q_jn (qM0) (λp=>GR p=some r) ?_ ?_)
 ·rintro x4 hm;obtain rfl:=oi hm;exact q_rt q_rm
 ·rcases bif_c hm with⟨b2,hm⟩|⟨b2,hm⟩
  ·exact q_vn [qf 7 b2] 1 ⟨[(2,vb true)],[]⟩ (q_J (true) hm)
  ·rcases bif_c hm with⟨b3,hm⟩|⟨b3,hm⟩
   ·exact q_vn [qf 7 b2,qf 16 b3] 1 ⟨[(2,vb true)],[]⟩ (q_J (true) hm)
   ·exact q_vn [qf 7 b2,qf 16 b3] 1 ⟨[(2,vb (decide (a1.Z.A≥a1.Z.B)))],[]⟩ (q_J (decide (a1.Z.A≥a1.Z.B)) hm)
open Go.Proofs Go.Proofs.Tryz
def qQu (r:Bool):V:=vb r
def qOO (r:Bool):List (Nat×(Nat×O)):=[]
theorem qFu (a1:qF) (a2:Box) (r:Bool) (hm:TY a1 a2=some r):CtX Tryz.prog globs 218 0 0 [.agg (qP a1),.agg (wG a2)] [] (qQu r) (qOO r):=by
 unfold TY at hm;refine q_E f218 11 λE=>?_;refine s_vn [] 0 ⟨[(2,vp 0 0),(3,vp 1 0)],[(0,bx 212 (qP a1)),(1,bx 128 (wG a2))]⟩ ?_;obtain⟨v3,h4,hm⟩:=qB hm;obtain⟨v5,h6,hm⟩:=qB hm;refine s_vn [qc 3 [6,7] 2 (qTN a1.Box a2 v3 h4),qc 4 [8] 2 (qHp v3 v5 h6)] 2 ⟨[(4,vb (!v5))],[]⟩ ?_;obtain rfl:=oi hm;exact q_rt q_rm
def qQ5 (r:Bool):V:=vb r
def qR3 (r:Bool):List (Nat×(Nat×O)):=[]
def qLS (x4:Bool):St:=
 ⟨[(2,vb x4)],[]⟩
theorem yQ (a1:Span) (r:Bool) (hm:DB a1=some r):CtX Tryz.prog globs 220 0 0 [.agg (qG a1)] [] (qQ5 r) (qR3 r):=by
 unfold DB at hm;refine q_E f220 18 λE=>?_;refine s_vn [] 0 ⟨[(1,vp 0 0)],[(0,bx 31 (qG a1))]⟩ (q_jn (qLS) (λp=>UL p=some r) ?_ ?_)
 ·rintro x4 hm;obtain rfl:=oi hm;exact q_rt q_rm
 ·rcases bif_c hm with⟨b2,hm⟩|⟨b2,hm⟩
  ·rcases bif_c hm with⟨b3,hm⟩|⟨b3,hm⟩
   ·exact q_vn [qf 3 b2,qf 10 b3] 1 ⟨[(2,vb (decide (a1.B<=600)))],[]⟩ (q_J (decide (a1.B<=600)) hm)
   ·exact q_vn [qf 3 b2,qf 10 b3] 1 ⟨[(2,vb false)],[]⟩ (q_J (false) hm)
  ·exact q_vn [qf 3 b2] 1 ⟨[(2,vb false)],[]⟩ (q_J (false) hm)
def qSe (r:Bool):V:=vb r
def qRr (r:Bool):List (Nat×(Nat×O)):=[]
def qMd (x3:Bool):St:=
 ⟨[(2,vb x3)],[]⟩
theorem qAV (a1:Int) (r:Bool) (hm:DA a1=some r):CtX Tryz.prog globs 185 0 0 [.one (ci a1)] [] (qSe r) (qRr r):=by
 unfold DA at hm;refine q_E f185 9 λE=>?_;refine s_vn [] 0 ⟨[(0,vi a1)],[]⟩ (q_jn (qMd) (λp=>LZ p=some r) ?_ ?_)
 ·rintro x3 hm;obtain rfl:=oi hm;exact q_rt q_rm
 ·rcases bif_c hm with⟨b2,hm⟩|⟨b2,hm⟩
  ·exact q_vn [qf 2 b2] 0 ⟨[(2,vb true)],[]⟩ (q_J (true) hm)
  ·exact q_vn [qf 2 b2] 0 ⟨[(2,vb (decide (a1>600)))],[]⟩ (q_J (decide (a1>600)) hm)
open Go.Proofs Go.Proofs.Tryz
def qT0 (r:Bool):V:=vb r
def qUe (r:Bool):List (Nat×(Nat×O)):=[]
theorem YQ (a1:Span) (r:Bool) (hm:PP a1=some r):CtX Tryz.prog globs 147 0 0 [.agg (qG a1)] [] (qT0 r) (qUe r):=by
 unfold PP at hm;refine q_E f147 8 λE=>?_;refine s_vn [] 0 ⟨[(1,vp 0 0)],[(0,bx 31 (qG a1))]⟩ (s_vn [] 1 ⟨[(2,vb (decide (a1.A≥a1.B)))],[]⟩ ?_);obtain rfl:=oi hm;exact q_rt q_rm
def FB (r:Int):V:=vi r
def NZ (r:Int):List (Nat×(Nat×O)):=[]
def QB (a1:qQ):St:=
 ⟨[(1,vp 0 0),(3,vi (a1.Rows.length:Int))],[(0,bx 70 (zQ a1))]⟩
def qNw (a1:qQ) (x6:Int) (x14:Bool):St:=
 (QB a1).up [] [(4,vi x6),(41,vb x14)] [] []
def qAC (a1:qQ) (x6:Int):St:=
 (QB a1).up [] [(4,vi x6)] [] []
def qFz (a1:qQ):St:=
 (QB a1).up [] [] [] []
def qOm (a1:qQ) (x31:Int) (x37:Bool):St:=
 (QB a1).up [] [(5,vi x31),(80,vb x37)] [] []
def qAA (a1:qQ) (x31:Int):St:=
 (QB a1).up [] [(5,vi x31)] [] []
def qFx :St:=
 ⟨[],[]⟩
def qN4 (a1:qQ) (x29:Bool):St:=
 (QB a1).up [] [(60,vb x29)] [] []
def qMY (a1:qQ) (x4:Bool):St:=
 (QB a1).up [] [(20,vb x4)] [] []
theorem qL6 (E:Env 0) (a1:qQ):∀(n:Nat) (x6:Int) (res:Int⊕Unit),QM a1 n x6=some res->HL (kx E 81 0) (nd f145 500) (wN 0 (λo=>qFz a1) (λv st=>RetQ Tryz.prog f145 (FB v) (NZ v) .ret st) res) n (qAC a1 x6):=by
 intro n
 induction n with
 |zero=>
  intro x6 res hm;cases hm
 |succ n ih=>
  intro x6 res hm;refine qT (q_sq ?_);refine s_va 1 [(23,vb (decide (x6<(a1.Rows.length:Int))))] (q_cq hm (λhm=>?_) (λhm=>?_))
  ·refine q_sk (q_sq ?_);refine q_bk 1 (q_jn (qNw a1 x6) (λp=>AK x6 (QM a1 n) p=some res) ?_ ?_)
   ·rintro x14 hm;refine q_cq hm (λhm=>?_) (λhm=>?_)
    ·refine s_vn [] 1 ⟨[(2,vi 9)],[]⟩ ?_;obtain rfl:=oi hm;refine q_rt (zG 9 ?_);exact q_rm
    ·refine q_sk (q_vv [] 1 [4,41] [(4,vi (w64 (x6+1)))] ?_);exact q_hl (qAC a1 (w64 (x6+1))) (ih (w64 (x6+1)) _ hm)
   ·obtain⟨g8,hm⟩:=qI hm;obtain⟨v9,h10,hm⟩:=qB hm;rcases bif_c hm with⟨b11,hm⟩|⟨b11,hm⟩
    ·exact q_vv [qi 3 g8,qc 6 [31] 1 (qAV ((a1.Rows.getD x6.toNat du).A) v9 h10),qf 7 b11] 1 [23] [(41,vb true)] (q_J (true) hm)
    ·obtain⟨v12,h13,hm⟩:=qB hm;exact q_vv [qi 3 g8,qc 6 [31] 1 (qAV ((a1.Rows.getD x6.toNat du).A) v9 h10),qf 7 b11,qi 11 g8,qk 14 [33,39] 1 ⟨[(33,vb false),(39,vi ((a1.Rows.getD x6.toNat du).B))],[]⟩ (qAV ((a1.Rows.getD x6.toNat du).B) v12 h13)] 1 [23] [(41,vb v12)] (q_J (v12) hm)
  ·refine q_ex 0 ?_;obtain rfl:=oi hm;exact q_l1 ()
theorem qLX (E:Env 0) (a1:qQ):∀(n:Nat) (x31:Int) (res:Int⊕Unit),QP a1 n x31=some res->HL (kx E 81 0) (nd f145 4084) (wN 2 (λo=>qFx) (λv st=>RetQ Tryz.prog f145 (FB v) (NZ v) .ret st) res) n (qAA a1 x31):=by
 intro n
 induction n with
 |zero=>
  intro x31 res hm;cases hm
 |succ n ih=>
  intro x31 res hm;refine qT (q_sq ?_);refine s_va 1 [(63,vb (decide (x31<(a1.Rows.length:Int))))] (q_cq hm (λhm=>?_) (λhm=>?_))
  ·refine q_sk (q_sq ?_);refine q_bk 3 (q_jn (qOm a1 x31) (λp=>EY x31 (QP a1 n) p=some res) ?_ ?_)
   ·rintro x37 hm;refine q_cq hm (λhm=>?_) (λhm=>?_)
    ·refine s_vn [] 1 ⟨[(2,vi 19)],[]⟩ ?_;obtain rfl:=oi hm;refine q_rt (zG 19 ?_);exact q_rm
    ·refine q_sk (q_vv [] 1 [5,80] [(5,vi (w64 (x31+1)))] ?_);exact q_hl (qAA a1 (w64 (x31+1))) (ih (w64 (x31+1)) _ hm)
   ·obtain⟨g33,hm⟩:=qI hm;obtain⟨v34,h35,hm⟩:=qB hm;rcases bif_c hm with⟨b36,hm⟩|⟨b36,hm⟩
    ·exact q_vv [qi 3 g33,qc 5 [70] 1 (YQ (a1.Rows.getD x31.toNat du) v34 h35),qf 6 b36,qi 10 g33] 1 [63] [(80,vb (!((((a1.Rows.getD x31.toNat du).A)==0)&&((((a1.Rows.getD x31.toNat du).B)==0)&&true))))] (q_J (!((((a1.Rows.getD x31.toNat du).A)==0)&&((((a1.Rows.getD x31.toNat du).B)==0)&&true))) hm)
    ·exact q_vv [qi 3 g33,qc 5 [70] 1 (YQ (a1.Rows.getD x31.toNat du) v34 h35),qf 6 b36] 1 [63] [(80,vb false)] (q_J (false) hm)
  ·refine q_ex 2 ?_;obtain rfl:=oi hm;exact q_l1 ()
theorem qHy (a1:qQ) (r:Int) (hm:zaQ a1=some r):CtX Tryz.prog globs 145 0 0 [.agg (zQ a1)] [] (FB r) (NZ r):=by
 unfold zaQ at hm;refine q_E f145 81 λE=>?_;refine s_vn [] 0 ⟨[(1,vp 0 0)],[(0,bx 70 (zQ a1))]⟩ (s_va 1 [(3,vi (a1.Rows.length:Int))] ?_);refine q_sq (s_va 1 [(10,vb (decide ((a1.Rows.length:Int)>120)))] ?_);refine q_cq hm (λhm=>?_) (λhm=>?_)
 ·refine s_vn [] 1 ⟨[(2,vi 4)],[]⟩ ?_;obtain rfl:=oi hm;exact q_rt q_rm
 ·refine q_sk (q_sq ?_);refine q_jn (qMY a1) (λp=>AS a1 p=some r) ?_ ?_
  ·rintro x4 hm;refine q_cq hm (λhm=>?_) (λhm=>?_)
   ·refine s_vn [] 1 ⟨[(2,vi 9)],[]⟩ ?_;obtain rfl:=oi hm;exact q_rt q_rm
   ·refine q_sk (q_sq ?_);refine s_vv [] 1 [20] [(4,vi 0)] ?_;obtain⟨u18,h17,hm⟩:=qB hm;refine zT (nd f145 500) 0 (by kernel_rfl) FUEL (λo=>qFz a1) (λv st=>RetQ Tryz.prog f145 (FB v) (NZ v) .ret st) u18 (q_hl (qAC a1 0) (qL6 E a1 FUEL 0 u18 h17)) ?_ ?_
    ·rintro v19 rfl st hr;obtain rfl:=oi hm;exact hr
    ·rintro o16 rfl;replace hm:_=some r:=hm;refine q_sq (s_va 1 [(43,vb ((a1.Rows.length:Int)==0))] ?_);refine q_cq hm (λhm=>?_) (λhm=>?_)
     ·refine q_sq (s_vn [] 1 ⟨[(46,vb (a1.Low !=0))],[]⟩ ?_);refine q_cq hm (λhm=>?_) (λhm=>?_)
      ·refine s_vn [] 1 ⟨[(2,vi 19)],[]⟩ ?_;obtain rfl:=oi hm;exact q_rt q_rm
      ·refine q_sk (s_vn [] 1 ⟨[(2,vi 0)],[]⟩ ?_);obtain rfl:=oi hm;exact q_rt q_rm
     ·refine q_sk (q_sq ?_);refine q_jn (qN4 a1) (λp=>SX a1 p=some r) ?_ ?_
      ·rintro x29 hm;refine q_cq hm (λhm=>?_) (λhm=>?_)
       ·refine s_vn [] 1 ⟨[(2,vi 19)],[]⟩ ?_;obtain rfl:=oi hm;exact q_rt q_rm
       ·refine q_sk (q_sq ?_);refine s_vv [] 1 [60] [(5,vi 0)] ?_;obtain⟨u41,h40,hm⟩:=qB hm;refine zT (nd f145 4084) 2 (by kernel_rfl) FUEL (λo=>qFx) (λv st=>RetQ Tryz.prog f145 (FB v) (NZ v) .ret st) u41 (q_hl (qAA a1 0) (qLX E a1 FUEL 0 u41 h40)) ?_ ?_
        ·rintro v42 rfl st hr;obtain rfl:=oi hm;exact hr
        ·rintro o39 rfl;replace hm:_=some r:=hm;refine s_vn [] 1 ⟨[(2,vi 0)],[]⟩ ?_;obtain rfl:=oi hm;exact q_rt q_rm
      ·obtain⟨g22,hm⟩:=qI hm;obtain⟨v23,h24,hm⟩:=qB hm;rcases bif_c hm with⟨b25,hm⟩|⟨b25,hm⟩
       ·exact q_vv [qi 2 g22,qc 4 [50] 1 (YQ (a1.Rows.getD (0:Int).toNat du) v23 h24),qf 5 b25] 1 [43] [(60,vb true)] (q_J (true) hm)
       ·obtain⟨g26,hm⟩:=qI hm;obtain⟨v27,h28,hm⟩:=qB hm;exact q_vv [qi 2 g22,qc 4 [50] 1 (YQ (a1.Rows.getD (0:Int).toNat du) v23 h24),qf 5 b25,qi 10 g26,qk 12 [52,58] 1 ⟨[(52,vb false),(58,va [ci ((a1.Rows.getD (w64 ((a1.Rows.length:Int)-1)).toNat du).A),ci ((a1.Rows.getD (w64 ((a1.Rows.length:Int)-1)).toNat du).B)])],[]⟩ (YQ (a1.Rows.getD (w64 ((a1.Rows.length:Int)-1)).toNat du) v27 h28)] 1 [43] [(60,vb v27)] (q_J (v27) hm)
  ·rcases bif_c hm with⟨b3,hm⟩|⟨b3,hm⟩
   ·exact q_vv [qf 3 b3] 1 [10] [(20,vb true)] (q_J (true) hm)
   ·exact q_vv [qf 3 b3] 1 [10] [(20,vb (decide (a1.Low>(w64 (60-(a1.Rows.length:Int))))))] (q_J (decide (a1.Low>(w64 (60-(a1.Rows.length:Int))))) hm)
def qDH (r:Int):V:=vi r
def qDL (r:Int):List (Nat×(Nat×O)):=[]
def qN7 (a1:List qC) (x4:Int) (x5:Int) (x13:Bool):St:=
 ⟨[(0,vc (tl qL du a1)),(3,vi x4),(4,vi x5),(50,vb x13)],[]⟩
def qAs (a1:List qC) (x4:Int) (x5:Int):St:=
 ⟨[(0,vc (tl qL du a1)),(3,vi x4),(4,vi x5)],[]⟩
def qEP :St:=
 ⟨[],[]⟩
theorem qMc (E:Env 0) (a1:List qC):∀(n:Nat) (x4:Int) (x5:Int) (res:Int⊕Unit),QI a1 n x4 x5=some res->HL (kx E 58 0) (nd f83 500) (wN 0 (λo=>qEP) (λv st=>RetQ Tryz.prog f83 (qDH v) (qDL v) .ret st) res) n (qAs a1 x4 x5):=by
 intro n
 induction n with
 |zero=>
  intro x4 x5 res hm;cases hm
 |succ n ih=>
  intro x4 x5 res hm;refine qT (q_sq ?_);refine s_va 0 [(15,vb (decide (x5<(a1.length:Int))))] (q_cq hm (λhm=>?_) (λhm=>?_))
  ·refine q_sk (q_sq ?_);refine q_bk 1 (q_sq ?_);obtain⟨g7,hm⟩:=qI hm;obtain⟨v8,h9,hm⟩:=qB hm;refine s_vv [qi 2 g7,qc 5 [22] 0 (qHy ((a1.getD x5.toNat du).Sec) v8 h9)] 0 [15] [(5,vi v8)] (s_va 0 [(25,vb (v8 !=0))] ?_);refine q_cq hm (λhm=>?_) (λhm=>?_)
   ·refine s_vn [] 0 ⟨[(2,vi v8)],[]⟩ ?_;obtain rfl:=oi hm;refine q_rt (zG v8 ?_);exact q_rm
   ·refine q_sk (q_sq ?_);refine s_vv [qi 2 g7] 0 [5,25] [(34,vb ((((((a1.getD x5.toNat du).Sec).Rows).length:Nat):Int)==0))] (q_cq hm (λhm=>?_) (λhm=>?_))
    ·refine s_vn [] 0 ⟨[(2,vi 18)],[]⟩ ?_;obtain rfl:=oi hm;refine q_rt (zG 18 ?_);exact q_rm
    ·refine q_sk (q_sq ?_);refine q_jn (qN7 a1 x4 x5) (λp=>EC a1 x4 x5 (QI a1 n) p=some res) ?_ ?_
     ·rintro x13 hm;refine q_cq hm (λhm=>?_) (λhm=>?_)
      ·refine s_vn [] 0 ⟨[(2,vi 9)],[]⟩ ?_;obtain rfl:=oi hm;refine q_rt (zG 9 ?_);exact q_rm
      ·refine q_sk (q_vv [qi 3 g7] 0 [3,50] [(3,vi (w64 (x4+((a1.getD x5.toNat du).Len))))] ?_);exact q_vv [] 0 [4] [(4,vi (w64 (x5+1)))] (q_hl (qAs a1 (w64 (x4+((a1.getD x5.toNat du).Len))) (w64 (x5+1))) (ih (w64 (x4+((a1.getD x5.toNat du).Len))) (w64 (x5+1)) _ hm))
     ·rcases bif_c hm with⟨b12,hm⟩|⟨b12,hm⟩
      ·exact q_vv [qi 2 g7,qf 6 b12] 0 [34] [(50,vb true)] (q_J (true) hm)
      ·exact q_vv [qi 2 g7,qf 6 b12,qi 9 g7] 0 [34] [(50,vb (decide (((a1.getD x5.toNat du).Len)>(w64 (20000-x4)))))] (q_J (decide (((a1.getD x5.toNat du).Len)>(w64 (20000-x4)))) hm)
  ·refine q_ex 0 ?_;obtain rfl:=oi hm;exact q_l1 ()
theorem jG (a1:List qC) (r:Int) (hm:ZH a1=some r):CtX Tryz.prog globs 83 0 0 [.one (tl qL du a1)] [] (qDH r) (qDL r):=by
 unfold ZH at hm;refine q_E f83 58 λE=>?_;refine s_vn [] 0 ⟨[(0,vc (tl qL du a1))],[]⟩ (q_sq ?_);refine s_va 0 [(8,vb ((a1.length:Int)==0))] (q_cq hm (λhm=>?_) (λhm=>?_))
 ·refine s_vn [] 0 ⟨[(2,vi 3)],[]⟩ ?_;obtain rfl:=oi hm;exact q_rt q_rm
 ·refine q_sk (q_sq ?_);refine s_vv [] 0 [8] [(11,vb (decide ((a1.length:Int)>24)))] (q_cq hm (λhm=>?_) (λhm=>?_))
  ·refine s_vn [] 0 ⟨[(2,vi 4)],[]⟩ ?_;obtain rfl:=oi hm;exact q_rt q_rm
  ·refine q_sk (s_vv [] 0 [11] [(3,vi 0)] ?_);refine q_sq (s_va 0 [(4,vi 0)] ?_);obtain⟨u17,h16,hm⟩:=qB hm;refine zT (nd f83 500) 0 (by kernel_rfl) FUEL (λo=>qEP) (λv st=>RetQ Tryz.prog f83 (qDH v) (qDL v) .ret st) u17 (q_hl (qAs a1 0 0) (qMc E a1 FUEL 0 0 u17 h16)) ?_ ?_
   ·rintro v18 rfl st hr;obtain rfl:=oi hm;exact hr
   ·rintro o15 rfl;replace hm:_=some r:=hm;refine s_vn [] 0 ⟨[(2,vi 0)],[]⟩ ?_;obtain rfl:=oi hm;exact q_rt q_rm
open Go.Proofs Go.Proofs.Tryz
def qRV (r:Int):V:=vi r
def qRZ (r:Int):List (Nat×(Nat×O)):=[]
def OA (a1:List qC) (x5:Int) (x6:Int):St:=
 ⟨[(0,vc (tl qL du a1)),(3,vi x5),(4,vi x6)],[]⟩
def qD4 (x9:Int):St:=
 ⟨[(3,vi x9)],[]⟩
theorem qJ6 (E:Env 0) (a1:List qC):∀(n:Nat) (x5:Int) (x6:Int) (res:Int),WZ a1 n x5 x6=some res->HL (kx E 22 0) (nd f103 244) (zL 0 qD4 res) n (OA a1 x5 x6):=by
 intro n
 induction n with
 |zero=>
  intro x5 x6 res hm;cases hm
 |succ n ih=>
  intro x5 x6 res hm;refine qT (q_sq ?_);refine s_va 0 [(11,vb (decide (x6<(a1.length:Int))))] (q_cq hm (λhm=>?_) (λhm=>?_))
  ·refine q_sk (q_sq ?_);refine q_bk 1 ?_;obtain⟨g8,hm⟩:=qI hm;refine q_vv [qi 3 g8] 0 [3,11] [(3,vi (w64 (x5+((a1.getD x6.toNat du).Len))))] (q_vv [] 0 [4] [(4,vi (w64 (x6+1)))] ?_);exact q_hl (OA a1 (w64 (x5+((a1.getD x6.toNat du).Len))) (w64 (x6+1))) (ih (w64 (x5+((a1.getD x6.toNat du).Len))) (w64 (x6+1)) _ hm)
  ·refine q_ex 0 ?_;obtain rfl:=oi hm;exact q_l0
theorem UQ (a1:List qC) (r:Int) (hm:WY a1=some r):CtX Tryz.prog globs 103 0 0 [.one (tl qL du a1)] [] (qRV r) (qRZ r):=by
 unfold WY at hm;refine q_E f103 22 λE=>?_;refine s_vn [] 0 ⟨[(0,vc (tl qL du a1))],[]⟩ (q_sq ?_);obtain⟨v2,h3,hm⟩:=qB hm;refine s_vv [qc 1 [5] 0 (jG a1 v2 h3)] 0 [] [(7,vb (v2 !=0))] (q_cq hm (λhm=>?_) (λhm=>?_))
 ·refine s_vn [] 0 ⟨[(2,vi 0)],[]⟩ ?_;obtain rfl:=oi hm;exact q_rt q_rm
 ·refine q_sk (s_vv [] 0 [7] [(3,vi 0)] ?_);refine q_sq (s_va 0 [(4,vi 0)] ?_);obtain⟨o10,h11,hm⟩:=qB hm;refine zF (nd f103 244) 0 (by kernel_rfl) FUEL qD4 o10 (q_hl (OA a1 0 0) (qJ6 E a1 FUEL 0 0 o10 h11)) (s_vn [] 0 ⟨[(2,vi o10)],[]⟩ ?_);obtain rfl:=oi hm;exact q_rt q_rm
def qQO (r:Bool):V:=vb r
def qQ0 (r:Bool):List (Nat×(Nat×O)):=[]
def qL4 (x13:Bool):St:=
 ⟨[(4,vb x13)],[]⟩
theorem qQb (a1:List qC) (a2:Box) (r:Bool) (hm:MX a1 a2=some r):CtX Tryz.prog globs 216 0 0 [.one (tl qL du a1),.agg (wG a2)] [] (qQO r) (qQ0 r):=by
 unfold MX at hm;refine q_E f216 36 λE=>?_;refine s_vn [] 0 ⟨[(0,vc (tl qL du a1)),(3,vp 0 0)],[(0,bx 128 (wG a2))]⟩ (q_jn (qL4) (λp=>WU p=some r) ?_ ?_)
 ·rintro x13 hm;obtain rfl:=oi hm;exact q_rt q_rm
 ·obtain⟨v3,h4,hm⟩:=qB hm;rcases bif_c hm with⟨b5,hm⟩|⟨b5,hm⟩
  ·obtain⟨v6,h7,hm⟩:=qB hm;rcases bif_c hm with⟨b8,hm⟩|⟨b8,hm⟩
   ·rcases bif_c hm with⟨b9,hm⟩|⟨b9,hm⟩
    ·rcases bif_c hm with⟨b10,hm⟩|⟨b10,hm⟩
     ·obtain⟨v11,h12,hm⟩:=qB hm;exact q_dn [qc 2 [6] 1 (yQ a2.X v3 h4),qf 3 b5,qk 6 [8,10] 1 ⟨[(8,vb true),(10,va (qG a2.Y))],[]⟩ (yQ a2.Y v6 h7),qf 8 b8,qf 14 b9,qf 23 b10,qk 28 [28,32] 1 ⟨[(28,vb true),(32,vc (tl qL du a1))],[]⟩ (UQ a1 v11 h12)] [0,1,3,7,15,31,63,127,255,511,1023,2047,4095,8191,16383,32767,65535,131071,32767,294911,819199,2097151,4194303,8388607,16777215,33554431,67108863,16777215,150994943,536870911,1073741823,2147483647] 1 ⟨[(4,vb (decide (a2.Z.B<=v11)))],[]⟩ (q_J (decide (a2.Z.B<=v11)) hm)
     ·exact q_dn [qc 2 [6] 1 (yQ a2.X v3 h4),qf 3 b5,qk 6 [8,10] 1 ⟨[(8,vb true),(10,va (qG a2.Y))],[]⟩ (yQ a2.Y v6 h7),qf 8 b8,qf 14 b9,qf 23 b10] [0,1,3,7,15,31,63,127,255,511,1023,2047,4095,8191,16383,32767,65535,131071,32767,294911,819199,2097151,4194303,8388607,16777215,33554431,67108863,16777215,150994943,536870911,1073741823,2147483647] 1 ⟨[(4,vb false)],[]⟩ (q_J (false) hm)
    ·exact q_dn [qc 2 [6] 1 (yQ a2.X v3 h4),qf 3 b5,qk 6 [8,10] 1 ⟨[(8,vb true),(10,va (qG a2.Y))],[]⟩ (yQ a2.Y v6 h7),qf 8 b8,qf 14 b9] [0,1,3,7,15,31,63,127,255,511,1023,2047,4095,8191,16383,32767,65535,131071,32767,294911,819199,2097151,4194303,8388607,16777215,33554431,67108863,16777215,150994943,536870911,1073741823,2147483647] 1 ⟨[(4,vb false)],[]⟩ (q_J (false) hm)
   ·exact q_dn [qc 2 [6] 1 (yQ a2.X v3 h4),qf 3 b5,qk 6 [8,10] 1 ⟨[(8,vb true),(10,va (qG a2.Y))],[]⟩ (yQ a2.Y v6 h7),qf 8 b8] [0,1,3,7,15,31,63,127,255,511,1023,2047,4095,8191,16383,32767,65535,131071,32767,294911,819199,2097151,4194303,8388607,16777215,33554431,67108863,16777215,150994943,536870911,1073741823,2147483647] 1 ⟨[(4,vb false)],[]⟩ (q_J (false) hm)
  ·exact q_dn [qc 2 [6] 1 (yQ a2.X v3 h4),qf 3 b5] [0,1,3,7,15,31,63,127,255,511,1023,2047,4095,8191,16383,32767,65535,131071,32767,294911,819199,2097151,4194303,8388607,16777215,33554431,67108863,16777215,150994943,536870911,1073741823,2147483647] 1 ⟨[(4,vb false)],[]⟩ (q_J (false) hm)
def qUx (r:Bool):V:=vb r
def qTY (r:Bool):List (Nat×(Nat×O)):=[]
def qMH (x5:Bool):St:=
 ⟨[(2,vb x5)],[]⟩
theorem qB5 (a1:Product) (r:Bool) (hm:qCM a1=some r):CtX Tryz.prog globs 81 0 0 [.agg (qH a1)] [] (qUx r) (qTY r):=by
 unfold qCM at hm;refine q_E f81 21 λE=>?_;refine s_vn [] 0 ⟨[(1,vp 0 0)],[(0,bx 54 (qH a1))]⟩ (q_jn (qMH) (λp=>RH p=some r) ?_ ?_)
 ·rintro x5 hm;obtain rfl:=oi hm;exact q_rt q_rm
 ·rcases bif_c hm with⟨b2,hm⟩|⟨b2,hm⟩
  ·rcases bif_c hm with⟨b3,hm⟩|⟨b3,hm⟩
   ·rcases bif_c hm with⟨b4,hm⟩|⟨b4,hm⟩
    ·exact q_vn [qf 3 b2,qf 8 b3,qf 13 b4] 1 ⟨[(2,vb (decide (a1.Width<=600)))],[]⟩ (q_J (decide (a1.Width<=600)) hm)
    ·exact q_vn [qf 3 b2,qf 8 b3,qf 13 b4] 1 ⟨[(2,vb false)],[]⟩ (q_J (false) hm)
   ·exact q_vn [qf 3 b2,qf 8 b3] 1 ⟨[(2,vb false)],[]⟩ (q_J (false) hm)
  ·exact q_vn [qf 3 b2] 1 ⟨[(2,vb false)],[]⟩ (q_J (false) hm)
open Go.Proofs Go.Proofs.Tryz
def qUD (r:Int×Int):V:= .tup [.one (ci r.1),.one (ci r.2)]
def qT8 (r:Int×Int):List (Nat×(Nat×O)):=[]
def qNh (a1:Product) (x6:Bool):St:=
 ⟨[(1,vp 0 0),(16,vb x6)],[(0,bx 54 (qH a1))]⟩
theorem AH (a1:Product) (r:Int×Int) (hm:PY a1=some r):CtX Tryz.prog globs 35 0 0 [.agg (qH a1)] [] (qUD r) (qT8 r):=by
 unfold PY at hm;refine q_E f35 33 λE=>?_;refine s_vn [] 0 ⟨[(1,vp 0 0)],[(0,bx 54 (qH a1))]⟩ (q_sq ?_);refine q_jn (qNh a1) (λp=>DW a1 p=some r) ?_ ?_
 ·rintro x6 hm;refine q_cq hm (λhm=>?_) (λhm=>?_)
  ·refine s_vn [] 1 ⟨[(2,vi 0),(3,vi 0)],[]⟩ ?_;obtain rfl:=oi hm;exact q_rt q_rm
  ·refine q_sk (s_dn [qd 7 dN (show(1000:Int)≠0 by decide),qd 15 dN (show(1000:Int)≠0 by decide)] [0,1,0,4,12,31,63,127,0,256,0,1024,3072,7936,16128,32512,255,131071] 1 ⟨[(2,vi (w64 (Int.tdiv (w64 ((w64 (a1.Thick*(w64 (1000+a1.Allow))))+999)) 1000))),(3,vi (w64 (Int.tdiv (w64 ((w64 (a1.Width*(w64 (1000+a1.Allow))))+999)) 1000)))],[]⟩ ?_);obtain rfl:=oi hm;exact q_rt q_rm
 ·obtain⟨v2,h3,hm⟩:=qB hm;rcases bif_c hm with⟨b4,hm⟩|⟨b4,hm⟩
  ·exact q_vv [qc 1 [4] 1 (qB5 a1 v2 h3),qf 3 b4] 1 [] [(16,vb true)] (q_J (true) hm)
  ·rcases bif_c hm with⟨b5,hm⟩|⟨b5,hm⟩
   ·exact q_vv [qc 1 [4] 1 (qB5 a1 v2 h3),qf 3 b4,qf 8 b5] 1 [] [(16,vb true)] (q_J (true) hm)
   ·exact q_vv [qc 1 [4] 1 (qB5 a1 v2 h3),qf 3 b4,qf 8 b5] 1 [] [(16,vb (decide (a1.Allow>200)))] (q_J (decide (a1.Allow>200)) hm)
def qDQ (r:Int×Bool):V:= .tup [.one (ci r.1),.one (cb r.2)]
def qDG (r:Int×Bool):List (Nat×(Nat×O)):=[]
def qAr (a1:Product) (a2:Int) (x3:Int):St:=
 ⟨[(1,vi a2),(2,vp 0 0),(6,vi x3)],[(0,bx 54 (qH a1))]⟩
def qFD :St:=
 ⟨[],[]⟩
theorem qLW (E:Env 0) (a1:Product) (a2:Int):∀(n:Nat) (x3:Int) (res:(Int×Bool)⊕Unit),YW a1 a2 n x3=some res->HL (kx E 31 0) (nd f217 52) (wN 0 (λo=>qFD) (λv st=>RetQ Tryz.prog f217 (qDQ v) (qDG v) .ret st) res) n (qAr a1 a2 x3):=by
 intro n
 induction n with
 |zero=>
  intro x3 res hm;cases hm
 |succ n ih=>
  intro x3 res hm;refine qT (q_sq ?_);refine s_va 1 [(11,vb (decide (x3<(a1.Lengths.length:Int))))] (q_cq hm (λhm=>?_) (λhm=>?_))
  ·refine q_sk (q_sq ?_);refine q_bk 1 ?_;obtain⟨g5,hm⟩:=qI hm;refine s_vv [qi 3 g5] 1 [11] [(20,vb ((a1.Lengths.getD x3.toNat du)==a2))] (q_cq hm (λhm=>?_) (λhm=>?_))
   ·refine q_sq (s_vv [] 1 [1,20] [(25,vb (decide (x3≥(a1.Prices.length:Int))))] ?_);refine q_cq hm (λhm=>?_) (λhm=>?_)
    ·refine s_vn [] 1 ⟨[(4,vi 0),(5,vb false)],[]⟩ ?_;obtain rfl:=oi hm;refine q_rt (zG (0,false) ?_);exact q_rm
    ·refine q_sk ?_;obtain⟨g8,hm⟩:=qI hm;refine s_vn [qi 3 g8] 1 ⟨[(4,vi (a1.Prices.getD x3.toNat du)),(5,vb true)],[]⟩ ?_;obtain rfl:=oi hm;refine q_rt (zG ((a1.Prices.getD x3.toNat du),true) ?_);exact q_rm
   ·refine q_sk (q_vv [] 1 [6,20] [(6,vi (w64 (x3+1)))] ?_);exact q_hl (qAr a1 a2 (w64 (x3+1))) (ih (w64 (x3+1)) _ hm)
  ·refine q_ex 0 ?_;obtain rfl:=oi hm;exact q_l1 ()
theorem qHJ (a1:Product) (a2:Int) (r:Int×Bool) (hm:LC a1 a2=some r):CtX Tryz.prog globs 217 0 0 [.agg (qH a1),.one (ci a2)] [] (qDQ r) (qDG r):=by
 unfold LC at hm;refine q_E f217 31 λE=>?_;refine s_vn [] 0 ⟨[(1,vi a2),(2,vp 0 0)],[(0,bx 54 (qH a1))]⟩ (q_sq ?_);refine s_va 1 [(6,vi 0)] ?_;obtain⟨u11,h10,hm⟩:=qB hm;refine zT (nd f217 52) 0 (by kernel_rfl) FUEL (λo=>qFD) (λv st=>RetQ Tryz.prog f217 (qDQ v) (qDG v) .ret st) u11 (q_hl (qAr a1 a2 0) (qLW E a1 a2 FUEL 0 u11 h10)) ?_ ?_
 ·rintro v12 rfl st hr;obtain rfl:=oi hm;exact hr
 ·rintro o9 rfl;replace hm:_=some r:=hm;refine s_vn [] 1 ⟨[(4,vi 0),(5,vb false)],[]⟩ ?_;obtain rfl:=oi hm;exact q_rt q_rm
def qRz (r:Int):V:=vi r
def qQN (r:Int):List (Nat×(Nat×O)):=[]
def qLp (a1:Span) (a2:Span) (x6:Bool):St:=
 ⟨[(5,vi (imax a1.A a2.A)),(6,vi (imin a1.B a2.B)),(23,vb x6)],[]⟩
theorem qGv (a1:Span) (a2:Span) (r:Int) (hm:DK a1 a2=some r):CtX Tryz.prog globs 200 0 0 [.agg (qG a1),.agg (qG a2)] [] (qRz r) (qQN r):=by
 unfold DK at hm;refine q_E f200 27 λE=>?_;refine s_vn [] 0 ⟨[(2,vp 0 0),(3,vp 1 0)],[(0,bx 31 (qG a1)),(1,bx 31 (qG a2))]⟩ (s_du [] [0,1,0,4,15,0,32,0,128,480,31,2047] 2 [2] [(5,vi (imax a1.A a2.A)),(6,vi (imin a1.B a2.B))] [0] [] ?_);refine q_sq (q_jn (qLp a1 a2) (λp=>LY a1 a2 p=some r) ?_ ?_)
 ·rintro x6 hm;refine q_cq hm (λhm=>?_) (λhm=>?_)
  ·refine s_vn [] 2 ⟨[(4,vi 0)],[]⟩ ?_;obtain rfl:=oi hm;exact q_rt q_rm
  ·refine q_sk (s_vn [] 2 ⟨[(4,vi (w64 ((imin a1.B a2.B)-(imax a1.A a2.A))))],[]⟩ ?_);obtain rfl:=oi hm;exact q_rt q_rm
 ·obtain⟨v3,h4,hm⟩:=qB hm;rcases bif_c hm with⟨b5,hm⟩|⟨b5,hm⟩
  ·exact q_vu [qc 1 [17] 2 (YQ a2 v3 h4),qf 2 b5] 2 [3] [(23,vb true)] [1] [] (q_J (true) hm)
  ·exact q_vu [qc 1 [17] 2 (YQ a2 v3 h4),qf 2 b5] 2 [3] [(23,vb (decide ((imax a1.A a2.A)≥(imin a1.B a2.B))))] [1] [] (q_J (decide ((imax a1.A a2.A)≥(imin a1.B a2.B))) hm)
open Go.Proofs Go.Proofs.Tryz
def qPC (r:Span):V:=va (qG r)
def qPm (r:Span):List (Nat×(Nat×O)):=[]
theorem qNc (a1:Int) (r:Span) (hm:FC a1=some r):CtX Tryz.prog globs 201 0 0 [.one (ci a1)] [] (qPC r) (qPm r):=by
 unfold FC at hm;refine q_E f201 9 λE=>?_;refine s_vn [] 0 ⟨[(0,vi a1),(2,vp 0 0)],[(0,bx 31 [ci 0,ci 0])]⟩ (s_vu [] 1 [0] [] [0] [(0,bx 31 [ci (w64 (10*a1)),ci (w64 (10*(w64 (a1+1))))])] ?_);obtain rfl:=oi hm;exact q_rt q_rm
def qT5 (r:qQ):V:=va (zQ r)
def qTx (r:qQ):List (Nat×(Nat×O)):=[]
theorem qHH (a1:qQ) (r:qQ) (hm:FX a1=some r):CtX Tryz.prog globs 146 0 0 [.agg (zQ a1)] [] (qT5 r) (qTx r):=by
 unfold FX at hm;refine q_E f146 8 λE=>?_;refine s_vn [] 0 ⟨[(1,vp 0 0),(2,vp 1 0)],[(0,bx 70 (zQ a1)),(1,bx 70 [ci 0,.emp])]⟩ (q_sq ?_);obtain⟨v2,h3,hm⟩:=qB hm;refine s_vv [qc 1 [3] 2 (qHy a1 v2 h3)] 2 [] [(5,vb (v2 !=0))] (q_cq hm (λhm=>?_) (λhm=>?_))
 ·refine s_vu [] 2 [1,5] [] [0] [] (q_fu [.ownB 1 1 2 31 2 (rf qG [])] [] [] [1] [(1,bx 70 [ci 0,.own 2 0 2 0]),(2,ro 0 31 2 0 (rf qG []))] o0 ?_);refine q_fu [.len 2 (([]:List Span).length),.frz 2] [] [] [1,2] [(1,bx 70 [ci 0,tl qG du ([]:List Span)])] (o1 (And.intro (And.intro (show 0=([]:List Span).length from rfl) (show 0=([]:List Span).length from rfl)) (ki (([]:List Span).length)))) ?_;obtain rfl:=oi hm;exact q_rt q_rm
 ·refine q_sk (s_vn [] 2 ⟨[(2,vp 1 0)],[(1,bx 70 (zQ a1))]⟩ ?_);obtain rfl:=oi hm;exact q_rt q_rm
def qSc (r:Int):V:=vi r
def qSa (r:Int):List (Nat×(Nat×O)):=[]
def IE (a2:Rect) (v3:qQ) (x5:Int) (x6:Int):St:=
 ⟨[(2,vp 0 0),(3,vp 1 0),(5,vi x5),(6,vi x6)],[(0,bx 70 (zQ v3)),(1,bx 33 (qO a2))]⟩
def qEp (x15:Int):St:=
 ⟨[(5,vi x15)],[]⟩
theorem qKs (E:Env 0) (a2:Rect) (v3:qQ):∀(n:Nat) (x5:Int) (x6:Int) (res:Int),XS a2 v3 n x5 x6=some res->HL (kx E 36 0) (nd f164 244) (zL 0 qEp res) n (IE a2 v3 x5 x6):=by
 intro n
 induction n with
 |zero=>
  intro x5 x6 res hm;cases hm
 |succ n ih=>
  intro x5 x6 res hm;refine qT (q_sq ?_);refine s_va 2 [(13,vb (decide (x6<(v3.Rows.length:Int))))] (q_cq hm (λhm=>?_) (λhm=>?_))
  ·refine q_sk (q_sq ?_);refine q_bk 1 ?_;obtain⟨g8,hm⟩:=qI hm;obtain⟨v9,h10,hm⟩:=qB hm;obtain⟨v11,h12,hm⟩:=qB hm;obtain⟨v13,h14,hm⟩:=qB hm;refine q_du [qi 4 g8,qc 8 [21,23] 2 (qGv (v3.Rows.getD x6.toNat du) a2.X v9 h10),qc 13 [28] 2 (qNc (w64 (v3.Low+x6)) v11 h12),qc 16 [29,31] 2 (qGv v11 a2.Y v13 h14)] [0,0,2,0,14,30,0,64,254,0,512,0,3584,8190,0,16384,65534,131070,262143,524287] 2 [5,13] [(5,vi (w64 (x5+(w64 (v9*v13)))))] [] [] (q_vv [] 2 [6] [(6,vi (w64 (x6+1)))] ?_);exact q_hl (IE a2 v3 (w64 (x5+(w64 (v9*v13)))) (w64 (x6+1))) (ih (w64 (x5+(w64 (v9*v13)))) (w64 (x6+1)) _ hm)
  ·refine q_ex 0 ?_;obtain rfl:=oi hm;exact q_l0
theorem qGd (a1:qQ) (a2:Rect) (r:Int) (hm:DV a1 a2=some r):CtX Tryz.prog globs 164 0 0 [.agg (zQ a1),.agg (qO a2)] [] (qSc r) (qSa r):=by
 unfold DV at hm;refine q_E f164 36 λE=>?_;refine s_vn [] 0 ⟨[(2,vp 0 0),(3,vp 1 0)],[(0,bx 70 (zQ a1)),(1,bx 33 (qO a2))]⟩ (s_va 2 [(5,vi 0)] ?_);obtain⟨v3,h4,hm⟩:=qB hm;refine s_vu [qc 1 [7] 2 (qHH a1 v3 h4)] 2 [] [] [0] [(0,bx 70 (zQ v3))] (q_sq ?_);refine s_va 2 [(6,vi 0)] ?_;obtain⟨o16,h17,hm⟩:=qB hm;refine zF (nd f164 244) 0 (by kernel_rfl) FUEL qEp o16 (q_hl (IE a2 v3 0 0) (qKs E a2 v3 FUEL 0 0 o16 h17)) (s_vn [] 2 ⟨[(4,vi o16)],[]⟩ ?_);obtain rfl:=oi hm;exact q_rt q_rm
open Go.Proofs Go.Proofs.Tryz
def qW3 (r:Int):V:=vi r
def qVi (r:Int):List (Nat×(Nat×O)):=[]
theorem qJj (a1:Span) (a2:Int) (a3:Int) (r:Int) (hm:EK a1 a2 a3=some r):CtX Tryz.prog globs 163 0 0 [.agg (qG a1),.one (ci a2),.one (ci a3)] [] (qW3 r) (qVi r):=by
 unfold EK at hm;refine q_E f163 25 λE=>?_;refine s_vn [] 0 ⟨[(1,vi a2),(2,vi a3),(3,vp 0 0)],[(0,bx 31 (qG a1))]⟩ (s_dn [] [0,1,0,7,0,16,0,0,192,496,15,2047] 1 ⟨[(7,vi (imax a1.A a2)),(8,vi (imin a1.B (w64 (a2+a3))))],[]⟩ ?_);refine q_sq (s_va 1 [(21,vb (decide ((imax a1.A a2)≥(imin a1.B (w64 (a2+a3))))))] ?_);refine q_cq hm (λhm=>?_) (λhm=>?_)
 ·refine s_vn [] 1 ⟨[(6,vi 0)],[]⟩ ?_;obtain rfl:=oi hm;exact q_rt q_rm
 ·refine q_sk (s_vn [] 1 ⟨[(6,vi (w64 ((imin a1.B (w64 (a2+a3)))-(imax a1.A a2))))],[]⟩ ?_);obtain rfl:=oi hm;exact q_rt q_rm
end Saw
end Go.SL

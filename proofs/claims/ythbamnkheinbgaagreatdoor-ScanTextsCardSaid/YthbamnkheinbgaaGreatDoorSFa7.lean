import Derived.Test.YthbamnkheinbgaaGreatDoorSBase
import Derived.Test.YthbamnkheinbgaaGreatDoorSFa6
set_option linter.unusedVariables false
set_option linter.unusedSimpArgs false
namespace Go.SL
namespace Saw
open Go.Proofs Go.Proofs.Tryz
set_option maxHeartbeats 4000000
set_option maxRecDepth 100000
def GC (r:ByteArray):V:=vc (cs r)
def JS (r:ByteArray):List (Nat×(Nat×O)):=[]
theorem MA (r:ByteArray):jQ (JS r):=by
 intro i k o h;unfold JS at h;cases h
def VO (a1:List Int) (x4:ByteArray) (x5:Int):St:=
 ⟨[(0,vc (tl qH dd a1)),(3,vc (cs x4)),(4,vi x5)],[]⟩
def SU (x11:ByteArray):St:=
 ⟨[(3,vc (cs x11))],[]⟩
theorem qCN (E:Env 0) (a1:List Int):∀(n:Nat) (x4:ByteArray) (x5:Int) (res:ByteArray),wY a1 n x4 x5=some res->HL (kx E 23 0) (nd f52 116) (zP 0 SU res) n (VO a1 x4 x5):=by
 intro n
 induction n with
 |zero=>
  intro x4 x5 res hm;cases hm
 |succ n ih=>
  intro x4 x5 res hm;refine qS (q_sq ?_);refine s_va 0 [(12,vb (decide (x5<(a1.length:Int))))] (q_cq hm (λhm=>?_) (λhm=>?_))
  ·refine q_sk (q_sq ?_);refine q_bk 1 ?_;obtain⟨g7,hm⟩:=qJ hm;obtain⟨v8,h9,hm⟩:=qD hm;obtain⟨g10,hm⟩:=qJ hm;refine q_vv [qi 3 g7,qc 5 [19] 0 (qH6 (a1.getD x5.toNat dd) v8 h9),qd 6 dN (WH g10)] 0 [3,12] [(3,vc (cs (x4++v8)))] (q_vv [] 0 [4] [(4,vi (w64 (x5+1)))] ?_);exact q_hl (VO a1 (x4++v8) (w64 (x5+1))) (ih (x4++v8) (w64 (x5+1)) _ hm)
  ·refine q_ex 0 ?_;obtain rfl:=oi hm;exact q_l0
theorem NN (a1:List Int) (r:ByteArray) (hm:YE a1=some r):CtX Tryz.prog globs 52 0 0 [.one (tl qH dd a1)] [] (GC r) (JS r):=by
 unfold YE at hm;refine q_E f52 23 λE=>?_;refine s_vn [] 0 ⟨[(0,vc (tl qH dd a1))],[]⟩ ?_;obtain⟨v2,h3,hm⟩:=qD hm;refine s_vv [qc 3 [7] 0 (CV (IntKind.u64.wrap ((a1.length:Int))) v2 h3)] 0 [] [(3,vc (cs v2))] (q_sq ?_);refine s_va 0 [(4,vi 0)] ?_;obtain⟨o12,h13,hm⟩:=qD hm;refine zM (nd f52 116) 0 (by kernel_rfl) FUEL SU o12 (q_hl (VO a1 v2 0) (qCN E a1 FUEL v2 0 o12 h13)) (s_vn [] 0 ⟨[(2,vc (cs o12))],[]⟩ ?_);obtain rfl:=oi hm;exact q_rt q_rm
def PQ (r:Bool):V:=vb r
def QT (r:Bool):List (Nat×(Nat×O)):=[]
theorem qFf (r:Bool):jQ (QT r):=by
 intro i k o h;unfold QT at h;cases h
def qBI (a1:List qA) (x2:Int) (x8:Bool):St:=
 ⟨[(0,vc (tl qC dd a1)),(3,vi x2),(39,vb x8)],[]⟩
def RD (a1:List qA) (x2:Int):St:=
 ⟨[(0,vc (tl qC dd a1)),(3,vi x2)],[]⟩
def FM :St:=
 ⟨[],[]⟩
theorem qBv (E:Env 0) (a1:List qA):∀(n:Nat) (x2:Int) (res:Bool⊕Unit),zZ a1 n x2=some res->HL (kx E 40 0) (nd f86 52) (zY 0 (λo=>FM) (λv st=>RetQ Tryz.prog f86 (PQ v) (QT v) .ret st) res) n (RD a1 x2):=by
 intro n
 induction n with
 |zero=>
  intro x2 res hm;cases hm
 |succ n ih=>
  intro x2 res hm;refine qS (q_sq ?_);refine s_va 0 [(7,vb (decide (x2<(a1.length:Int))))] (q_cq hm (λhm=>?_) (λhm=>?_))
  ·refine q_sk (q_sq ?_);refine q_bk 1 (q_jn (qBI a1 x2) (λp=>yU x2 (zZ a1 n) p=some res) ?_ ?_)
   ·rintro x8 hm;refine q_cq hm (λhm=>?_) (λhm=>?_)
    ·refine s_vn [] 0 ⟨[(2,vb false)],[]⟩ ?_;obtain rfl:=oi hm;refine q_rt (qX false ?_);exact q_rm
    ·refine q_sk (q_vv [] 0 [3,39] [(3,vi (w64 (x2+1)))] ?_);exact q_hl (RD a1 (w64 (x2+1))) (ih (w64 (x2+1)) _ hm)
   ·obtain⟨g4,hm⟩:=qJ hm;rcases bif_c hm with⟨b5,hm⟩|⟨b5,hm⟩
    ·exact q_vv [qi 2 g4,qf 6 b5] 0 [7] [(39,vb true)] (q_J (true) hm)
    ·rcases bif_c hm with⟨b6,hm⟩|⟨b6,hm⟩
     ·exact q_vv [qi 2 g4,qf 6 b5,qi 9 g4,qf 14 b6] 0 [7] [(39,vb true)] (q_J (true) hm)
     ·rcases bif_c hm with⟨b7,hm⟩|⟨b7,hm⟩
      ·exact q_vv [qi 2 g4,qf 6 b5,qi 9 g4,qf 14 b6,qi 17 g4,qf 22 b7] 0 [7] [(39,vb true)] (q_J (true) hm)
      ·exact q_vv [qi 2 g4,qf 6 b5,qi 9 g4,qf 14 b6,qi 17 g4,qf 22 b7,qi 25 g4] 0 [7] [(39,vb (decide (((a1.getD x2.toNat dd).Y)>600)))] (q_J (decide (((a1.getD x2.toNat dd).Y)>600)) hm)
  ·refine q_ex 0 ?_;obtain rfl:=oi hm;exact q_l1 ()
theorem qDH (a1:List qA) (r:Bool) (hm:KX a1=some r):CtX Tryz.prog globs 86 0 0 [.one (tl qC dd a1)] [] (PQ r) (QT r):=by
 unfold KX at hm;refine q_E f86 40 λE=>?_;refine s_vn [] 0 ⟨[(0,vc (tl qC dd a1))],[]⟩ (q_sq ?_);refine s_va 0 [(3,vi 0)] ?_;obtain⟨u12,h11,hm⟩:=qD hm;refine zI (nd f86 52) 0 (by kernel_rfl) FUEL (λo=>FM) (λv st=>RetQ Tryz.prog f86 (PQ v) (QT v) .ret st) u12 (q_hl (RD a1 0) (qBv E a1 FUEL 0 u12 h11)) ?_ ?_
 ·rintro v13 rfl st hr;obtain rfl:=oi hm;exact hr
 ·rintro o10 rfl;replace hm:_=some r:=hm;refine s_vn [] 0 ⟨[(2,vb true)],[]⟩ ?_;obtain rfl:=oi hm;exact q_rt q_rm
def NZ (r:Int):V:=vi r
def FF (r:Int):List (Nat×(Nat×O)):=[]
def qCI (a1:Ring) (x7:Int) (x16:Bool):St:=
 ⟨[(1,vp 0 0),(3,vi x7),(53,vb x16)],[(0,bx 45 (qM a1))]⟩
def qCY (a1:Ring) (x7:Int) (x13:Bool):St:=
 ⟨[(1,vp 0 0),(3,vi x7),(4,vp 1 0),(44,vb x13)],[(0,bx 45 (qM a1)),(1,bx 73 (qE (a1.Read.getD x7.toNat dd)))]⟩
def UC (a1:Ring) (x7:Int):St:=
 ⟨[(1,vp 0 0),(3,vi x7)],[(0,bx 45 (qM a1))]⟩
def HH :St:=
 ⟨[],[]⟩
def qCK (a1:Ring) (x5:Bool):St:=
 ⟨[(1,vp 0 0),(15,vb x5)],[(0,bx 45 (qM a1))]⟩
theorem qB0 (E:Env 0) (a1:Ring):∀(n:Nat) (x7:Int) (res:Int⊕Unit),wP a1 n x7=some res->HL (kx E 54 0) (nd f40 116) (zY 1 (λo=>HH) (λv st=>RetQ Tryz.prog f40 (NZ v) (FF v) .ret st) res) n (UC a1 x7):=by
 intro n
 induction n with
 |zero=>
  intro x7 res hm;cases hm
 |succ n ih=>
  intro x7 res hm;refine qS (q_sq ?_);refine s_va 1 [(28,vb (decide (x7<(a1.Read.length:Int))))] (q_cq hm (λhm=>?_) (λhm=>?_))
  ·refine q_sk (q_sq ?_);refine q_bk 2 ?_;obtain⟨g9,hm⟩:=qJ hm;refine s_vu [qi 3 g9] 1 [28] [(4,vp 1 0)] [] [(1,bx 73 (qE (a1.Read.getD x7.toNat dd)))] (q_sq ?_);refine q_jn (qCY a1 x7) (λp=>PL a1 x7 (wP a1 n) p=some res) ?_ ?_
   ·rintro x13 hm;refine q_cq hm (λhm=>?_) (λhm=>?_)
    ·refine s_vn [] 3 ⟨[(2,vi 9)],[]⟩ ?_;obtain rfl:=oi hm;refine q_rt (qX 9 ?_);exact q_rm
    ·refine q_sk (q_jn (qCI a1 x7) (λp=>PI x7 (wP a1 n) p=some res) ?_ ?_)
     ·rintro x16 hm;refine q_cq hm (λhm=>?_) (λhm=>?_)
      ·refine s_vn [] 3 ⟨[(2,vi 19)],[]⟩ ?_;obtain rfl:=oi hm;refine q_rt (qX 19 ?_);exact q_rm
      ·refine q_sk (q_vv [] 3 [3,53] [(3,vi (w64 (x7+1)))] ?_);exact q_hl (UC a1 (w64 (x7+1))) (ih (w64 (x7+1)) _ hm)
     ·rcases bif_c hm with⟨b15,hm⟩|⟨b15,hm⟩
      ·exact q_vu [qf 3 b15] 3 [4,44] [(53,vb (!(((((a1.Read.getD x7.toNat dd).P).X)==0)&&(((((a1.Read.getD x7.toNat dd).P).Y)==0)&&true))))] [1] [] (q_J (!(((((a1.Read.getD x7.toNat dd).P).X)==0)&&(((((a1.Read.getD x7.toNat dd).P).Y)==0)&&true))) hm)
      ·exact q_vu [qf 3 b15] 3 [4,44] [(53,vb false)] [1] [] (q_J (false) hm)
   ·rcases bif_c hm with⟨b10,hm⟩|⟨b10,hm⟩
    ·obtain⟨v11,h12,hm⟩:=qD hm
     exact q_vv [qf 2 b10,qd 5 (drw 2 0 (rf qC [(a1.Read.getD x7.toNat dd).P])) (litP qC dd 2 (λ_=>rfl) ([(a1.Read.getD x7.toNat dd).P]:List qA) 1 rfl),qd 6 (dex (cen [] [] 3 0 (PQ v11) (QT v11) [38,41] [2])) (zF (K:=(kx E 54 0)) (xs':=[.one (.lst 1 (rf qC [(a1.Read.getD x7.toNat dd).P]))]) (b:=false) ⟨[(38,vb true),(41,vo 2 0 2 1)],[(2,ro 0 71 2 1 (rf qC [(a1.Read.getD x7.toNat dd).P]))]⟩ (opAt (rg f40 7460) 6) [] [] 3 (o1 (ko 1)) (by simp only[tl,rf,show([(a1.Read.getD x7.toNat dd).P]:List qA).length=1 from rfl]) (qDH ([(a1.Read.getD x7.toNat dd).P]:List qA) v11 h12) (.inr ⟨(by kernel_rfl),qFf v11⟩) (by kernel_rfl))] 2 [] [(44,vb (!v11))] (q_J (!v11) hm)
    ·exact q_vv [qf 2 b10] 2 [] [(44,vb false)] (q_J (false) hm)
  ·refine q_ex 1 ?_;obtain rfl:=oi hm;exact q_l1 ()
theorem qEO (a1:Ring) (r:Int) (hm:RP a1=some r):CtX Tryz.prog globs 40 0 0 [.agg (qM a1)] [] (NZ r) (FF r):=by
 unfold RP at hm;refine q_E f40 54 λE=>?_;refine s_vn [] 0 ⟨[(1,vp 0 0)],[(0,bx 45 (qM a1))]⟩ (q_sq ?_);refine q_bk 0 (s_va 1 [(5,vb (decide ((a1.Read.length:Int)<8)))] ?_);refine q_cq hm (λhm=>?_) (λhm=>?_)
 ·refine s_vn [] 1 ⟨[(2,vi 3)],[]⟩ ?_;obtain rfl:=oi hm;exact q_rt q_rm
 ·refine s_vv [] 1 [5] [(10,vb (decide ((a1.Read.length:Int)>32)))] (q_cq hm (λhm=>?_) (λhm=>?_))
  ·refine s_vn [] 1 ⟨[(2,vi 4)],[]⟩ ?_;obtain rfl:=oi hm;exact q_rt q_rm
  ·refine q_jn (qCK a1) (λp=>PH a1 p=some r) ?_ ?_
   ·rintro x5 hm;refine q_cq hm (λhm=>?_) (λhm=>?_)
    ·refine s_vn [] 1 ⟨[(2,vi 9)],[]⟩ ?_;obtain rfl:=oi hm;exact q_rt q_rm
    ·refine q_sk (q_sq ?_);refine s_vv [] 1 [15] [(3,vi 0)] ?_;obtain⟨u20,h19,hm⟩:=qD hm;refine zI (nd f40 116) 1 (by kernel_rfl) FUEL (λo=>HH) (λv st=>RetQ Tryz.prog f40 (NZ v) (FF v) .ret st) u20 (q_hl (UC a1 0) (qB0 E a1 FUEL 0 u20 h19)) ?_ ?_
     ·rintro v21 rfl st hr;obtain rfl:=oi hm;exact hr
     ·rintro o18 rfl;replace hm:_=some r:=hm;refine s_vn [] 1 ⟨[(2,vi 0)],[]⟩ ?_;obtain rfl:=oi hm;exact q_rt q_rm
   ·rcases bif_c hm with⟨b4,hm⟩|⟨b4,hm⟩
    ·exact q_vv [qf 3 b4] 1 [10] [(15,vb true)] (q_J (true) hm)
    ·exact q_vv [qf 3 b4] 1 [10] [(15,vb (decide (a1.Z>20000)))] (q_J (decide (a1.Z>20000)) hm)
open Go.Proofs Go.Proofs.Tryz
def qGK (r:Bool):V:=vb r
def qGo (r:Bool):List (Nat×(Nat×O)):=[]
def qCv (x4:Bool):St:=
 ⟨[(2,vb x4)],[]⟩
theorem qFc (a1:Box) (r:Bool) (hm:RO a1=some r):CtX Tryz.prog globs 87 0 0 [.agg (BB a1)] [] (qGK r) (qGo r):=by
 unfold RO at hm;refine q_E f87 28 λE=>?_;refine s_vn [] 0 ⟨[(1,vp 0 0)],[(0,bx 66 (BB a1))]⟩ (q_jn (qCv) (λp=>JI p=some r) ?_ ?_)
 ·rintro x4 hm;obtain rfl:=oi hm;exact q_rt q_rm
 ·rcases bif_c hm with⟨b2,hm⟩|⟨b2,hm⟩
  ·exact q_vn [qf 7 b2] 1 ⟨[(2,vb true)],[]⟩ (q_J (true) hm)
  ·rcases bif_c hm with⟨b3,hm⟩|⟨b3,hm⟩
   ·exact q_vn [qf 7 b2,qf 16 b3] 1 ⟨[(2,vb true)],[]⟩ (q_J (true) hm)
   ·exact q_vn [qf 7 b2,qf 16 b3] 1 ⟨[(2,vb (decide (a1.Z.A≥a1.Z.B)))],[]⟩ (q_J (decide (a1.Z.A≥a1.Z.B)) hm)
def qKg (r:Bool):V:=vb r
def qJ4 (r:Bool):List (Nat×(Nat×O)):=[]
def qGM (x5:Bool):St:=
 ⟨[(6,vb x5)],[]⟩
theorem XH (a1:Span) (a2:Int) (a3:Int) (r:Bool) (hm:UF a1 a2 a3=some r):CtX Tryz.prog globs 143 0 0 [.agg (qN a1),.one (ci a2),.one (ci a3)] [] (qKg r) (qJ4 r):=by
 unfold UF at hm;refine q_E f143 17 λE=>?_;refine s_vn [] 0 ⟨[(1,vi a2),(2,vi a3),(3,vp 0 0)],[(0,bx 64 (qN a1))]⟩ (q_jn (qGM) (λp=>BG p=some r) ?_ ?_)
 ·rintro x5 hm;obtain rfl:=oi hm;exact q_rt q_rm
 ·rcases bif_c hm with⟨b4,hm⟩|⟨b4,hm⟩
  ·exact q_vn [qf 4 b4] 1 ⟨[(6,vb (decide (a1.B<=a3)))],[]⟩ (q_J (decide (a1.B<=a3)) hm)
  ·exact q_vn [qf 4 b4] 1 ⟨[(6,vb false)],[]⟩ (q_J (false) hm)
def qFd (r:Bool):V:=vb r
def qEL (r:Bool):List (Nat×(Nat×O)):=[]
def qBP (x10:Bool):St:=
 ⟨[(2,vb x10)],[]⟩
theorem qDO (a1:Box) (r:Bool) (hm:KZ a1=some r):CtX Tryz.prog globs 88 0 0 [.agg (BB a1)] [] (qFd r) (qEL r):=by
 unfold KZ at hm;refine q_E f88 16 λE=>?_;refine s_vn [] 0 ⟨[(1,vp 0 0)],[(0,bx 66 (BB a1))]⟩ (q_jn (qBP) (λp=>WM p=some r) ?_ ?_)
 ·rintro x10 hm;obtain rfl:=oi hm;exact q_rt q_rm
 ·obtain⟨v2,h3,hm⟩:=qD hm;rcases bif_c hm with⟨b4,hm⟩|⟨b4,hm⟩
  ·obtain⟨v5,h6,hm⟩:=qD hm;rcases bif_c hm with⟨b7,hm⟩|⟨b7,hm⟩
   ·obtain⟨v8,h9,hm⟩:=qD hm;exact q_vn [qk 2 [4] 1 ⟨[(4,va (qN a1.X))],[]⟩ (XH a1.X (-600) 600 v2 h3),qf 3 b4,qk 6 [6,8] 1 ⟨[(6,vb true),(8,va (qN a1.Y))],[]⟩ (XH a1.Y (-600) 600 v5 h6),qf 8 b7,qk 11 [11,13] 1 ⟨[(11,vb true),(13,va (qN a1.Z))],[]⟩ (XH a1.Z 0 20000 v8 h9)] 1 ⟨[(2,vb v8)],[]⟩ (q_J (v8) hm)
   ·exact q_vn [qk 2 [4] 1 ⟨[(4,va (qN a1.X))],[]⟩ (XH a1.X (-600) 600 v2 h3),qf 3 b4,qk 6 [6,8] 1 ⟨[(6,vb true),(8,va (qN a1.Y))],[]⟩ (XH a1.Y (-600) 600 v5 h6),qf 8 b7] 1 ⟨[(2,vb false)],[]⟩ (q_J (false) hm)
  ·exact q_vn [qk 2 [4] 1 ⟨[(4,va (qN a1.X))],[]⟩ (XH a1.X (-600) 600 v2 h3),qf 3 b4] 1 ⟨[(2,vb false)],[]⟩ (q_J (false) hm)
open Go.Proofs Go.Proofs.Tryz
def FC (r:Int):V:=vi r
def NX (r:Int):List (Nat×(Nat×O)):=[]
def qDk (a1:List qG) (x3:Int) (x7:Bool):St:=
 ⟨[(0,vc (tl qL dd a1)),(3,vi x3),(13,vb x7)],[]⟩
def TJ (a1:List qG) (x3:Int):St:=
 ⟨[(0,vc (tl qL dd a1)),(3,vi x3)],[]⟩
def MJ :St:=
 ⟨[],[]⟩
theorem qB3 (E:Env 0) (a1:List qG):∀(n:Nat) (x3:Int) (res:Int⊕Unit),wQ a1 n x3=some res->HL (kx E 43 0) (nd f41 116) (zY 0 (λo=>MJ) (λv st=>RetQ Tryz.prog f41 (FC v) (NX v) .ret st) res) n (TJ a1 x3):=by
 intro n
 induction n with
 |zero=>
  intro x3 res hm;cases hm
 |succ n ih=>
  intro x3 res hm;refine qS (q_sq ?_);refine s_va 0 [(10,vb (decide (x3<(a1.length:Int))))] (q_cq hm (λhm=>?_) (λhm=>?_))
  ·refine q_sk (q_sq ?_);refine q_bk 1 (q_bk 2 ?_);refine q_jn (qDk a1 x3) (λp=>PT a1 x3 (wQ a1 n) p=some res) ?_ ?_
   ·rintro x7 hm;refine q_cq hm (λhm=>?_) (λhm=>?_)
    ·refine s_vn [] 0 ⟨[(2,vi 10)],[]⟩ ?_;obtain rfl:=oi hm;refine q_rt (qX 10 ?_);exact q_rm
    ·obtain⟨g9,hm⟩:=qJ hm;obtain⟨v10,h11,hm⟩:=qD hm;refine s_vv [qi 2 g9,qc 5 [33] 0 (qFc ((a1.getD x3.toNat dd).Box) v10 h11)] 0 [13] [(28,vb v10)] (q_cq hm (λhm=>?_) (λhm=>?_))
     ·refine s_vn [] 0 ⟨[(2,vi 19)],[]⟩ ?_;obtain rfl:=oi hm;refine q_rt (qX 19 ?_);exact q_rm
     ·obtain⟨v13,h14,hm⟩:=qD hm;refine s_vv [qi 2 g9,qc 5 [40] 0 (qDO ((a1.getD x3.toNat dd).Box) v13 h14)] 0 [28] [(35,vb (!v13))] (q_cq hm (λhm=>?_) (λhm=>?_))
      ·refine s_vn [] 0 ⟨[(2,vi 9)],[]⟩ ?_;obtain rfl:=oi hm;refine q_rt (qX 9 ?_);exact q_rm
      ·refine q_sk (q_vv [] 0 [3,35] [(3,vi (w64 (x3+1)))] ?_);exact q_hl (TJ a1 (w64 (x3+1))) (ih (w64 (x3+1)) _ hm)
   ·obtain⟨g5,hm⟩:=qJ hm;rcases bif_c hm with⟨b6,hm⟩|⟨b6,hm⟩
    ·exact q_vv [qi 2 g5,qf 6 b6] 0 [10] [(13,vb true)] (q_J (true) hm)
    ·exact q_vv [qi 2 g5,qf 6 b6,qi 9 g5] 0 [10] [(13,vb (decide (((a1.getD x3.toNat dd).Kind)>6)))] (q_J (decide (((a1.getD x3.toNat dd).Kind)>6)) hm)
  ·refine q_ex 0 ?_;obtain rfl:=oi hm;exact q_l1 ()
theorem qEP (a1:List qG) (r:Int) (hm:RQ a1=some r):CtX Tryz.prog globs 41 0 0 [.one (tl qL dd a1)] [] (FC r) (NX r):=by
 unfold RQ at hm;refine q_E f41 43 λE=>?_;refine s_vn [] 0 ⟨[(0,vc (tl qL dd a1))],[]⟩ (q_sq ?_);refine s_va 0 [(6,vb (decide ((a1.length:Int)>64)))] (q_cq hm (λhm=>?_) (λhm=>?_))
 ·refine s_vn [] 0 ⟨[(2,vi 4)],[]⟩ ?_;obtain rfl:=oi hm;exact q_rt q_rm
 ·refine q_sk (q_sq ?_);refine s_vv [] 0 [6] [(3,vi 0)] ?_;obtain⟨u18,h17,hm⟩:=qD hm;refine zI (nd f41 116) 0 (by kernel_rfl) FUEL (λo=>MJ) (λv st=>RetQ Tryz.prog f41 (FC v) (NX v) .ret st) u18 (q_hl (TJ a1 0) (qB3 E a1 FUEL 0 u18 h17)) ?_ ?_
  ·rintro v19 rfl st hr;obtain rfl:=oi hm;exact hr
  ·rintro o16 rfl;replace hm:_=some r:=hm;refine s_vn [] 0 ⟨[(2,vi 0)],[]⟩ ?_;obtain rfl:=oi hm;exact q_rt q_rm
def ZU (r:Int):V:=vi r
def yB (r:Int):List (Nat×(Nat×O)):=[]
theorem qGv (r:Int):jQ (yB r):=by
 intro i k o h;unfold yB at h;cases h
def qCP (a1:Scan) (x5:Int) (x15:Bool):St:=
 ⟨[(1,vp 0 0),(4,vi x5),(5,vp 1 0),(50,vb x15)],[(0,bx 25 (qV a1)),(1,bx 45 (qM (a1.Rings.getD x5.toNat dd)))]⟩
def TQ (a1:Scan) (x4:Int) (x5:Int):St:=
 ⟨[(1,vp 0 0),(3,vi x4),(4,vi x5)],[(0,bx 25 (qV a1))]⟩
def HI (a1:Scan) (x19:Int):St:=
 ⟨[(1,vp 0 0),(3,vi x19)],[(0,bx 25 (qV a1))]⟩
def TH (a1:Scan) (o20:Int) (x27:Int):St:=
 ⟨[(1,vp 0 0),(3,vi o20),(8,vi x27)],[(0,bx 25 (qV a1))]⟩
def LX :St:=
 ⟨[],[]⟩
theorem qBJ (E:Env 0) (a1:Scan):∀(n:Nat) (x4:Int) (x5:Int) (res:Int⊕Int),zJ a1 n x4 x5=some res->HL (kx E 86 0) (nd f14 500) (zY 0 (λo=>HI a1 o) (λv st=>RetQ Tryz.prog f14 (ZU v) (yB v) .ret st) res) n (TQ a1 x4 x5):=by
 intro n
 induction n with
 |zero=>
  intro x4 x5 res hm;cases hm
 |succ n ih=>
  intro x4 x5 res hm;refine qS (q_sq ?_);refine s_va 1 [(21,vb (decide (x5<(a1.Rings.length:Int))))] (q_cq hm (λhm=>?_) (λhm=>?_))
  ·refine q_sk (q_sq ?_);refine q_bk 1 ?_;obtain⟨g7,hm⟩:=qJ hm;refine s_vu [qi 3 g7] 1 [21] [(5,vp 1 0)] [] [(1,bx 45 (qM (a1.Rings.getD x5.toNat dd)))] (q_sq ?_);obtain⟨v8,h9,hm⟩:=qD hm;refine s_vv [qc 1 [29] 2 (qEO (a1.Rings.getD x5.toNat dd) v8 h9)] 2 [] [(6,vi v8)] (s_va 2 [(32,vb (v8 !=0))] ?_);refine q_cq hm (λhm=>?_) (λhm=>?_)
   ·refine s_vn [] 2 ⟨[(2,vi v8)],[]⟩ ?_;obtain rfl:=oi hm;refine q_rt (qX v8 ?_);exact q_rm
   ·refine q_sk (q_sq ?_);refine q_jn (qCP a1 x5) (λp=>yH a1 x5 (zJ a1 n) p=some res) ?_ ?_
    ·rintro x15 hm;refine q_cq hm (λhm=>?_) (λhm=>?_)
     ·refine s_vn [] 2 ⟨[(2,vi 11)],[]⟩ ?_;obtain rfl:=oi hm;refine q_rt (qX 11 ?_);exact q_rm
     ·refine q_sk (q_sq ?_);obtain⟨g17,hm⟩:=qJ hm;refine s_du [qi 5 g17] [0,1,3,0,8,24,56,120,248,511] 2 [50] [(60,vb (((((a1.Rings.getD x5.toNat dd).Read).length:Nat):Int) !=((((a1.Rings.getD (0:Int).toNat dd).Read).length:Nat):Int)))] [] [] (q_cq hm (λhm=>?_) (λhm=>?_))
      ·refine s_vn [] 2 ⟨[(2,vi 19)],[]⟩ ?_;obtain rfl:=oi hm;refine q_rt (qX 19 ?_);exact q_rm
      ·refine q_sk (q_vu [] 2 [5,60] [(3,vi ((a1.Rings.getD x5.toNat dd).Z))] [1] [] ?_);exact q_vv [] 2 [4] [(4,vi (w64 (x5+1)))] (q_hl (TQ a1 ((a1.Rings.getD x5.toNat dd).Z) (w64 (x5+1))) (ih ((a1.Rings.getD x5.toNat dd).Z) (w64 (x5+1)) _ hm))
    ·rcases bif_c hm with⟨b11,hm⟩|⟨b11,hm⟩
     ·rcases bif_c hm with⟨b12,hm⟩|⟨b12,hm⟩
      ·exact q_vv [qf 2 b11,qf 7 b12] 2 [3,6,32] [(50,vb true)] (q_J (true) hm)
      ·rcases bif_c hm with⟨b13,hm⟩|⟨b13,hm⟩
       ·exact q_vv [qf 2 b11,qf 7 b12,qf 10 b13] 2 [3,6,32] [(50,vb (decide (((a1.Rings.getD x5.toNat dd).Z)<=x4)))] (q_J (decide (((a1.Rings.getD x5.toNat dd).Z)<=x4)) hm)
       ·exact q_vv [qf 2 b11,qf 7 b12,qf 10 b13] 2 [3,6,32] [(50,vb false)] (q_J (false) hm)
     ·rcases bif_c hm with⟨b14,hm⟩|⟨b14,hm⟩
      ·exact q_vv [qf 2 b11,qf 10 b14] 2 [3,6,32] [(50,vb (decide (((a1.Rings.getD x5.toNat dd).Z)<=x4)))] (q_J (decide (((a1.Rings.getD x5.toNat dd).Z)<=x4)) hm)
      ·exact q_vv [qf 2 b11,qf 10 b14] 2 [3,6,32] [(50,vb false)] (q_J (false) hm)
  ·refine q_ex 0 ?_;obtain rfl:=oi hm;exact q_l1 x4
theorem qCh (E:Env 0) (a1:Scan) (o20:Int):∀(n:Nat) (x27:Int) (res:Int⊕Unit),QR a1 o20 n x27=some res->HL (kx E 86 0) (nd f14 2036) (zY 2 (λo=>LX) (λv st=>RetQ Tryz.prog f14 (ZU v) (yB v) .ret st) res) n (TH a1 o20 x27):=by
 intro n
 induction n with
 |zero=>
  intro x27 res hm;cases hm
 |succ n ih=>
  intro x27 res hm;refine qS (q_sq ?_);refine s_va 1 [(73,vb (decide (x27<(a1.Defects.length:Int))))] (q_cq hm (λhm=>?_) (λhm=>?_))
  ·refine q_sk (q_sq ?_);refine q_bk 3 ?_;obtain⟨g29,hm⟩:=qJ hm;refine s_vv [qi 3 g29] 1 [73] [(85,vb (decide (((((a1.Defects.getD x27.toNat dd).Box).Z).B)>o20)))] (q_cq hm (λhm=>?_) (λhm=>?_))
   ·refine s_vn [] 1 ⟨[(2,vi 9)],[]⟩ ?_;obtain rfl:=oi hm;refine q_rt (qX 9 ?_);exact q_rm
   ·refine q_sk (q_vv [] 1 [8,85] [(8,vi (w64 (x27+1)))] ?_);exact q_hl (TH a1 o20 (w64 (x27+1))) (ih (w64 (x27+1)) _ hm)
  ·refine q_ex 2 ?_;obtain rfl:=oi hm;exact q_l1 ()
theorem IU (a1:Scan) (r:Int) (hm:XI a1=some r):CtX Tryz.prog globs 14 0 0 [.agg (qV a1)] [] (ZU r) (yB r):=by
 unfold XI at hm;refine q_E f14 86 λE=>?_;refine s_vn [] 0 ⟨[(1,vp 0 0)],[(0,bx 25 (qV a1))]⟩ (q_sq ?_);refine s_va 1 [(12,vb (decide ((a1.Rings.length:Int)<2)))] (q_cq hm (λhm=>?_) (λhm=>?_))
 ·refine s_vn [] 1 ⟨[(2,vi 3)],[]⟩ ?_;obtain rfl:=oi hm;exact q_rt q_rm
 ·refine q_sk (q_sq ?_);refine s_vv [] 1 [12] [(16,vb (decide ((a1.Rings.length:Int)>24)))] (q_cq hm (λhm=>?_) (λhm=>?_))
  ·refine s_vn [] 1 ⟨[(2,vi 4)],[]⟩ ?_;obtain rfl:=oi hm;exact q_rt q_rm
  ·refine q_sk (s_vv [] 1 [16] [(3,vi 0)] ?_);refine q_sq (s_va 1 [(4,vi 0)] ?_);obtain⟨u22,h21,hm⟩:=qD hm;refine zI (nd f14 500) 0 (by kernel_rfl) FUEL (λo=>HI a1 o) (λv st=>RetQ Tryz.prog f14 (ZU v) (yB v) .ret st) u22 (q_hl (TQ a1 0 0) (qBJ E a1 FUEL 0 0 u22 h21)) ?_ ?_
   ·rintro v23 rfl st hr;obtain rfl:=oi hm;exact hr
   ·rintro o20 rfl;replace hm:_=some r:=hm;refine q_sq ?_;obtain⟨v24,h25,hm⟩:=qD hm;refine s_vv [qc 2 [64] 1 (qEP a1.Defects v24 h25)] 1 [] [(7,vi v24)] (s_va 1 [(67,vb (v24 !=0))] ?_);refine q_cq hm (λhm=>?_) (λhm=>?_)
    ·refine s_vn [] 1 ⟨[(2,vi v24)],[]⟩ ?_;obtain rfl:=oi hm;exact q_rt q_rm
    ·refine q_sk (q_sq ?_);refine s_vv [] 1 [7,67] [(8,vi 0)] ?_;obtain⟨u33,h32,hm⟩:=qD hm;refine zI (nd f14 2036) 2 (by kernel_rfl) FUEL (λo=>LX) (λv st=>RetQ Tryz.prog f14 (ZU v) (yB v) .ret st) u33 (q_hl (TH a1 o20 0) (qCh E a1 o20 FUEL 0 u33 h32)) ?_ ?_
     ·rintro v34 rfl st hr;obtain rfl:=oi hm;exact hr
     ·rintro o31 rfl;replace hm:_=some r:=hm;refine s_vn [] 1 ⟨[(2,vi 0)],[]⟩ ?_;obtain rfl:=oi hm;exact q_rt q_rm
def qFk (r:ByteArray×Int):V:= .tup [.one (cs r.1),.one (ci r.2)]
def qES (r:ByteArray×Int):List (Nat×(Nat×O)):=[]
def RB (a1:Scan) (l5:List Int) (l5n:Nat) (x6:ByteArray) (x7:Int):St:=
 ⟨[(1,vp 0 0),(5,vo 1 0 1 l5n),(6,vc (.emp)),(7,vc (cs x6)),(8,vi x7)],[(0,bx 25 (qV a1)),(1,ro 0 3 1 l5n (rf qH l5))]⟩
def FU (a1:Scan) (l16:List Int) (x17:ByteArray):St:=
 ⟨[(1,vp 0 0),(5,vo 1 0 1 l16.length),(6,vc (.emp)),(7,vc (cs x17))],[(0,bx 25 (qV a1)),(1,ro 0 3 1 l16.length (rf qH l16))]⟩
def RG (a1:Scan) (o18:(List Int)×ByteArray) (l20:List Int) (l20n:Nat) (x21:Int):St:=
 ⟨[(1,vp 0 0),(5,vo 1 0 1 o18.1.length),(6,vo 2 0 1 l20n),(7,vc (cs o18.2)),(9,vi x21)],[(0,bx 25 (qV a1)),(1,ro 0 3 1 o18.1.length (rf qH o18.1)),(2,ro 0 3 1 l20n (rf qH l20))]⟩
def FQ (o18:(List Int)×ByteArray) (l25:List Int):St:=
 ⟨[(5,vo 1 0 1 o18.1.length),(6,vo 2 0 1 l25.length),(7,vc (cs o18.2))],[(1,ro 0 3 1 o18.1.length (rf qH o18.1)),(2,ro 0 3 1 l25.length (rf qH l25))]⟩
theorem qAG (E:Env 0) (a1:Scan):∀(n:Nat) (l5:List Int) (l5n:Nat) (x6:ByteArray) (x7:Int) (res:(List Int)×ByteArray),l5.length=l5n->wS a1 n l5 x6 x7=some res->HL (kx E 88 0) (nd f20 500) (zP 0 (λo=>FU a1 o.1 o.2) res) n (RB a1 l5 l5n x6 x7):=by
 intro n
 induction n with
 |zero=>
  intro l5 l5n x6 x7 res hl0 hm;cases hm
 |succ n ih=>
  intro l5 l5n x6 x7 res hl0 hm;subst hl0;refine qS (q_sq ?_);refine s_va 2 [(20,vb (decide (x7<(a1.Rings.length:Int))))] (q_cq hm (λhm=>?_) (λhm=>?_))
  ·refine q_sk (q_sq ?_);refine q_bk 1 ?_;obtain⟨g9,hm⟩:=qJ hm;obtain⟨g10,hm⟩:=qJ hm;refine s_vu [qi 4 g9,qd 7 (drw 2 0 (rf qH [(a1.Rings.getD x7.toNat dd).Z])) (litP qH dd 1 (λ_=>rfl) ([(a1.Rings.getD x7.toNat dd).Z]:List Int) 1 rfl),qd 8 (drw 1 1 (rf qH (l5++[(a1.Rings.getD x7.toNat dd).Z]))) (apP qH dd l5 ([(a1.Rings.getD x7.toNat dd).Z]:List Int) l5.length 1 1 8 (1<=1) (ko _) rfl rfl (λ_=>rfl) (zK g10))] 2 [5,20] [(5,vo 1 1 1 (l5.length+1))] [1] [(1,ro 1 3 1 (l5.length+1) (rf qH (l5++[(a1.Rings.getD x7.toNat dd).Z])))] ?_;obtain⟨v11,h12,hm⟩:=qD hm;obtain⟨v13,h14,hm⟩:=qD hm
   obtain⟨g15,hm⟩:=qJ hm;refine q_vv [qi 4 g9,qc 6 [37] 3 (qC6 (a1.Rings.getD x7.toNat dd) v11 h12),qd 7 (dex (cen [] [] 4 0 (GC v13) (JS v13) [38] [3])) (zF (K:=(kx E 88 0)) (b:=false) ⟨[(38,vo 3 0 1 v11.length)],[(3,ro 0 3 1 v11.length (rf qH v11))]⟩ (opAt (rg f20 8009) 7) [] [] 4 (o1 (ko v11.length)) rfl (NN v11 v13 h14) (.inr ⟨(by kernel_rfl),MA v13⟩) (by kernel_rfl)),qd 8 dN (WH g15)] 3 [7] [(7,vc (cs (x6++v13)))] (q_vv [] 4 [8] [(8,vi (w64 (x7+1)))] ?_)
   exact q_hl (RB a1 (l5++[(a1.Rings.getD x7.toNat dd).Z]) (l5.length+1) (x6++v13) (w64 (x7+1))) (ih (l5++[(a1.Rings.getD x7.toNat dd).Z]) (l5.length+1) (x6++v13) (w64 (x7+1)) _ (zO rfl rfl) hm)
  ·refine q_ex 0 ?_;obtain rfl:=oi hm;exact q_l0
theorem qAY (E:Env 0) (a1:Scan) (o18:(List Int)×ByteArray):∀(n:Nat) (l20:List Int) (l20n:Nat) (x21:Int) (res:(List Int)),l20.length=l20n->jO a1 n l20 x21=some res->HL (kx E 88 0) (nd f20 1012) (zP 2 (λo=>FQ o18 o) res) n (RG a1 o18 l20 l20n x21):=by
 intro n
 induction n with
 |zero=>
  intro l20 l20n x21 res hl0 hm;cases hm
 |succ n ih=>
  intro l20 l20n x21 res hl0 hm;subst hl0;refine qS (q_sq ?_);refine s_va 3 [(45,vb (decide (x21<(a1.Defects.length:Int))))] (q_cq hm (λhm=>?_) (λhm=>?_))
  ·refine q_sk (q_sq ?_);refine q_bk 3 ?_;obtain⟨g23,hm⟩:=qJ hm;refine s_vu [qi 3 g23] 3 [45] [(10,vp 3 0)] [] [(3,bx 66 (BB ((a1.Defects.getD x21.toNat dd).Box)))] ?_;obtain⟨g24,hm⟩:=qJ hm
   refine q_du [qi 4 g23,qd 25 (drw 4 0 (rf qH [(a1.Defects.getD x21.toNat dd).Kind,(((a1.Defects.getD x21.toNat dd).Box).X).A,(((a1.Defects.getD x21.toNat dd).Box).X).B,(((a1.Defects.getD x21.toNat dd).Box).Y).A,(((a1.Defects.getD x21.toNat dd).Box).Y).B,(((a1.Defects.getD x21.toNat dd).Box).Z).A,(((a1.Defects.getD x21.toNat dd).Box).Z).B])) (litP qH dd 1 (λ_=>rfl) ([(a1.Defects.getD x21.toNat dd).Kind,(((a1.Defects.getD x21.toNat dd).Box).X).A,(((a1.Defects.getD x21.toNat dd).Box).X).B,(((a1.Defects.getD x21.toNat dd).Box).Y).A,(((a1.Defects.getD x21.toNat dd).Box).Y).B,(((a1.Defects.getD x21.toNat dd).Box).Z).A,(((a1.Defects.getD x21.toNat dd).Box).Z).B]:List Int) 7 rfl),qd 26 (drw 2 1 (rf qH (l20++[(a1.Defects.getD x21.toNat dd).Kind,(((a1.Defects.getD x21.toNat dd).Box).X).A,(((a1.Defects.getD x21.toNat dd).Box).X).B,(((a1.Defects.getD x21.toNat dd).Box).Y).A,(((a1.Defects.getD x21.toNat dd).Box).Y).B,(((a1.Defects.getD x21.toNat dd).Box).Z).A,(((a1.Defects.getD x21.toNat dd).Box).Z).B]))) (apP qH dd l20 ([(a1.Defects.getD x21.toNat dd).Kind,(((a1.Defects.getD x21.toNat dd).Box).X).A,(((a1.Defects.getD x21.toNat dd).Box).X).B,(((a1.Defects.getD x21.toNat dd).Box).Y).A,(((a1.Defects.getD x21.toNat dd).Box).Y).B,(((a1.Defects.getD x21.toNat dd).Box).Z).A,(((a1.Defects.getD x21.toNat dd).Box).Z).B]:List Int) l20.length 7 1 8 (7<=7) (ko _) rfl rfl (λ_=>rfl) (zK g24))] [0,0,2,0,14,30,62,0,128,384,0,1024,3072,0,8192,24576,0,65536,196608,0,524288,1572864,0,4194304,12582912,33554430,67108863,134217727] 4 [6,10] [(6,vo 2 1 1 (l20.length+7))] [2,3] [(2,ro 1 3 1 (l20.length+7) (rf qH (l20++[(a1.Defects.getD x21.toNat dd).Kind,(((a1.Defects.getD x21.toNat dd).Box).X).A,(((a1.Defects.getD x21.toNat dd).Box).X).B,(((a1.Defects.getD x21.toNat dd).Box).Y).A,(((a1.Defects.getD x21.toNat dd).Box).Y).B,(((a1.Defects.getD x21.toNat dd).Box).Z).A,(((a1.Defects.getD x21.toNat dd).Box).Z).B])))] ?_
   exact q_vv [] 5 [9] [(9,vi (w64 (x21+1)))] (q_hl (RG a1 o18 (l20++[(a1.Defects.getD x21.toNat dd).Kind,(((a1.Defects.getD x21.toNat dd).Box).X).A,(((a1.Defects.getD x21.toNat dd).Box).X).B,(((a1.Defects.getD x21.toNat dd).Box).Y).A,(((a1.Defects.getD x21.toNat dd).Box).Y).B,(((a1.Defects.getD x21.toNat dd).Box).Z).A,(((a1.Defects.getD x21.toNat dd).Box).Z).B]) (l20.length+7) (w64 (x21+1))) (ih (l20++[(a1.Defects.getD x21.toNat dd).Kind,(((a1.Defects.getD x21.toNat dd).Box).X).A,(((a1.Defects.getD x21.toNat dd).Box).X).B,(((a1.Defects.getD x21.toNat dd).Box).Y).A,(((a1.Defects.getD x21.toNat dd).Box).Y).B,(((a1.Defects.getD x21.toNat dd).Box).Z).A,(((a1.Defects.getD x21.toNat dd).Box).Z).B]) (l20.length+7) (w64 (x21+1)) _ (zO rfl rfl) hm))
  ·refine q_ex 2 ?_;obtain rfl:=oi hm;exact q_l0
theorem qDA (a1:Scan) (r:ByteArray×Int) (hm:KR a1=some r):CtX Tryz.prog globs 20 0 0 [.agg (qV a1)] [] (qFk r) (qES r):=by
 unfold KR at hm;refine q_E f20 88 λE=>?_;refine s_vn [] 0 ⟨[(1,vp 0 0)],[(0,bx 25 (qV a1))]⟩ (q_sq ?_);obtain⟨v2,h3,hm⟩:=qD hm;refine s_vv [qc 1 [11] 1 (IU a1 v2 h3)] 1 [] [(4,vi v2)] (s_va 1 [(14,vb (v2 !=0))] ?_);refine q_cq hm (λhm=>?_) (λhm=>?_)
 ·refine s_vn [] 1 ⟨[(2,vc (cs (ByteArray.mk #[]))),(3,vi v2)],[]⟩ ?_;obtain rfl:=oi hm;exact q_rt q_rm
 ·refine q_sk (s_vv [] 1 [4,14] [(5,vc (.emp)),(6,vc (.emp))] ?_);refine s_va 1 [(7,vc (cs (ByteArray.mk #[])))] (q_sq ?_);refine s_va 1 [(8,vi 0)] (q_fo 5 1 3 1 qH ?_);obtain⟨o18,h19,hm⟩:=qD hm;refine zM (nd f20 500) 0 (by kernel_rfl) FUEL (λo=>FU a1 o.1 o.2) o18 (q_hl (RB a1 ([]:List Int) 0 (ByteArray.mk #[]) 0) (qAG E a1 FUEL ([]:List Int) 0 (ByteArray.mk #[]) 0 o18 rfl h19)) (q_sq ?_);refine s_va 2 [(9,vi 0)] (q_fo 6 2 3 1 qH ?_);obtain⟨o26,h27,hm⟩:=qD hm
  refine zM (nd f20 1012) 2 (by kernel_rfl) FUEL (λo=>FQ o18 o) o26 (q_hl (RG a1 o18 ([]:List Int) 0 0) (qAY E a1 o18 FUEL ([]:List Int) 0 0 o26 rfl h27)) ?_;obtain⟨v28,h29,hm⟩:=qD hm;obtain⟨g30,hm⟩:=qJ hm;obtain⟨v31,h32,hm⟩:=qD hm;obtain⟨g33,hm⟩:=qJ hm
  refine s_vn [qd 1 (dex (cen [] [] 3 0 (GC v28) (JS v28) [81] [1])) (zF (K:=(kx E 88 0)) (b:=false) ⟨[(81,vo 1 0 1 o18.1.length)],[(1,ro 0 3 1 o18.1.length (rf qH o18.1))]⟩ (opAt (rg f20 254) 1) [] [] 3 (o1 (ko o18.1.length)) rfl (NN o18.1 v28 h29) (.inr ⟨(by kernel_rfl),MA v28⟩) (by kernel_rfl)),qd 3 dN (WH g30),qd 5 (dex (cen [] [] 3 0 (GC v31) (JS v31) [85] [2])) (zF (K:=(kx E 88 0)) (b:=false) ⟨[(85,vo 2 0 1 o26.length)],[(2,ro 0 3 1 o26.length (rf qH o26))]⟩ (opAt (rg f20 254) 5) [] [] 3 (o1 (ko o26.length)) rfl (NN o26 v31 h32) (.inr ⟨(by kernel_rfl),MA v31⟩) (by kernel_rfl)),qd 6 dN (WH g33)] 3 ⟨[(2,vc (cs ((v28++o18.2)++v31))),(3,vi 0)],[]⟩ ?_
  obtain rfl:=oi hm;exact q_rt q_rm
open Go.Proofs Go.Proofs.Tryz
def DJ (r:Int×Int×Int):V:= .tup [.one (.val (.int .u64 r.1)),.one (ci r.2.1),.one (ci r.2.2)]
def DZ (r:Int×Int×Int):List (Nat×(Nat×O)):=[]
def qCg (a1:ByteArray) (a2:Int) (x3:Int) (x4:Int) (x5:Int) (x14:Bool):St:=
 ⟨[(1,vi a2),(7,vc (.val (.int .u64 (IntKind.u64.wrap (x3+(IntKind.u64.wrap ((Int.tmod (IntKind.u64.wrap (zS a1 ((w64 (a2+x5)).toNat))) 128)*x4))))))),(9,vi x5),(50,vb x14)],[]⟩
def qBT (a1:ByteArray) (a2:Int) (x3:Int) (x4:Int) (x5:Int) (x10:Bool):St:=
 ⟨[(0,vc (cs a1)),(1,vi a2),(7,vc (.val (.int .u64 x3))),(8,vc (.val (.int .u64 x4))),(9,vi x5),(10,vc (.val (.int .u64 (IntKind.u64.wrap (zS a1 ((w64 (a2+x5)).toNat)))))),(33,vb x10)],[]⟩
def RE (a1:ByteArray) (a2:Int) (x3:Int) (x4:Int) (x5:Int):St:=
 ⟨[(0,vc (cs a1)),(1,vi a2),(7,vc (.val (.int .u64 x3))),(8,vc (.val (.int .u64 x4))),(9,vi x5)],[]⟩
def FZ (a2:Int):St:=
 ⟨[(1,vi a2)],[]⟩
theorem qA0 (E:Env 0) (a1:ByteArray) (a2:Int):∀(n:Nat) (x3:Int) (x4:Int) (x5:Int) (res:(Int×Int×Int)⊕Unit),wU a1 a2 n x3 x4 x5=some res->HL (kx E 58 0) (nd f166 116) (zY 0 (λo=>FZ a2) (λv st=>RetQ Tryz.prog f166 (DJ v) (DZ v) .ret st) res) n (RE a1 a2 x3 x4 x5):=by
 intro n
 induction n with
 |zero=>
  intro x3 x4 x5 res hm;cases hm
 |succ n ih=>
  intro x3 x4 x5 res hm;refine qS (q_sq ?_);refine s_va 0 [(12,vb (decide (x5<10)))] (q_cq hm (λhm=>?_) (λhm=>?_))
  ·refine q_sk (q_sq ?_);refine q_bk 1 (q_sq ?_);refine s_vv [] 0 [12] [(20,vb (decide ((w64 (a2+x5))≥(a1.size:Int))))] (q_cq hm (λhm=>?_) (λhm=>?_))
   ·refine s_vn [] 0 ⟨[(4,vc (.val (.int .u64 0))),(5,vi a2),(6,vi 3)],[]⟩ ?_;obtain rfl:=oi hm;refine q_rt (qX (0,a2,3) ?_);exact q_rm
   ·refine q_sk ?_;obtain⟨g8,hm⟩:=qJ hm;refine s_vv [qi 4 g8] 0 [20] [(10,vc (.val (.int .u64 (IntKind.u64.wrap (zS a1 ((w64 (a2+x5)).toNat))))))] (q_sq ?_);refine q_jn (qBT a1 a2 x3 x4 x5) (λp=>WO a1 a2 x3 x4 x5 (wU a1 a2 n) p=some res) ?_ ?_
    ·rintro x10 hm;refine q_cq hm (λhm=>?_) (λhm=>?_)
     ·refine s_vn [] 0 ⟨[(4,vc (.val (.int .u64 0))),(5,vi a2),(6,vi 5)],[]⟩ ?_;obtain rfl:=oi hm;refine q_rt (qX (0,a2,5) ?_);exact q_rm
     ·refine q_sk (s_vv [qd 2 dN (show(128:Int)≠0 by decide)] 0 [7,33] [(7,vc (.val (.int .u64 (IntKind.u64.wrap (x3+(IntKind.u64.wrap ((Int.tmod (IntKind.u64.wrap (zS a1 ((w64 (a2+x5)).toNat))) 128)*x4)))))))] ?_);refine s_vv [] 0 [8] [(8,vc (.val (.int .u64 (IntKind.u64.wrap (x4*128)))))] (s_va 0 [(44,vb (decide ((IntKind.u64.wrap (zS a1 ((w64 (a2+x5)).toNat)))<128)))] ?_);refine q_cq hm (λhm=>?_) (λhm=>?_)
      ·refine q_sq (q_jn (qCg a1 a2 x3 x4 x5) (λp=>XX a1 a2 x3 x4 x5 p=some res) ?_ ?_)
       ·rintro x14 hm;refine q_cq hm (λhm=>?_) (λhm=>?_)
        ·refine s_vn [] 0 ⟨[(4,vc (.val (.int .u64 0))),(5,vi a2),(6,vi 5)],[]⟩ ?_;obtain rfl:=oi hm;refine q_rt (qX (0,a2,5) ?_);exact q_rm
        ·refine q_sk (s_vn [] 0 ⟨[(4,vc (.val (.int .u64 (IntKind.u64.wrap (x3+(IntKind.u64.wrap ((Int.tmod (IntKind.u64.wrap (zS a1 ((w64 (a2+x5)).toNat))) 128)*x4))))))),(5,vi (w64 ((w64 (a2+x5))+1))),(6,vi 0)],[]⟩ ?_);obtain rfl:=oi hm;refine q_rt (qX (IntKind.u64.wrap (x3+(IntKind.u64.wrap ((Int.tmod (IntKind.u64.wrap (zS a1 ((w64 (a2+x5)).toNat))) 128)*x4))),w64 ((w64 (a2+x5))+1),0) ?_);exact q_rm
       ·rcases bif_c hm with⟨b13,hm⟩|⟨b13,hm⟩
        ·exact q_vv [qf 2 b13] 0 [0,8,10,44] [(50,vb (decide (x5>0)))] (q_J (decide (x5>0)) hm)
        ·exact q_vv [qf 2 b13] 0 [0,8,10,44] [(50,vb false)] (q_J (false) hm)
      ·refine q_sk (q_vv [] 0 [9,10,44] [(9,vi (w64 (x5+1)))] ?_);exact q_hl (RE a1 a2 (IntKind.u64.wrap (x3+(IntKind.u64.wrap ((Int.tmod (IntKind.u64.wrap (zS a1 ((w64 (a2+x5)).toNat))) 128)*x4)))) (IntKind.u64.wrap (x4*128)) (w64 (x5+1))) (ih (IntKind.u64.wrap (x3+(IntKind.u64.wrap ((Int.tmod (IntKind.u64.wrap (zS a1 ((w64 (a2+x5)).toNat))) 128)*x4)))) (IntKind.u64.wrap (x4*128)) (w64 (x5+1)) _ hm)
    ·rcases bif_c hm with⟨b9,hm⟩|⟨b9,hm⟩
     ·exact q_vv [qf 2 b9] 0 [] [(33,vb (decide ((IntKind.u64.wrap (zS a1 ((w64 (a2+x5)).toNat)))>1)))] (q_J (decide ((IntKind.u64.wrap (zS a1 ((w64 (a2+x5)).toNat)))>1)) hm)
     ·exact q_vv [qf 2 b9] 0 [] [(33,vb false)] (q_J (false) hm)
  ·refine q_ex 0 ?_;obtain rfl:=oi hm;exact q_l1 ()
theorem SN (a1:ByteArray) (a2:Int) (r:Int×Int×Int) (hm:JP a1 a2=some r):CtX Tryz.prog globs 166 0 0 [.one (cs a1),.one (ci a2)] [] (DJ r) (DZ r):=by
 unfold JP at hm;refine q_E f166 58 λE=>?_;refine s_vn [] 0 ⟨[(0,vc (cs a1)),(1,vi a2)],[]⟩ (s_va 0 [(7,vc (.val (.int .u64 0))),(8,vc (.val (.int .u64 1)))] ?_);refine q_sq (s_va 0 [(9,vi 0)] ?_);obtain⟨u18,h17,hm⟩:=qD hm;refine zI (nd f166 116) 0 (by kernel_rfl) FUEL (λo=>FZ a2) (λv st=>RetQ Tryz.prog f166 (DJ v) (DZ v) .ret st) u18 (q_hl (RE a1 a2 0 1 0) (qA0 E a1 a2 FUEL 0 1 0 u18 h17)) ?_ ?_
 ·rintro v19 rfl st hr;obtain rfl:=oi hm;exact hr
 ·rintro o16 rfl;replace hm:_=some r:=hm;refine s_vn [] 0 ⟨[(4,vc (.val (.int .u64 0))),(5,vi a2),(6,vi 5)],[]⟩ ?_;obtain rfl:=oi hm;exact q_rt q_rm
def qEW (r:Int×Int×Int):V:= .tup [.one (ci r.1),.one (ci r.2.1),.one (ci r.2.2)]
def qER (r:Int×Int×Int):List (Nat×(Nat×O)):=[]
def qBV (a2:Int) (v5:Int×Int×Int) (x9:Int) (x11:Bool):St:=
 ⟨[(1,vi a2),(12,vi v5.2.1),(14,vi x9),(42,vb x11)],[]⟩
def qB5 (a2:Int) (a3:Int) (a4:Int) (v5:Int×Int×Int) (x9:Int):St:=
 ⟨[(1,vi a2),(2,vi a3),(3,vi a4),(12,vi v5.2.1),(14,vi x9)],[]⟩
theorem qEb (a1:ByteArray) (a2:Int) (a3:Int) (a4:Int) (r:Int×Int×Int) (hm:KO a1 a2 a3 a4=some r):CtX Tryz.prog globs 168 0 0 [.one (cs a1),.one (ci a2),.one (ci a3),.one (ci a4)] [] (qEW r) (qER r):=by
 unfold KO at hm;refine q_E f168 46 λE=>?_;refine s_vn [] 0 ⟨[(0,vc (cs a1)),(1,vi a2),(2,vi a3),(3,vi a4)],[]⟩ ?_;obtain⟨v5,h6,hm⟩:=qD hm;refine s_vv [qc 2 [16,17] 0 (SN a1 a2 v5 h6)] 0 [0] [(11,vc (.val (.int .u64 v5.1))),(12,vi v5.2.1),(13,vi v5.2.2)] (q_sq ?_);refine s_va 0 [(23,vb (v5.2.2 !=0))] (q_cq hm (λhm=>?_) (λhm=>?_))
 ·refine s_vn [] 0 ⟨[(8,vi 0),(9,vi a2),(10,vi v5.2.2)],[]⟩ ?_;obtain rfl:=oi hm;exact q_rt q_rm
 ·refine q_sk (s_vv [qd 1 dN (show(2:Int)≠0 by decide)] 0 [13,23] [(14,vi (w64 (IntKind.u64.wrap (Int.tdiv v5.1 2))))] ?_);refine q_jn (qB5 a2 a3 a4 v5) (λp=>WB a2 a3 a4 v5 p=some r) ?_ ?_
  ·rintro x9 hm;refine q_sq (q_jn (qBV a2 v5 x9) (λp=>XV a2 v5 x9 p=some r) ?_ ?_)
   ·rintro x11 hm;refine q_cq hm (λhm=>?_) (λhm=>?_)
    ·refine s_vn [] 0 ⟨[(8,vi 0),(9,vi a2),(10,vi 9)],[]⟩ ?_;obtain rfl:=oi hm;exact q_rt q_rm
    ·refine q_sk (s_vn [] 0 ⟨[(8,vi x9),(9,vi v5.2.1),(10,vi 0)],[]⟩ ?_);obtain rfl:=oi hm;exact q_rt q_rm
   ·rcases bif_c hm with⟨b10,hm⟩|⟨b10,hm⟩
    ·exact q_vv [qf 3 b10] 0 [2,3] [(42,vb true)] (q_J (true) hm)
    ·exact q_vv [qf 3 b10] 0 [2,3] [(42,vb (decide (x9>a4)))] (q_J (decide (x9>a4)) hm)
  ·refine s_vv [qd 1 dN (show(2:Int)≠0 by decide)] 0 [11] [(31,vb ((Int.tmod v5.1 2)==1))] (q_cq hm (λhm=>?_) (λhm=>?_))
   ·exact q_vv [] 0 [14,31] [(14,vi (w64 ((w64 (0-(w64 (IntKind.u64.wrap (Int.tdiv v5.1 2)))))-1)))] (q_J (w64 ((w64 (0-(w64 (IntKind.u64.wrap (Int.tdiv v5.1 2)))))-1)) hm)
   ·exact q_sk (q_J (w64 (IntKind.u64.wrap (Int.tdiv v5.1 2))) hm)
def qHp (r:qI):V:=va (qR r)
def qHI (r:qI):List (Nat×(Nat×O)):=[]
theorem FI (a1:qI) (a2:Int) (r:qI) (hm:YK a1 a2=some r):CtX Tryz.prog globs 167 0 0 [.agg (qR a1),.one (ci a2)] [] (qHp r) (qHI r):=by
 unfold YK at hm;refine q_E f167 8 λE=>?_;refine s_vn [] 0 ⟨[(1,vi a2),(2,vp 0 0),(4,vp 1 0)],[(0,bx 139 (qR a1)),(1,bx 139 [cs (ByteArray.mk #[]),ci 0,ci 0])]⟩ (s_vu [] 2 [1] [] [0] [(0,bx 139 [cs a1.S,ci a1.At,ci a2])] ?_);refine s_vu [] 2 [2] [] [0,1] [(1,bx 139 [cs a1.S,ci a1.At,ci a2])] ?_;obtain rfl:=oi hm;exact q_rt q_rm
end Saw
end Go.SL

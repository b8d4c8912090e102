import Derived.Test.YthbamnkheinbgaaGreatDoorSBase
import Derived.Test.YthbamnkheinbgaaGreatDoorSFa1
set_option linter.unusedVariables false
set_option linter.unusedSimpArgs false
namespace Go.SL
namespace Saw
open Go.Proofs Go.Proofs.Tryz
set_option maxHeartbeats 4000000
set_option maxRecDepth 100000
def qBD (r:Bool):V:=vb r
def qCa (r:Bool):List (Nat×(Nat×O)):=[]
def RF (a1:List qA) (a2:qA) (x14:Int):St:=
 ⟨[(0,vc (tl qB dd a1)),(3,vp 0 0),(24,vc (tl qB dd a1)),(25,vi (a1.length:Int)),(26,vi x14)],[(0,bx 71 (qB a2))]⟩
def qIU (a1:List qA) (a2:qA) (x14:Int) (x31:Bool):St:=
 (RF a1 a2 x14).up [] [(5,vb x31)] [] []
def qIL (a1:List qA) (a2:qA) (x13:Bool) (x14:Int) (x29:Bool):St:=
 (RF a1 a2 x14).up [] [(5,vb x13),(68,vb x29)] [] []
def qCh (a1:List qA) (a2:qA) (x13:Bool) (x14:Int) (x23:qA) (x24:qA):St:=
 (RF a1 a2 x14).up [] [(5,vb x13),(7,vp 1 0),(8,vp 2 0)] [] [(1,bx 71 (qB x24)),(2,bx 71 (qB x23))]
def SZ (a1:List qA) (a2:qA) (x13:Bool) (x14:Int):St:=
 (RF a1 a2 x14).up [] [(5,vb x13)] [] []
def qCt (x32:Bool):St:=
 ⟨[(5,vb x32)],[]⟩
def qJe (a1:List qA) (a2:qA) (x11:Bool):St:=
 ⟨[(0,vc (tl qB dd a1)),(3,vp 0 0),(23,vb x11)],[(0,bx 71 (qB a2))]⟩
theorem qHv (E:Env 0) (a1:List qA) (a2:qA):∀(n:Nat) (x13:Bool) (x14:Int) (res:Bool⊕Bool),jW a1 a2 n x13 x14=some res->HL (kx E 73 0) (nd f64 244) (jJ 0 qCt (λv st=>RetQ Tryz.prog f64 (qBD v) (qCa v) .ret st) res) n (SZ a1 a2 x13 x14):=by
 intro n
 induction n with
 |zero=>
  intro x13 x14 res hm;cases hm
 |succ n ih=>
  intro x13 x14 res hm;refine qU (s_va 1 [(27,vb (decide (x14<(a1.length:Int))))] ?_);refine q_sq (q_cq hm (λhm=>?_) (λhm=>?_))
  ·refine q_sk (q_jn (qIU a1 a2 x14) (λp=>HD x14 (jW a1 a2 n) p=some res) ?_ ?_)
   ·rintro x31 hm;exact q_vv [] 3 [26] [(26,vi (w64 (x14+1)))] (q_hl (SZ a1 a2 x31 (w64 (x14+1))) (ih x31 (w64 (x14+1)) _ hm))
   ·refine q_bk 1 ?_;obtain⟨g16,hm⟩:=qH hm;refine s_vu [qi 1 g16] 1 [27] [(6,vi x14),(7,vp 1 0)] [] [(1,bx 71 (qB (a1.getD x14.toNat dd)))] ?_;obtain⟨g17,hm⟩:=qH hm;obtain⟨g18,hm⟩:=qH hm;refine s_vu [qd 5 dN (MN g17),qi 6 g18] 2 [6] [(8,vp 2 0)] [] [(2,bx 71 (qB (a1.getD (Int.tmod (w64 (x14+1)) (a1.length:Int)).toNat dd)))] (q_sq ?_);obtain⟨v19,h20,hm⟩:=qE hm;refine s_vv [qc 3 [39,40,41] 3 (qHu (a1.getD x14.toNat dd) (a1.getD (Int.tmod (w64 (x14+1)) (a1.length:Int)).toNat dd) a2 v19 h20)] 3 [] [(42,vb v19)] (q_cq hm (λhm=>?_) (λhm=>?_))
    ·refine s_vn [] 3 ⟨[(4,vb true)],[]⟩ ?_;obtain rfl:=oi hm;refine q_rt (zR true ?_);exact q_rm
    ·refine q_sk (q_jn (ι:=qA×qA) (λp=>qCh a1 a2 x13 x14 p.1 p.2) (λp=>PK a2 x13 x14 (jW a1 a2 n) p.1 p.2=some res) ?_ ?_)
     ·rintro⟨x23,x24⟩ hm;show H _ (qCh a1 a2 x13 x14 x23 x24) _ _;refine q_jn (qIL a1 a2 x13 x14) (λp=>VK x13 x14 (jW a1 a2 n) p=some res) ?_ ?_
      ·rintro x29 hm;refine q_cq hm (λhm=>?_) (λhm=>?_)
       ·exact q_vv [] 3 [5,68] [(5,vb (!x13))] (q_J (!x13) hm)
       ·exact q_sk (q_J (x13) hm)
      ·rcases bif_c hm with⟨b25,hm⟩|⟨b25,hm⟩
       ·rcases bif_c hm with⟨b26,hm⟩|⟨b26,hm⟩
        ·obtain⟨v27,h28,hm⟩:=qE hm;exact q_vu [qf 5 b25,qf 12 b26,qk 16 [62,63,64,65] 3 ⟨[(62,vb true),(63,va (qB x24)),(64,va (qB x23)),(65,va (qB a2))],[]⟩ (ZA x24 x23 a2 v27 h28)] 3 [7,8] [(68,vb (decide (v27>0)))] [1,2] [] (q_J (decide (v27>0)) hm)
        ·exact q_vu [qf 5 b25,qf 12 b26] 3 [7,8] [(68,vb false)] [1,2] [] (q_J (false) hm)
       ·exact q_vu [qf 5 b25] 3 [7,8] [(68,vb false)] [1,2] [] (q_J (false) hm)
     ·refine s_vv [] 3 [42] [(47,vb (decide (((a1.getD x14.toNat dd).Y)>((a1.getD (Int.tmod (w64 (x14+1)) (a1.length:Int)).toNat dd).Y))))] (q_cq hm (λhm=>?_) (λhm=>?_))
      ·exact q_vu [] 3 [47] [] [1,2] [(1,bx 71 (qB (a1.getD (Int.tmod (w64 (x14+1)) (a1.length:Int)).toNat dd))),(2,bx 71 (qB (a1.getD x14.toNat dd)))] (q_J ((a1.getD x14.toNat dd),(a1.getD (Int.tmod (w64 (x14+1)) (a1.length:Int)).toNat dd)) hm)
      ·exact q_sk (q_J ((a1.getD (Int.tmod (w64 (x14+1)) (a1.length:Int)).toNat dd),(a1.getD x14.toNat dd)) hm)
  ·refine q_ex 0 ?_;obtain rfl:=oi hm;exact q_l1 x13
theorem jU (a1:List qA) (a2:qA) (r:Bool) (hm:TC a1 a2=some r):CtX Tryz.prog globs 64 0 0 [.one (tl qB dd a1),.agg (qB a2)] [] (qBD r) (qCa r):=by
 unfold TC at hm;refine q_E f64 73 λE=>?_;refine s_vn [] 0 ⟨[(0,vc (tl qB dd a1)),(3,vp 0 0)],[(0,bx 71 (qB a2))]⟩ (q_sq ?_);refine q_jn (qJe a1 a2) (λp=>VX a1 a2 p=some r) ?_ ?_
 ·rintro x11 hm;refine q_cq hm (λhm=>?_) (λhm=>?_)
  ·refine s_vn [] 1 ⟨[(4,vb false)],[]⟩ ?_;obtain rfl:=oi hm;exact q_rt q_rm
  ·refine q_sk (s_vv [] 1 [23] [(5,vb false)] ?_);refine q_sq (s_va 1 [(24,vc (tl qB dd a1)),(25,vi (a1.length:Int)),(26,vi 0)] ?_);obtain⟨u35,h34,hm⟩:=qE hm;refine zZ (nd f64 244) 0 (by kernel_rfl) FUEL qCt (λv st=>RetQ Tryz.prog f64 (qBD v) (qCa v) .ret st) u35 (q_hl (SZ a1 a2 false 0) (qHv E a1 a2 FUEL false 0 u35 h34)) ?_ ?_
   ·rintro v36 rfl st hr;obtain rfl:=oi hm;exact hr
   ·rintro o33 rfl;replace hm:_=some r:=hm;refine s_vn [] 1 ⟨[(4,vb o33)],[]⟩ ?_;obtain rfl:=oi hm;exact q_rt q_rm
 ·obtain⟨v3,h4,hm⟩:=qE hm;rcases bif_c hm with⟨b5,hm⟩|⟨b5,hm⟩
  ·exact q_vv [qc 1 [9] 1 (GE a1 v3 h4),qf 3 b5] 1 [] [(23,vb true)] (q_J (true) hm)
  ·obtain⟨v6,h7,hm⟩:=qE hm;rcases bif_c hm with⟨b8,hm⟩|⟨b8,hm⟩
   ·exact q_vv [qc 1 [9] 1 (GE a1 v3 h4),qf 3 b5,qk 6 [12,14] 1 ⟨[(12,vb false),(14,vi a2.X)],[]⟩ (ZS a2.X v6 h7),qf 9 b8] 1 [] [(23,vb true)] (q_J (true) hm)
   ·obtain⟨v9,h10,hm⟩:=qE hm;exact q_vv [qc 1 [9] 1 (GE a1 v3 h4),qf 3 b5,qk 6 [12,14] 1 ⟨[(12,vb false),(14,vi a2.X)],[]⟩ (ZS a2.X v6 h7),qf 9 b8,qk 12 [18,20] 1 ⟨[(18,vb false),(20,vi a2.Y)],[]⟩ (ZS a2.Y v9 h10)] 1 [] [(23,vb (!v9))] (q_J (!v9) hm)
def qI0 (r:Bool):V:=vb r
def qIQ (r:Bool):List (Nat×(Nat×O)):=[]
def qFm (x3:Bool):St:=
 ⟨[(2,vb x3)],[]⟩
theorem LD (a1:Int) (r:Bool) (hm:PJ a1=some r):CtX Tryz.prog globs 84 0 0 [.one (ci a1)] [] (qI0 r) (qIQ r):=by
 unfold PJ at hm;refine q_E f84 9 λE=>?_;refine s_vn [] 0 ⟨[(0,vi a1)],[]⟩ (q_jn (qFm) (λp=>UU p=some r) ?_ ?_)
 ·rintro x3 hm;obtain rfl:=oi hm;exact q_rt q_rm
 ·rcases bif_c hm with⟨b2,hm⟩|⟨b2,hm⟩
  ·exact q_vn [qf 2 b2] 0 ⟨[(2,vb (decide (a1<=600)))],[]⟩ (q_J (decide (a1<=600)) hm)
  ·exact q_vn [qf 2 b2] 0 ⟨[(2,vb false)],[]⟩ (q_J (false) hm)
def II (r:Int):V:=vi r
def AZ (r:Int):List (Nat×(Nat×O)):=[]
def qGf (a1:Ring) (x7:Int) (x19:Bool):St:=
 ⟨[(22,vc (tl qG dd a1.Read)),(23,vi (a1.Read.length:Int)),(24,vi x7),(52,vb x19)],[]⟩
def qGU (a1:Ring) (x7:Int) (x16:Bool):St:=
 ⟨[(4,vp 1 0),(22,vc (tl qG dd a1.Read)),(23,vi (a1.Read.length:Int)),(24,vi x7),(43,vb x16)],[(1,bx 73 (qG (a1.Read.getD x7.toNat dd)))]⟩
def NV (a1:Ring) (x7:Int):St:=
 ⟨[(22,vc (tl qG dd a1.Read)),(23,vi (a1.Read.length:Int)),(24,vi x7)],[]⟩
def qAd :St:=
 ⟨[],[]⟩
def qF8 (a1:Ring) (x5:Bool):St:=
 ⟨[(1,vp 0 0),(20,vb x5)],[(0,bx 45 (qN a1))]⟩
theorem qFg (E:Env 0) (a1:Ring):∀(n:Nat) (x7:Int) (res:Int⊕Unit),jB a1 n x7=some res->HL (kx E 54 0) (nd f38 500) (jJ 0 (λo=>qAd) (λv st=>RetQ Tryz.prog f38 (II v) (AZ v) .ret st) res) n (NV a1 x7):=by
 intro n
 induction n with
 |zero=>
  intro x7 res hm;cases hm
 |succ n ih=>
  intro x7 res hm;refine qU (s_va 1 [(25,vb (decide (x7<(a1.Read.length:Int))))] ?_);refine q_sq (q_cq hm (λhm=>?_) (λhm=>?_))
  ·refine q_sk (q_sq ?_);refine q_bk 1 ?_;obtain⟨g9,hm⟩:=qH hm;refine s_vu [qi 0 g9] 1 [25] [(4,vp 1 0)] [] [(1,bx 73 (qG (a1.Read.getD x7.toNat dd)))] (q_sq ?_);refine q_jn (qGU a1 x7) (λp=>KP a1 x7 (jB a1 n) p=some res) ?_ ?_
   ·rintro x16 hm;refine q_cq hm (λhm=>?_) (λhm=>?_)
    ·refine s_vn [] 2 ⟨[(2,vi 9)],[]⟩ ?_;obtain rfl:=oi hm;refine q_rt (zR 9 ?_);exact q_rm
    ·refine q_sk (q_jn (qGf a1 x7) (λp=>GM x7 (jB a1 n) p=some res) ?_ ?_)
     ·rintro x19 hm;refine q_cq hm (λhm=>?_) (λhm=>?_)
      ·refine s_vn [] 2 ⟨[(2,vi 19)],[]⟩ ?_;obtain rfl:=oi hm;refine q_rt (zR 19 ?_);exact q_rm
      ·refine q_sk (q_vv [] 2 [24,52] [(24,vi (w64 (x7+1)))] ?_);exact q_hl (NV a1 (w64 (x7+1))) (ih (w64 (x7+1)) _ hm)
     ·rcases bif_c hm with⟨b18,hm⟩|⟨b18,hm⟩
      ·exact q_vu [qf 3 b18] 2 [4,43] [(52,vb (!(((((a1.Read.getD x7.toNat dd).P).X)==0)&&(((((a1.Read.getD x7.toNat dd).P).Y)==0)&&true))))] [1] [] (q_J (!(((((a1.Read.getD x7.toNat dd).P).X)==0)&&(((((a1.Read.getD x7.toNat dd).P).Y)==0)&&true))) hm)
      ·exact q_vu [qf 3 b18] 2 [4,43] [(52,vb false)] [1] [] (q_J (false) hm)
   ·rcases bif_c hm with⟨b10,hm⟩|⟨b10,hm⟩
    ·obtain⟨v11,h12,hm⟩:=qE hm;rcases bif_c hm with⟨b13,hm⟩|⟨b13,hm⟩
     ·exact q_vv [qf 2 b10,qk 6 [30,33] 2 ⟨[(30,vb true),(33,vi (((a1.Read.getD x7.toNat dd).P).X))],[]⟩ (LD (((a1.Read.getD x7.toNat dd).P).X) v11 h12),qf 8 b13] 2 [] [(43,vb true)] (q_J (true) hm)
     ·obtain⟨v14,h15,hm⟩:=qE hm;exact q_vv [qf 2 b10,qk 6 [30,33] 2 ⟨[(30,vb true),(33,vi (((a1.Read.getD x7.toNat dd).P).X))],[]⟩ (LD (((a1.Read.getD x7.toNat dd).P).X) v11 h12),qf 8 b13,qk 12 [36,39] 2 ⟨[(36,vb false),(39,vi (((a1.Read.getD x7.toNat dd).P).Y))],[]⟩ (LD (((a1.Read.getD x7.toNat dd).P).Y) v14 h15)] 2 [] [(43,vb (!v14))] (q_J (!v14) hm)
    ·exact q_vv [qf 2 b10] 2 [] [(43,vb false)] (q_J (false) hm)
  ·refine q_ex 0 ?_;obtain rfl:=oi hm;exact q_l1 ()
theorem EK (a1:Ring) (r:Int) (hm:KJ a1=some r):CtX Tryz.prog globs 38 0 0 [.agg (qN a1)] [] (II r) (AZ r):=by
 unfold KJ at hm;refine q_E f38 54 λE=>?_;refine s_vn [] 0 ⟨[(1,vp 0 0)],[(0,bx 45 (qN a1))]⟩ (q_sq ?_);refine s_va 1 [(8,vb (decide ((a1.Read.length:Int)<8)))] (q_cq hm (λhm=>?_) (λhm=>?_))
 ·refine s_vn [] 1 ⟨[(2,vi 3)],[]⟩ ?_;obtain rfl:=oi hm;exact q_rt q_rm
 ·refine q_sk (q_sq ?_);refine s_vv [] 1 [8] [(12,vb (decide ((a1.Read.length:Int)>32)))] (q_cq hm (λhm=>?_) (λhm=>?_))
  ·refine s_vn [] 1 ⟨[(2,vi 4)],[]⟩ ?_;obtain rfl:=oi hm;exact q_rt q_rm
  ·refine q_sk (q_sq ?_);refine q_jn (qF8 a1) (λp=>GD a1 p=some r) ?_ ?_
   ·rintro x5 hm;refine q_cq hm (λhm=>?_) (λhm=>?_)
    ·refine s_vn [] 1 ⟨[(2,vi 9)],[]⟩ ?_;obtain rfl:=oi hm;exact q_rt q_rm
    ·refine q_sk (q_sq ?_);refine s_vn [] 1 ⟨[(22,vc (tl qG dd a1.Read)),(23,vi (a1.Read.length:Int)),(24,vi 0)],[]⟩ ?_;obtain⟨u23,h22,hm⟩:=qE hm;refine zZ (nd f38 500) 0 (by kernel_rfl) FUEL (λo=>qAd) (λv st=>RetQ Tryz.prog f38 (II v) (AZ v) .ret st) u23 (q_hl (NV a1 0) (qFg E a1 FUEL 0 u23 h22)) ?_ ?_
     ·rintro v24 rfl st hr;obtain rfl:=oi hm;exact hr
     ·rintro o21 rfl;replace hm:_=some r:=hm;refine s_vn [] 1 ⟨[(2,vi 0)],[]⟩ ?_;obtain rfl:=oi hm;exact q_rt q_rm
   ·rcases bif_c hm with⟨b4,hm⟩|⟨b4,hm⟩
    ·exact q_vv [qf 3 b4] 1 [12] [(20,vb true)] (q_J (true) hm)
    ·exact q_vv [qf 3 b4] 1 [12] [(20,vb (decide (a1.Z>20000)))] (q_J (decide (a1.Z>20000)) hm)
open Go.Proofs Go.Proofs.Tryz
def qGO (r:Bool):V:=vb r
def qGj (r:Bool):List (Nat×(Nat×O)):=[]
def qDK (x5:Bool):St:=
 ⟨[(6,vb x5)],[]⟩
theorem QB (a1:Span) (a2:Int) (a3:Int) (r:Bool) (hm:ZC a1 a2 a3=some r):CtX Tryz.prog globs 142 0 0 [.agg (qI a1),.one (ci a2),.one (ci a3)] [] (qGO r) (qGj r):=by
 unfold ZC at hm;refine q_E f142 23 λE=>?_;refine s_vn [] 0 ⟨[(1,vi a2),(2,vi a3),(3,vp 0 0)],[(0,bx 64 (qI a1))]⟩ (q_jn (qDK) (λp=>KM p=some r) ?_ ?_)
 ·rintro x5 hm;obtain rfl:=oi hm;exact q_rt q_rm
 ·rcases bif_c hm with⟨b4,hm⟩|⟨b4,hm⟩
  ·exact q_vn [qf 7 b4] 1 ⟨[(6,vb (decide ((imax a1.A a1.B)<=a3)))],[]⟩ (q_J (decide ((imax a1.A a1.B)<=a3)) hm)
  ·exact q_vn [qf 7 b4] 1 ⟨[(6,vb false)],[]⟩ (q_J (false) hm)
def qFh (r:Bool):V:=vb r
def qFz (r:Bool):List (Nat×(Nat×O)):=[]
theorem yL (a1:Span) (r:Bool) (hm:ZW a1=some r):CtX Tryz.prog globs 141 0 0 [.agg (qI a1)] [] (qFh r) (qFz r):=by
 unfold ZW at hm;refine q_E f141 8 λE=>?_;refine s_vn [] 0 ⟨[(1,vp 0 0)],[(0,bx 64 (qI a1))]⟩ (s_vn [] 1 ⟨[(2,vb (decide (a1.A≥a1.B)))],[]⟩ ?_);obtain rfl:=oi hm;exact q_rt q_rm
def qHg (r:Int):V:=vi r
def qHi (r:Int):List (Nat×(Nat×O)):=[]
def qEo (x23:Bool):St:=
 ⟨[(29,vb x23)],[]⟩
def qEg (a1:qL) (x13:Bool):St:=
 ⟨[(3,vp 1 0),(15,vb x13)],[(1,bx 66 (qGT a1.Box))]⟩
def qEj (a1:qL) (x3:Bool):St:=
 ⟨[(3,vp 1 0),(6,vb x3)],[(1,bx 66 (qGT a1.Box))]⟩
theorem qG7 (a1:qL) (r:Int) (hm:RX a1=some r):CtX Tryz.prog globs 85 0 0 [.agg (qO a1)] [] (qHg r) (qHi r):=by
 unfold RX at hm;refine q_E f85 46 λE=>?_;refine s_vn [] 0 ⟨[(1,vp 0 0)],[(0,bx 68 (qO a1))]⟩ (s_vu [] 1 [] [(3,vp 1 0)] [] [(1,bx 66 (qGT a1.Box))] ?_);refine q_sq (q_bk 0 ?_);refine q_jn (qEj a1) (λp=>RB a1 p=some r) ?_ ?_
 ·rintro x3 hm;refine q_cq hm (λhm=>?_) (λhm=>?_)
  ·refine s_vn [] 2 ⟨[(2,vi 10)],[]⟩ ?_;obtain rfl:=oi hm;exact q_rt q_rm
  ·refine q_jn (qEg a1) (λp=>JN a1 p=some r) ?_ ?_
   ·rintro x13 hm;refine q_cq hm (λhm=>?_) (λhm=>?_)
    ·refine s_vn [] 2 ⟨[(2,vi 19)],[]⟩ ?_;obtain rfl:=oi hm;exact q_rt q_rm
    ·refine q_jn (qEo) (λp=>JU p=some r) ?_ ?_
     ·rintro x23 hm;refine q_cq hm (λhm=>?_) (λhm=>?_)
      ·refine s_vn [] 2 ⟨[(2,vi 9)],[]⟩ ?_;obtain rfl:=oi hm;exact q_rt q_rm
      ·refine q_sk (s_vn [] 2 ⟨[(2,vi 0)],[]⟩ ?_);obtain rfl:=oi hm;exact q_rt q_rm
     ·obtain⟨v15,h16,hm⟩:=qE hm;rcases bif_c hm with⟨b17,hm⟩|⟨b17,hm⟩
      ·exact q_vn [qk 2 [31] 2 ⟨[(31,va (qI a1.Box.X))],[]⟩ (QB a1.Box.X (-600) 600 v15 h16),qf 4 b17] 2 ⟨[(29,vb true)],[]⟩ (q_J (true) hm)
      ·obtain⟨v18,h19,hm⟩:=qE hm;rcases bif_c hm with⟨b20,hm⟩|⟨b20,hm⟩
       ·exact q_vn [qk 2 [31] 2 ⟨[(31,va (qI a1.Box.X))],[]⟩ (QB a1.Box.X (-600) 600 v15 h16),qf 4 b17,qk 7 [34,36] 2 ⟨[(34,vb false),(36,va (qI a1.Box.Y))],[]⟩ (QB a1.Box.Y (-600) 600 v18 h19),qf 10 b20] 2 ⟨[(29,vb true)],[]⟩ (q_J (true) hm)
       ·obtain⟨v21,h22,hm⟩:=qE hm;exact q_vn [qk 2 [31] 2 ⟨[(31,va (qI a1.Box.X))],[]⟩ (QB a1.Box.X (-600) 600 v15 h16),qf 4 b17,qk 7 [34,36] 2 ⟨[(34,vb false),(36,va (qI a1.Box.Y))],[]⟩ (QB a1.Box.Y (-600) 600 v18 h19),qf 10 b20,qk 13 [40,42] 2 ⟨[(40,vb false),(42,va (qI a1.Box.Z))],[]⟩ (QB a1.Box.Z 0 20000 v21 h22)] 2 ⟨[(29,vb (!v21))],[]⟩ (q_J (!v21) hm)
   ·obtain⟨v5,h6,hm⟩:=qE hm;rcases bif_c hm with⟨b7,hm⟩|⟨b7,hm⟩
    ·exact q_vv [qc 2 [17] 2 (yL a1.Box.X v5 h6),qf 3 b7] 2 [6] [(15,vb true)] (q_J (true) hm)
    ·obtain⟨v8,h9,hm⟩:=qE hm;rcases bif_c hm with⟨b10,hm⟩|⟨b10,hm⟩
     ·exact q_vv [qc 2 [17] 2 (yL a1.Box.X v5 h6),qf 3 b7,qk 6 [19,21] 2 ⟨[(19,vb false),(21,va (qI a1.Box.Y))],[]⟩ (yL a1.Box.Y v8 h9),qf 8 b10] 2 [6] [(15,vb true)] (q_J (true) hm)
     ·obtain⟨v11,h12,hm⟩:=qE hm;exact q_vv [qc 2 [17] 2 (yL a1.Box.X v5 h6),qf 3 b7,qk 6 [19,21] 2 ⟨[(19,vb false),(21,va (qI a1.Box.Y))],[]⟩ (yL a1.Box.Y v8 h9),qf 8 b10,qk 11 [24,26] 2 ⟨[(24,vb false),(26,va (qI a1.Box.Z))],[]⟩ (yL a1.Box.Z v11 h12)] 2 [6] [(15,vb v11)] (q_J (v11) hm)
 ·rcases bif_c hm with⟨b2,hm⟩|⟨b2,hm⟩
  ·exact q_vu [qf 3 b2] 2 [1] [(6,vb true)] [0] [] (q_J (true) hm)
  ·exact q_vu [qf 3 b2] 2 [1] [(6,vb (decide (a1.Kind>6)))] [0] [] (q_J (decide (a1.Kind>6)) hm)
open Go.Proofs Go.Proofs.Tryz
def LB (r:Int):V:=vi r
def ME (r:Int):List (Nat×(Nat×O)):=[]
def VC (a1:List qL) (x3:Int):St:=
 ⟨[(9,vc (tl qO dd a1)),(10,vi (a1.length:Int)),(11,vi x3)],[]⟩
def EN :St:=
 ⟨[],[]⟩
theorem qCZ (E:Env 0) (a1:List qL):∀(n:Nat) (x3:Int) (res:Int⊕Unit),yG a1 n x3=some res->HL (kx E 21 0) (nd f39 116) (jJ 0 (λo=>EN) (λv st=>RetQ Tryz.prog f39 (LB v) (ME v) .ret st) res) n (VC a1 x3):=by
 intro n
 induction n with
 |zero=>
  intro x3 res hm;cases hm
 |succ n ih=>
  intro x3 res hm;refine qU (s_va 0 [(12,vb (decide (x3<(a1.length:Int))))] ?_);refine q_sq (q_cq hm (λhm=>?_) (λhm=>?_))
  ·refine q_sk (q_sq ?_);refine q_bk 1 ?_;obtain⟨g5,hm⟩:=qH hm;refine s_vu [qi 0 g5] 0 [12] [(4,vp 0 0)] [] [(0,bx 68 (qO (a1.getD x3.toNat dd)))] ?_;obtain⟨v6,h7,hm⟩:=qE hm;refine s_vu [qc 1 [15] 1 (qG7 (a1.getD x3.toNat dd) v6 h7)] 1 [4] [(5,vi v6)] [0] [] (s_va 1 [(18,vb (v6 !=0))] ?_);refine q_cq hm (λhm=>?_) (λhm=>?_)
   ·refine s_vn [] 1 ⟨[(2,vi v6)],[]⟩ ?_;obtain rfl:=oi hm;refine q_rt (zR v6 ?_);exact q_rm
   ·refine q_sk (q_vv [] 1 [5,11,18] [(11,vi (w64 (x3+1)))] ?_);exact q_hl (VC a1 (w64 (x3+1))) (ih (w64 (x3+1)) _ hm)
  ·refine q_ex 0 ?_;obtain rfl:=oi hm;exact q_l1 ()
theorem qFU (a1:List qL) (r:Int) (hm:RP a1=some r):CtX Tryz.prog globs 39 0 0 [.one (tl qO dd a1)] [] (LB r) (ME r):=by
 unfold RP at hm;refine q_E f39 21 λE=>?_;refine s_vn [] 0 ⟨[(0,vc (tl qO dd a1))],[]⟩ (q_sq ?_);refine s_va 0 [(8,vb (decide ((a1.length:Int)>64)))] (q_cq hm (λhm=>?_) (λhm=>?_))
 ·refine s_vn [] 0 ⟨[(2,vi 4)],[]⟩ ?_;obtain rfl:=oi hm;exact q_rt q_rm
 ·refine q_sk (q_sq ?_);refine s_vn [] 0 ⟨[(9,vc (tl qO dd a1)),(10,vi (a1.length:Int)),(11,vi 0)],[]⟩ ?_;obtain⟨u11,h10,hm⟩:=qE hm;refine zZ (nd f39 116) 0 (by kernel_rfl) FUEL (λo=>EN) (λv st=>RetQ Tryz.prog f39 (LB v) (ME v) .ret st) u11 (q_hl (VC a1 0) (qCZ E a1 FUEL 0 u11 h10)) ?_ ?_
  ·rintro v12 rfl st hr;obtain rfl:=oi hm;exact hr
  ·rintro o9 rfl;replace hm:_=some r:=hm;refine s_vn [] 0 ⟨[(2,vi 0)],[]⟩ ?_;obtain rfl:=oi hm;exact q_rt q_rm
def XP (r:Int):V:=vi r
def QO (r:Int):List (Nat×(Nat×O)):=[]
theorem qKt (r:Int):yX (QO r):=by
 intro i k o h;unfold QO at h;cases h
def qG0 (a1:Scan) (x4:Int) (x16:Bool):St:=
 ⟨[(1,vp 0 0),(4,vp 1 0),(19,vc (tl qN dd a1.Rings)),(20,vi (a1.Rings.length:Int)),(21,vi x4),(53,vb x16)],[(0,bx 25 (qZ a1)),(1,bx 45 (qN (a1.Rings.getD x4.toNat dd)))]⟩
def NU (a1:Scan) (x4:Int):St:=
 ⟨[(1,vp 0 0),(19,vc (tl qN dd a1.Rings)),(20,vi (a1.Rings.length:Int)),(21,vi x4)],[(0,bx 25 (qZ a1))]⟩
def CE (a1:Scan):St:=
 ⟨[(1,vp 0 0)],[(0,bx 25 (qZ a1))]⟩
def BQ (a1:Scan) (x28:Int):St:=
 ⟨[(7,vi ((a1.Rings.getD (w64 ((a1.Rings.length:Int)-1)).toNat dd).Z)),(81,vc (tl qO dd a1.Defects)),(82,vi (a1.Defects.length:Int)),(83,vi x28)],[]⟩
def qAg :St:=
 ⟨[],[]⟩
theorem qE7 (E:Env 0) (a1:Scan):∀(n:Nat) (x4:Int) (res:Int⊕Unit),wA a1 n x4=some res->HL (kx E 94 0) (nd f13 244) (jJ 0 (λo=>CE a1) (λv st=>RetQ Tryz.prog f13 (XP v) (QO v) .ret st) res) n (NU a1 x4):=by
 intro n
 induction n with
 |zero=>
  intro x4 res hm;cases hm
 |succ n ih=>
  intro x4 res hm;refine qU (s_va 1 [(22,vb (decide (x4<(a1.Rings.length:Int))))] ?_);refine q_sq (q_cq hm (λhm=>?_) (λhm=>?_))
  ·refine q_sk (q_sq ?_);refine q_bk 1 ?_;obtain⟨g6,hm⟩:=qH hm;refine s_vu [qi 1 g6] 1 [22] [(3,vi x4),(4,vp 1 0)] [] [(1,bx 45 (qN (a1.Rings.getD x4.toNat dd)))] (q_sq ?_);obtain⟨v7,h8,hm⟩:=qE hm;refine s_vv [qc 1 [26] 2 (EK (a1.Rings.getD x4.toNat dd) v7 h8)] 2 [] [(5,vi v7)] (s_va 2 [(29,vb (v7 !=0))] ?_);refine q_cq hm (λhm=>?_) (λhm=>?_)
   ·refine s_vn [] 2 ⟨[(2,vi v7)],[]⟩ ?_;obtain rfl:=oi hm;refine q_rt (zR v7 ?_);exact q_rm
   ·refine q_sk (q_sq ?_);refine q_jn (qG0 a1 x4) (λp=>QW a1 x4 (wA a1 n) p=some res) ?_ ?_
    ·rintro x16 hm;refine q_cq hm (λhm=>?_) (λhm=>?_)
     ·refine s_vn [] 2 ⟨[(2,vi 11)],[]⟩ ?_;obtain rfl:=oi hm;refine q_rt (zR 11 ?_);exact q_rm
     ·refine q_sk ?_;obtain⟨g18,hm⟩:=qH hm;refine s_du [qi 5 g18] [0,1,3,0,8,24,56,120,248,511] 2 [4,53] [(63,vb (((((a1.Rings.getD x4.toNat dd).Read).length:Nat):Int) !=((((a1.Rings.getD (0:Int).toNat dd).Read).length:Nat):Int)))] [1] [] (q_cq hm (λhm=>?_) (λhm=>?_))
      ·refine s_vn [] 2 ⟨[(2,vi 19)],[]⟩ ?_;obtain rfl:=oi hm;refine q_rt (zR 19 ?_);exact q_rm
      ·refine q_sk (q_vv [] 2 [21,63] [(21,vi (w64 (x4+1)))] ?_);exact q_hl (NU a1 (w64 (x4+1))) (ih (w64 (x4+1)) _ hm)
    ·rcases bif_c hm with⟨b10,hm⟩|⟨b10,hm⟩
     ·rcases bif_c hm with⟨b11,hm⟩|⟨b11,hm⟩
      ·exact q_du [qf 2 b10,qf 7 b11] [0,1,3,7,15,31,63,127,255,511,1023,2047,4095,2047,10239,2047,34815,124927,255999,518143,1048575,2097151,4194303] 2 [3,5,29] [(53,vb true)] [] [] (q_J (true) hm)
      ·rcases bif_c hm with⟨b12,hm⟩|⟨b12,hm⟩
       ·obtain⟨g13,hm⟩:=qH hm;exact q_du [qf 2 b10,qf 7 b11,qf 10 b12,qi 17 g13] [0,1,3,7,15,31,63,127,255,511,1023,2047,4095,2047,10239,2047,34815,124927,255999,518143,1048575,2097151,4194303] 2 [3,5,29] [(53,vb (decide (((a1.Rings.getD x4.toNat dd).Z)<=((a1.Rings.getD (w64 (x4-1)).toNat dd).Z))))] [] [] (q_J (decide (((a1.Rings.getD x4.toNat dd).Z)<=((a1.Rings.getD (w64 (x4-1)).toNat dd).Z))) hm)
       ·exact q_du [qf 2 b10,qf 7 b11,qf 10 b12] [0,1,3,7,15,31,63,127,255,511,1023,2047,4095,2047,10239,2047,34815,124927,255999,518143,1048575,2097151,4194303] 2 [3,5,29] [(53,vb false)] [] [] (q_J (false) hm)
     ·rcases bif_c hm with⟨b14,hm⟩|⟨b14,hm⟩
      ·obtain⟨g15,hm⟩:=qH hm;exact q_du [qf 2 b10,qf 10 b14,qi 17 g15] [0,1,3,7,15,31,63,127,255,511,1023,2047,4095,2047,10239,2047,34815,124927,255999,518143,1048575,2097151,4194303] 2 [3,5,29] [(53,vb (decide (((a1.Rings.getD x4.toNat dd).Z)<=((a1.Rings.getD (w64 (x4-1)).toNat dd).Z))))] [] [] (q_J (decide (((a1.Rings.getD x4.toNat dd).Z)<=((a1.Rings.getD (w64 (x4-1)).toNat dd).Z))) hm)
      ·exact q_du [qf 2 b10,qf 10 b14] [0,1,3,7,15,31,63,127,255,511,1023,2047,4095,2047,10239,2047,34815,124927,255999,518143,1048575,2097151,4194303] 2 [3,5,29] [(53,vb false)] [] [] (q_J (false) hm)
  ·refine q_ex 0 ?_;obtain rfl:=oi hm;exact q_l1 ()
theorem qFB (E:Env 0) (a1:Scan):∀(n:Nat) (x28:Int) (res:Int⊕Unit),JF a1 n x28=some res->HL (kx E 94 0) (nd f13 2036) (jJ 2 (λo=>qAg) (λv st=>RetQ Tryz.prog f13 (XP v) (QO v) .ret st) res) n (BQ a1 x28):=by
 intro n
 induction n with
 |zero=>
  intro x28 res hm;cases hm
 |succ n ih=>
  intro x28 res hm;refine qU (s_va 1 [(84,vb (decide (x28<(a1.Defects.length:Int))))] ?_);refine q_sq (q_cq hm (λhm=>?_) (λhm=>?_))
  ·refine q_sk (q_sq ?_);refine q_bk 3 ?_;obtain⟨g30,hm⟩:=qH hm;refine s_vu [qi 0 g30] 1 [84] [(9,vp 1 0)] [] [(1,bx 68 (qO (a1.Defects.getD x28.toNat dd)))] (s_vu [] 2 [9] [(92,vb (decide (((((a1.Defects.getD x28.toNat dd).Box).Z).B)>((a1.Rings.getD (w64 ((a1.Rings.length:Int)-1)).toNat dd).Z))))] [1] [] ?_);refine q_cq hm (λhm=>?_) (λhm=>?_)
   ·refine s_vn [] 2 ⟨[(2,vi 9)],[]⟩ ?_;obtain rfl:=oi hm;refine q_rt (zR 9 ?_);exact q_rm
   ·refine q_sk (q_vv [] 2 [83,92] [(83,vi (w64 (x28+1)))] ?_);exact q_hl (BQ a1 (w64 (x28+1))) (ih (w64 (x28+1)) _ hm)
  ·refine q_ex 2 ?_;obtain rfl:=oi hm;exact q_l1 ()
theorem KT (a1:Scan) (r:Int) (hm:QL a1=some r):CtX Tryz.prog globs 13 0 0 [.agg (qZ a1)] [] (XP r) (QO r):=by
 unfold QL at hm;refine q_E f13 94 λE=>?_;refine s_vn [] 0 ⟨[(1,vp 0 0)],[(0,bx 25 (qZ a1))]⟩ (q_sq ?_);refine s_va 1 [(13,vb (decide ((a1.Rings.length:Int)<2)))] (q_cq hm (λhm=>?_) (λhm=>?_))
 ·refine s_vn [] 1 ⟨[(2,vi 3)],[]⟩ ?_;obtain rfl:=oi hm;exact q_rt q_rm
 ·refine q_sk (q_sq ?_);refine s_vv [] 1 [13] [(17,vb (decide ((a1.Rings.length:Int)>24)))] (q_cq hm (λhm=>?_) (λhm=>?_))
  ·refine s_vn [] 1 ⟨[(2,vi 4)],[]⟩ ?_;obtain rfl:=oi hm;exact q_rt q_rm
  ·refine q_sk (q_sq ?_);refine s_vv [] 1 [17] [(19,vc (tl qN dd a1.Rings)),(20,vi (a1.Rings.length:Int)),(21,vi 0)] ?_;obtain⟨u22,h21,hm⟩:=qE hm;refine zZ (nd f13 244) 0 (by kernel_rfl) FUEL (λo=>CE a1) (λv st=>RetQ Tryz.prog f13 (XP v) (QO v) .ret st) u22 (q_hl (NU a1 0) (qE7 E a1 FUEL 0 u22 h21)) ?_ ?_
   ·rintro v23 rfl st hr;obtain rfl:=oi hm;exact hr
   ·rintro o20 rfl;replace hm:_=some r:=hm;refine q_sq ?_;obtain⟨v24,h25,hm⟩:=qE hm;refine s_vv [qc 2 [66] 1 (qFU a1.Defects v24 h25)] 1 [] [(6,vi v24)] (s_va 1 [(69,vb (v24 !=0))] ?_);refine q_cq hm (λhm=>?_) (λhm=>?_)
    ·refine s_vn [] 1 ⟨[(2,vi v24)],[]⟩ ?_;obtain rfl:=oi hm;exact q_rt q_rm
    ·refine q_sk ?_;obtain⟨g27,hm⟩:=qH hm;refine s_vv [qi 6 g27] 1 [6,69] [(7,vi ((a1.Rings.getD (w64 ((a1.Rings.length:Int)-1)).toNat dd).Z))] (q_sq ?_);refine s_vu [] 1 [1] [(81,vc (tl qO dd a1.Defects)),(82,vi (a1.Defects.length:Int)),(83,vi 0)] [0] [] ?_;obtain⟨u34,h33,hm⟩:=qE hm;refine zZ (nd f13 2036) 2 (by kernel_rfl) FUEL (λo=>qAg) (λv st=>RetQ Tryz.prog f13 (XP v) (QO v) .ret st) u34 (q_hl (BQ a1 0) (qFB E a1 FUEL 0 u34 h33)) ?_ ?_
     ·rintro v35 rfl st hr;obtain rfl:=oi hm;exact hr
     ·rintro o32 rfl;replace hm:_=some r:=hm;refine s_vn [] 1 ⟨[(2,vi 0)],[]⟩ ?_;obtain rfl:=oi hm;exact q_rt q_rm
def qMw (r:Bool):V:=vb r
def qMW (r:Bool):List (Nat×(Nat×O)):=[]
def qI5 (x5:Bool):St:=
 ⟨[(6,vb x5)],[]⟩
theorem qLq (a1:qA) (a2:qA) (a3:Int) (r:Bool) (hm:IS a1 a2 a3=some r):CtX Tryz.prog globs 146 0 0 [.agg (qB a1),.agg (qB a2),.one (ci a3)] [] (qMw r) (qMW r):=by
 unfold IS at hm;refine q_E f146 35 λE=>?_;refine s_vn [] 0 ⟨[(2,vi a3),(3,vp 0 0),(4,vp 1 0)],[(0,bx 71 (qB a1)),(1,bx 71 (qB a2))]⟩ (q_jn (qI5) (λp=>MO p=some r) ?_ ?_)
 ·rintro x5 hm;obtain rfl:=oi hm;exact q_rt q_rm
 ·rcases bif_c hm with⟨b4,hm⟩|⟨b4,hm⟩
  ·exact q_vn [qf 13 b4] 2 ⟨[(6,vb true)],[]⟩ (q_J (true) hm)
  ·exact q_vn [qf 13 b4] 2 ⟨[(6,vb (decide ((imax (w64 (a1.Y-a2.Y)) (w64 (a2.Y-a1.Y)))>a3)))],[]⟩ (q_J (decide ((imax (w64 (a1.Y-a2.Y)) (w64 (a2.Y-a1.Y)))>a3)) hm)
open Go.Proofs Go.Proofs.Tryz
def OV (r:List qD):V:=vo 0 0 3 r.length
def OO (r:List qD):List (Nat×(Nat×O)):=[(0,ro 0 73 3 r.length (rf qG r))]
theorem IJ (a1:List qD) (r:List qD) (hm:QS a1=some r):CtX Tryz.prog globs 136 0 0 [.one (tl qG dd a1)] [] (OV r) (OO r):=by
 unfold QS at hm;obtain⟨g1,hm⟩:=qH hm;obtain rfl:=kP hm;refine qEU (fn:=f136) (c:=nd f136 1) (nt:=8) (by kernel_rfl) (by kernel_rfl) (by kernel_rfl) (by kernel_rfl) λE=>?_;refine R_sq f136 2 3 (by kernel_rfl) (R_rn f136 2 0 [] [] 0 ⟨[(0,vc (tl qG dd a1))],[]⟩ o0 (by kernel_rfl) (by kernel_rfl) ?_);refine R_sq f136 6 7 (by kernel_rfl) (R_sq f136 12 13 (by kernel_rfl) ?_);refine R_nil f136 12 1 1 ⟨[(0,vc (tl qG dd a1)),(3,vc (tl qG dd a1))],[]⟩ 43 43 73 4 (.tmp 3) a1.length (rf qG a1) (by kernel_rfl) (by kernel_rfl) (by kernel_rfl) (λb hb=>?_)
 refine R_cn f136 (.tmp 4) 26 27 (by kernel_rfl) b (by kernel_rfl) (λb6=>?_) (λb6=>?_)
 ·obtain rfl:a1=[]:=List.eq_nil_of_length_eq_zero (hb b6);refine R_sq f136 52 53 (by kernel_rfl) (R_rn f136 52 2 [] [.own 2 0 73 3 (rf qG [])] 0 ⟨[(2,vo 0 0 3 0)],[(0,ro 0 73 3 0 (rf qG []))]⟩ o0 (by kernel_rfl) (by kernel_rfl) ?_);exact qF6 (by kernel_rfl) (qDa (by kernel_rfl) (by kernel_rfl))
 ·refine qJz (by kernel_rfl) (R_sq f136 14 15 (by kernel_rfl) ?_);refine R_rn f136 14 3 [(0,drw 0 0 (rf qG [])),(2,drw 0 1 (rf qG ([]++a1)))] [.len 0 a1.length] 0 ⟨[(2,vo 0 1 3 a1.length)],[(0,ro 1 73 3 a1.length (rf qG ([]++a1)))]⟩ (o1 (And.intro (And.intro (litP qG dd 3 (λ_=>rfl) ([]:List qD) 0 rfl) (apP qG dd ([]:List qD) a1 0 a1.length 3 24 True trivial rfl rfl (λ_=>rfl) (by have:=wE g1;rw[kI];exact this))) (And.intro (And.intro (kI a1.length) (kI a1.length)) (kI a1.length)))) (by kernel_rfl) (by kernel_rfl) (qF6 (by kernel_rfl) ?_);exact qDa (by kernel_rfl) (by kernel_rfl)
def qLg (r:Ring):V:=va [ci r.Z,.own 0 0 3 r.Read.length]
def qJD (r:Ring):List (Nat×(Nat×O)):=[(0,ro 0 73 3 r.Read.length (rf qG r.Read))]
theorem qIY (a1:Ring) (r:Ring) (hm:NO a1=some r):CtX Tryz.prog globs 132 0 0 [.agg (qN a1)] [] (qLg r) (qJD r):=by
 unfold NO at hm;refine q_E f132 9 λE=>?_;refine s_vn [] 0 ⟨[(1,vp 0 0),(2,vp 1 0)],[(0,bx 45 (qN a1)),(1,bx 45 [ci 0,.emp])]⟩ ?_;obtain⟨v2,h3,hm⟩:=qE hm;refine s_du [qc 4 [6] 2 (IJ a1.Read v2 h3)] [0,1,0,4,12,31,63] 2 [1] [] [0,1] [(1,bx 45 [ci a1.Z,.own 2 0 3 v2.length]),(2,ro 0 73 3 v2.length (rf qG v2))] ?_;obtain rfl:=oi hm;exact q_sw 2 0 (q_rt q_rm)
def qGo (r:(List Int)):V:=vo 0 0 1 r.length
def qFZ (r:(List Int)):List (Nat×(Nat×O)):=[(0,ro 0 3 1 r.length (rf qK r))]
def SE (a1:Ring) (x3:Int) (l8:List Int) (l8n:Nat):St:=
 ⟨[(3,vo 1 0 1 l8n),(7,vc (tl qG dd a1.Read)),(8,vi (a1.Read.length:Int)),(9,vi x3)],[(1,ro 0 3 1 l8n (rf qK l8))]⟩
def RR (a1:Ring) (l2:List Int) (l2n:Nat) (x3:Int):St:=
 ⟨[(3,vo 1 0 1 l2n),(7,vc (tl qG dd a1.Read)),(8,vi (a1.Read.length:Int)),(9,vi x3)],[(1,ro 0 3 1 l2n (rf qK l2))]⟩
def SA (l9:List Int):St:=
 ⟨[(3,vo 1 0 1 l9.length)],[(1,ro 0 3 1 l9.length (rf qK l9))]⟩
theorem qCx (E:Env 0) (a1:Ring):∀(n:Nat) (l2:List Int) (l2n:Nat) (x3:Int) (res:(List Int)),l2.length=l2n->wZ a1 n l2 x3=some res->HL (kx E 22 0) (nd f71 116) (zW 0 SA res) n (RR a1 l2 l2n x3):=by
 intro n
 induction n with
 |zero=>
  intro l2 l2n x3 res hl0 hm;cases hm
 |succ n ih=>
  intro l2 l2n x3 res hl0 hm;subst hl0;refine qU (s_va 2 [(10,vb (decide (x3<(a1.Read.length:Int))))] ?_);refine q_sq (q_cq hm (λhm=>?_) (λhm=>?_))
  ·refine q_sk (q_jn (ι:=(List Int)×Nat) (λp=>SE a1 x3 p.1 p.2) (λp=>p.1.length=p.2/\KI x3 (wZ a1 n) p.1=some res) ?_ ?_)
   ·rintro⟨l8,l8n⟩ ⟨el8,hm⟩;replace el8:l8.length=l8n:=el8;subst el8;show H _ (SE a1 x3 l8 l8.length) _ _;exact q_vv [] 4 [9] [(9,vi (w64 (x3+1)))] (q_hl (RR a1 l8 l8.length (w64 (x3+1))) (ih l8 l8.length (w64 (x3+1)) _ rfl hm))
   ·refine q_bk 1 ?_;obtain⟨g5,hm⟩:=qH hm;refine s_vu [qi 1 g5] 2 [10] [(4,vi x3),(5,vp 2 0)] [] [(2,bx 73 (qG (a1.Read.getD x3.toNat dd)))] (s_vu [] 3 [5] [(15,vb ((a1.Read.getD x3.toNat dd).Ok))] [2] [] ?_);refine q_cq hm (λhm=>?_) (λhm=>?_)
    ·obtain⟨g7,hm⟩:=qH hm;exact q_vu [qd 2 (drw 3 0 (rf qK [x3])) (litP qK dd 1 (λ_=>rfl) ([x3]:List Int) 1 rfl),qd 3 (drw 1 1 (rf qK (l2++[x3]))) (apP qK dd l2 ([x3]:List Int) l2.length 1 1 8 (1<=1) (kr _) rfl rfl (λ_=>rfl) (wE g7))] 3 [3,4,15] [(3,vo 1 1 1 (l2.length+1))] [1] [(1,ro 1 3 1 (l2.length+1) (rf qK (l2++[x3])))] (q_J ((l2++[x3]),(l2.length+1)) ⟨(wS rfl rfl),hm⟩)
    ·exact q_sk (q_J (l2,l2.length) ⟨rfl,hm⟩)
  ·refine q_ex 0 ?_;obtain rfl:=oi hm;exact q_l0
theorem DN (a1:Ring) (r:(List Int)) (hm:ZH a1=some r):CtX Tryz.prog globs 71 0 0 [.agg (qN a1)] [] (qGo r) (qFZ r):=by
 unfold ZH at hm;refine q_E f71 22 λE=>?_;refine s_vn [] 0 ⟨[(1,vp 0 0)],[(0,bx 45 (qN a1))]⟩ (s_va 1 [(3,vc (.emp))] ?_);refine q_sq (s_vu [] 1 [1] [(7,vc (tl qG dd a1.Read)),(8,vi (a1.Read.length:Int)),(9,vi 0)] [0] [] ?_);refine q_fo 3 1 3 1 qK ?_;obtain⟨o10,h11,hm⟩:=qE hm;refine zU (nd f71 116) 0 (by kernel_rfl) FUEL SA o10 (q_hl (RR a1 ([]:List Int) 0 0) (qCx E a1 FUEL ([]:List Int) 0 0 o10 rfl h11)) (s_vv [] 2 [3] [(2,vo 1 0 1 o10.length)] ?_);obtain rfl:=oi hm;exact q_sw 1 0 (q_rt q_rm)
open Go.Proofs Go.Proofs.Tryz
def qKr (r:Ring):V:=va [ci r.Z,.own 0 0 3 r.Read.length]
def qKC (r:Ring):List (Nat×(Nat×O)):=[(0,ro 0 73 3 r.Read.length (rf qG r.Read))]
def ZJ (a1:Ring) (a2:Int) (v5:(List Int)) (x13:Int):St:=
 ⟨[(1,vi a2),(2,vp 0 0),(4,vp 1 0),(5,vp 3 0),(6,vo 4 0 1 v5.length),(30,vo 4 0 1 v5.length),(31,vi (v5.length:Int)),(32,vi x13)],[(0,bx 45 (qN a1)),(1,bx 45 [ci 0,.emp]),(4,ro 0 3 1 v5.length (rf qK v5))]⟩
def qGx (a1:Ring) (a2:Int) (v3:Ring) (v5:(List Int)) (x13:Int) (l14:List qD) (x18:Int) (x28:Bool):St:=
 (ZJ a1 a2 v5 x13).up [] [(7,vi x13),(8,vi (v5.getD x13.toNat dd)),(9,vb x28),(37,va [ci (-1),ci 1]),(38,vi x18)] [] [(2,ro 0 73 3 l14.length (rf qG l14)),(3,bx 45 [ci v3.Z,.own 2 0 3 l14.length])]
def FE (a1:Ring) (a2:Int) (v3:Ring) (v5:(List Int)) (x13:Int) (l14:List qD) (x17:Bool) (x18:Int):St:=
 (ZJ a1 a2 v5 x13).up [] [(7,vi x13),(8,vi (v5.getD x13.toNat dd)),(9,vb x17),(37,va [ci (-1),ci 1]),(38,vi x18)] [] [(2,ro 0 73 3 l14.length (rf qG l14)),(3,bx 45 [ci v3.Z,.own 2 0 3 l14.length])]
def qAk (a1:Ring) (a2:Int) (v3:Ring) (v5:(List Int)) (x13:Int) (l14:List qD) (x29:Bool):St:=
 (ZJ a1 a2 v5 x13).up [] [(8,vi (v5.getD x13.toNat dd)),(9,vb x29)] [] [(2,ro 0 73 3 l14.length (rf qG l14)),(3,bx 45 [ci v3.Z,.own 2 0 3 l14.length])]
def CP (a1:Ring) (a2:Int) (v3:Ring) (v5:(List Int)) (x13:Int) (l34:List qD) (l34n:Nat):St:=
 (ZJ a1 a2 v5 x13).up [] [] [] [(2,ro 0 73 3 l34n (rf qG l34)),(3,bx 45 [ci v3.Z,.own 2 0 3 l34n])]
def NH (a1:Ring) (a2:Int) (v3:Ring) (v5:(List Int)) (x13:Int) (l14:List qD) (l14n:Nat):St:=
 (ZJ a1 a2 v5 x13).up [] [] [] [(2,ro 0 73 3 l14n (rf qG l14)),(3,bx 45 [ci v3.Z,.own 2 0 3 l14n])]
def qAo (v3:Ring) (l35:List qD):St:=
 ⟨[(4,vp 1 0),(5,vp 3 0)],[(1,bx 45 [ci 0,.emp]),(2,ro 0 73 3 l35.length (rf qG l35)),(3,bx 45 [ci v3.Z,.own 2 0 3 l35.length])]⟩
def qGI (a1:Ring) (a2:Int) (v3:Ring) (v5:(List Int)) (x11:Bool):St:=
 ⟨[(1,vi a2),(2,vp 0 0),(4,vp 1 0),(5,vp 3 0),(6,vo 4 0 1 v5.length),(28,vb x11)],[(0,bx 45 (qN a1)),(1,bx 45 [ci 0,.emp]),(2,ro 0 73 3 v3.Read.length (rf qG v3.Read)),(3,bx 45 [ci v3.Z,.own 2 0 3 v3.Read.length]),(4,ro 0 3 1 v5.length (rf qK v5))]⟩
theorem qEZ (E:Env 0) (a1:Ring) (a2:Int) (v3:Ring) (v5:(List Int)) (x13:Int) (l14:List qD):∀(n:Nat) (x17:Bool) (x18:Int) (res:Bool),wN a1 a2 v5 x13 n x17 x18=some res->HL (kx E 79 0) (nd f91 512820) (zW 2 (λo=>qAk a1 a2 v3 v5 x13 l14 o) res) n (FE a1 a2 v3 v5 x13 l14 x17 x18):=by
 intro n
 induction n with
 |zero=>
  intro x17 x18 res hm;cases hm
 |succ n ih=>
  intro x17 x18 res hm;refine qU (s_va 5 [(39,vb (decide (x18<2)))] ?_);refine q_sq (q_cq hm (λhm=>?_) (λhm=>?_))
  ·refine q_sk (q_jn (qGx a1 a2 v3 v5 x13 l14 x18) (λp=>GL x18 (wN a1 a2 v5 x13 n) p=some res) ?_ ?_)
   ·rintro x28 hm;exact q_vv [] 6 [38] [(38,vi (w64 (x18+1)))] (q_hl (FE a1 a2 v3 v5 x13 l14 x28 (w64 (x18+1))) (ih x28 (w64 (x18+1)) _ hm))
   ·refine q_bk 3 ?_;obtain⟨g20,hm⟩:=qH hm;refine s_vv [qi 0 g20] 5 [39] [(11,vi (([(-1),1]:List Int).getD x18.toNat 0))] ?_;obtain⟨g21,hm⟩:=qH hm;obtain⟨g22,hm⟩:=qH hm;obtain⟨g23,hm⟩:=qH hm;refine s_du [qd 11 dN (MN g21),qi 12 g22,qd 13 dN (zC (zJ g22)),qi 14 g23] [0,1,0,0,0,16,56,0,248,0,512,2040,4092,8188,16383,32767,65535,0,262143] 5 [11] [(12,vp 5 0)] [] [(5,bx 71 (qB ((a1.Read.getD (v5.getD ((Int.tmod (w64 ((w64 (x13+(v5.length:Int)))+(([(-1),1]:List Int).getD x18.toNat 0))) (v5.length:Int)).toNat) dd).toNat dd).P)))] ?_;rcases bif_c hm with⟨b24,hm⟩|⟨b24,hm⟩
    ·obtain⟨g25,hm⟩:=qH hm;obtain⟨v26,h27,hm⟩:=qE hm
     refine q_du [qf 1 b24,qi 5 g25,qk 10 [59,65,66,67] 6 ⟨[(59,vb true),(65,va [ci (((a1.Read.getD (v5.getD x13.toNat dd).toNat dd).P).X),ci (((a1.Read.getD (v5.getD x13.toNat dd).toNat dd).P).Y)]),(66,va [ci (((a1.Read.getD (v5.getD ((Int.tmod (w64 ((w64 (x13+(v5.length:Int)))+(([(-1),1]:List Int).getD x18.toNat 0))) (v5.length:Int)).toNat) dd).toNat dd).P).X),ci (((a1.Read.getD (v5.getD ((Int.tmod (w64 ((w64 (x13+(v5.length:Int)))+(([(-1),1]:List Int).getD x18.toNat 0))) (v5.length:Int)).toNat) dd).toNat dd).P).Y)]),(67,vi a2)],[]⟩ (qLq ((a1.Read.getD (v5.getD x13.toNat dd).toNat dd).P) ((a1.Read.getD (v5.getD ((Int.tmod (w64 ((w64 (x13+(v5.length:Int)))+(([(-1),1]:List Int).getD x18.toNat 0))) (v5.length:Int)).toNat) dd).toNat dd).P) a2 v26 h27)] [0,1,3,7,3,31,63,127,3,3,1023,2047,4095] 6 [9,12] [(9,vb v26)] [5] [] ?_
     exact q_J (v26) hm
    ·exact q_du [qf 1 b24] [0,1,3,7,3,31,63,127,3,3,1023,2047,4095] 6 [9,12] [(9,vb false)] [5] [] (q_J (false) hm)
  ·refine q_ex 2 ?_;obtain rfl:=oi hm;exact q_l0
theorem qFc (E:Env 0) (a1:Ring) (a2:Int) (v3:Ring) (v5:(List Int)):∀(n:Nat) (x13:Int) (l14:List qD) (l14n:Nat) (res:(List qD)),l14.length=l14n->yO a1 a2 v5 n x13 l14=some res->HL (kx E 79 0) (nd f91 500) (zW 0 (λo=>qAo v3 o) res) n (NH a1 a2 v3 v5 x13 l14 l14n):=by
 intro n
 induction n with
 |zero=>
  intro x13 l14 l14n res hl0 hm;cases hm
 |succ n ih=>
  intro x13 l14 l14n res hl0 hm;subst hl0;refine qU (s_va 5 [(33,vb (decide (x13<(v5.length:Int))))] ?_);refine q_sq (q_cq hm (λhm=>?_) (λhm=>?_))
  ·refine q_sk (q_jn (ι:=(List qD)×Nat) (λp=>CP a1 a2 v3 v5 x13 p.1 p.2) (λp=>p.1.length=p.2/\GS x13 (yO a1 a2 v5 n) p.1=some res) ?_ ?_)
   ·rintro⟨l34,l34n⟩ ⟨el34,hm⟩;replace el34:l34.length=l34n:=el34;subst el34;show H _ (CP a1 a2 v3 v5 x13 l34 l34.length) _ _;exact q_vv [] 5 [32] [(32,vi (w64 (x13+1)))] (q_hl (NH a1 a2 v3 v5 (w64 (x13+1)) l34 l34.length) (ih (w64 (x13+1)) l34 l34.length _ rfl hm))
   ·refine q_bk 1 ?_;obtain⟨g16,hm⟩:=qH hm;refine s_vv [qi 1 g16,qd 2 dN (zC (zJ g16))] 5 [33] [(7,vi x13),(8,vi (v5.getD x13.toNat dd))] (s_va 5 [(9,vb true)] ?_);refine q_sq (s_va 5 [(37,va [ci (-1),ci 1]),(38,vi 0)] ?_);obtain⟨o30,h31,hm⟩:=qE hm;refine zU (nd f91 512820) 2 (by kernel_rfl) FUEL (λo=>qAk a1 a2 v3 v5 x13 l14 o) o30 (q_hl (FE a1 a2 v3 v5 x13 l14 true 0) (qEZ E a1 a2 v3 v5 x13 l14 FUEL true 0 o30 h31)) (s_vv [] 5 [9] [(71,vb o30)] ?_);refine q_cq hm (λhm=>?_) (λhm=>?_)
    ·obtain⟨g33,hm⟩:=qH hm;exact q_vu [qi 4 g33,qd 5 (drw 0 0 (rf qG (l14.set ((v5.getD x13.toNat dd).toNat) (qD.mk (qA.mk 0 0) false)))) (stP qG dd (qD.mk (qA.mk 0 0) false) l14 l14.length ((v5.getD x13.toNat dd).toNat) 0 [ci 0,ci 0,cb false] rfl (zC (zJ g33)) rfl)] 5 [8,71] [] [2] [(2,ro 0 73 3 l14.length (rf qG (l14.set ((v5.getD x13.toNat dd).toNat) (qD.mk (qA.mk 0 0) false))))] (q_J ((l14.set ((v5.getD x13.toNat dd).toNat) (qD.mk (qA.mk 0 0) false)),l14.length) ⟨(UD rfl),hm⟩)
    ·exact q_sk (q_J (l14,l14.length) ⟨rfl,hm⟩)
  ·refine q_ex 0 ?_;obtain rfl:=oi hm;exact q_l0
theorem qIX (a1:Ring) (a2:Int) (r:Ring) (hm:FB a1 a2=some r):CtX Tryz.prog globs 91 0 0 [.agg (qN a1),.one (ci a2)] [] (qKr r) (qKC r):=by
 unfold FB at hm;refine q_E f91 79 λE=>?_;refine s_vn [] 0 ⟨[(1,vi a2),(2,vp 0 0),(4,vp 1 0)],[(0,bx 45 (qN a1)),(1,bx 45 [ci 0,.emp])]⟩ ?_;obtain⟨v3,h4,hm⟩:=qE hm;refine s_vu [qc 1 [13] 2 (qIY a1 v3 h4)] 2 [] [(5,vp 3 0)] [] [(2,ro 0 73 3 v3.Read.length (rf qG v3.Read)),(3,bx 45 [ci v3.Z,.own 2 0 3 v3.Read.length])] ?_;obtain⟨v5,h6,hm⟩:=qE hm;refine s_vu [qc 1 [15] 4 (DN a1 v5 h6)] 4 [] [(6,vo 4 0 1 v5.length)] [] [(4,ro 0 3 1 v5.length (rf qK v5))] (q_sq ?_);refine q_jn (qGI a1 a2 v3 v5) (λp=>KW a1 a2 v3 v5 p=some r) ?_ ?_
 ·rintro x11 hm;refine q_cq hm (λhm=>?_) (λhm=>?_)
  ·refine s_vu [] 5 [1,2,5,6,28] [] [0,1,3,4] [(1,bx 45 [ci v3.Z,.own 2 0 3 v3.Read.length])] ?_;obtain rfl:=oi hm;exact q_sw 2 0 (q_rt q_rm)
  ·refine q_sk (q_sq ?_);refine s_vv [] 5 [28] [(30,vo 4 0 1 v5.length),(31,vi (v5.length:Int)),(32,vi 0)] ?_;obtain⟨o36,h37,hm⟩:=qE hm;refine zU (nd f91 500) 0 (by kernel_rfl) FUEL (λo=>qAo v3 o) o36 (q_hl (NH a1 a2 v3 v5 0 v3.Read v3.Read.length) (qFc E a1 a2 v3 v5 FUEL 0 v3.Read v3.Read.length o36 rfl h37)) (s_vu [] 5 [5] [] [1,3] [(1,bx 45 [ci v3.Z,.own 2 0 3 o36.length])] ?_);obtain rfl:=oi hm;exact q_sw 2 0 (q_rt q_rm)
 ·rcases bif_c hm with⟨b7,hm⟩|⟨b7,hm⟩
  ·exact q_vv [qf 2 b7] 5 [] [(28,vb true)] (q_J (true) hm)
  ·rcases bif_c hm with⟨b8,hm⟩|⟨b8,hm⟩
   ·exact q_vv [qf 2 b7,qf 7 b8] 5 [] [(28,vb true)] (q_J (true) hm)
   ·obtain⟨v9,h10,hm⟩:=qE hm;exact q_vv [qf 2 b7,qf 7 b8,qk 9 [24,25] 5 ⟨[(24,vb false),(25,va (qN a1))],[]⟩ (EK a1 v9 h10)] 5 [] [(28,vb (v9 !=0))] (q_J (v9 !=0) hm)
end Saw
end Go.SL

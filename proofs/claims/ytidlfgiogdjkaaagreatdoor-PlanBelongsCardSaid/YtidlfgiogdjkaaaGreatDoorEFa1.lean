import Derived.Test.YtidlfgiogdjkaaaGreatDoorEBase
set_option linter.unusedVariables false
set_option linter.unusedSimpArgs false
namespace Go.SL
namespace Saw
open Go.Proofs
set_option maxHeartbeats 4000000
set_option maxRecDepth 100000
def qGm (r:Bool):V:=vb r
def qGn (r:Bool):List (Nat×(Nat×O)):=[]
def SI (x3:Bool):St:=
 ⟨[(2,vb x3)],[]⟩
theorem qFh (a1:Span) (r:Bool) (hm:KS a1=some r):CtX Tryz.prog globs 203 0 0 [.agg (e_Span a1)] [] (qGm r) (qGn r):=by
 unfold KS at hm;refine q_E Tryz.f203 17 λE=>?_;refine s_vn [] 0 ⟨[(1,vp 0 0)],[(0,bx 31 (e_Span a1))]⟩ ?_;refine q_jn (ι:=Bool) (λp=>SI p) (λp=>PQ p=some r) ?_ ?_
 ·rintro x3 hm;show H _ (SI x3) _ _;obtain rfl:=oi hm;refine q_rt ?_;exact q_rm
 ·rcases bif_c hm with⟨b2,hm⟩|⟨b2,hm⟩
  ·refine q_vn [qf 6 b2] 1 ⟨[(2,vb (decide ((imax a1.A a1.B)<=600)))],[]⟩ ?_;exact q_J (decide ((imax a1.A a1.B)<=600)) hm
  ·refine q_vn [qf 6 b2] 1 ⟨[(2,vb false)],[]⟩ ?_;exact q_J (false) hm
def qGh (r:Bool):V:=vb r
def qGv (r:Bool):List (Nat×(Nat×O)):=[]
theorem QM (a1:Span) (r:Bool) (hm:QZ a1=some r):CtX Tryz.prog globs 143 0 0 [.agg (e_Span a1)] [] (qGh r) (qGv r):=by
 unfold QZ at hm;refine q_E Tryz.f143 8 λE=>?_;refine s_vn [] 0 ⟨[(1,vp 0 0)],[(0,bx 31 (e_Span a1))]⟩ ?_;refine s_vn [] 1 ⟨[(2,vb (decide (a1.A≥a1.B)))],[]⟩ ?_;obtain rfl:=oi hm;refine q_rt ?_;exact q_rm
def PF (r:Int):V:=vi r
def PO (r:Int):List (Nat×(Nat×O)):=[]
def BY (a1:qJ) (x6:Int):St:=
 ⟨[(1,vp 0 0),(3,vi ((a1.Rows.length:Nat):Int)),(24,vc (tl e_Span default a1.Rows)),(25,vi ((a1.Rows.length:Nat):Int)),(26,vi x6)],[(0,bx 70 (zQ a1))]⟩
def OR (a1:qJ):St:=
 ⟨[(1,vp 0 0),(3,vi ((a1.Rows.length:Nat):Int))],[(0,bx 70 (zQ a1))]⟩
def OC (a1:qJ) (x27:Int) (x33:Bool):St:=
 ⟨[(54,vc (tl e_Span default a1.Rows)),(55,vi ((a1.Rows.length:Nat):Int)),(56,vi x27),(66,vb x33)],[]⟩
def DH (a1:qJ) (x27:Int):St:=
 ⟨[(54,vc (tl e_Span default a1.Rows)),(55,vi ((a1.Rows.length:Nat):Int)),(56,vi x27)],[]⟩
def CN :St:=
 ⟨[],[]⟩
def IY (a1:qJ) (x25:Bool):St:=
 ⟨[(1,vp 0 0),(52,vb x25)],[(0,bx 70 (zQ a1))]⟩
def OJ (a1:qJ) (x4:Bool):St:=
 ⟨[(1,vp 0 0),(3,vi ((a1.Rows.length:Nat):Int)),(22,vb x4)],[(0,bx 70 (zQ a1))]⟩
theorem qEO (E:Env 0) (a1:qJ):∀(n:Nat) (x6:Int) (res:Int⊕Unit),QH a1 n x6=some res->HL (kx E 68 0) (nd Tryz.f170 500) (wY 0 (λo=>OR a1) (λv st=>RetQ Tryz.prog Tryz.f170 (PF v) (PO v) .ret st) res) n (BY a1 x6):=by
 intro n
 induction n with
 |zero=>
  intro x6 res hm;cases hm
 |succ n ih=>
  intro x6 res hm;refine qM ?_;refine s_vu [] 1 [] [(27,vb (decide (x6<((a1.Rows.length:Nat):Int))))] [] [] ?_;refine q_sq ?_;refine q_cm hm (λb7 hm=>?_) (λb7 hm=>?_)
  ·refine q_sk ?_;refine q_sq ?_;refine q_bk 1 ?_;obtain⟨g8,hm⟩:=qI hm;refine s_vu [qd 0 (Dir.none) (inb_of g8)] 1 [27] [(5,vp 1 0)] [] [(1,bx 31 [ci ((a1.Rows.getD x6.toNat default).A),ci ((a1.Rows.getD x6.toNat default).B)])] ?_;obtain⟨v9,h10,hm⟩:=qB hm;refine s_vu [qc 1 [30] 2 (qFh (a1.Rows.getD x6.toNat default) v9 h10)] 2 [5] [(32,vb (!v9))] [1] [] ?_;refine q_cm hm (λb11 hm=>?_) (λb11 hm=>?_)
   ·refine s_vn [] 2 ⟨[(2,vi 9)],[]⟩ ?_;obtain rfl:=oi hm;refine q_rt ?_;refine zH 9 ?_;exact q_rm
   ·refine q_sk ?_;refine q_vu [] 2 [26,32] [(26,vi (w64 (x6+1)))] [] [] ?_;exact q_hl (BY a1 (w64 (x6+1))) (ih (w64 (x6+1)) _ hm)
  ·refine q_ex 0 ?_;obtain rfl:=oi hm;exact jI () (by kernel_rfl) (by kernel_rfl)
theorem qEN (E:Env 0) (a1:qJ):∀(n:Nat) (x27:Int) (res:Int⊕Unit),jD a1 n x27=some res->HL (kx E 68 0) (nd Tryz.f170 4084) (wY 2 (λo=>CN) (λv st=>RetQ Tryz.prog Tryz.f170 (PF v) (PO v) .ret st) res) n (DH a1 x27):=by
 intro n
 induction n with
 |zero=>
  intro x27 res hm;cases hm
 |succ n ih=>
  intro x27 res hm;refine qM ?_;refine s_vu [] 1 [] [(57,vb (decide (x27<((a1.Rows.length:Nat):Int))))] [] [] ?_;refine q_sq ?_;refine q_cm hm (λb28 hm=>?_) (λb28 hm=>?_)
  ·refine q_sk ?_;refine q_sq ?_;refine q_bk 3 ?_;obtain⟨g29,hm⟩:=qI hm;refine s_vu [qd 0 (Dir.none) (inb_of g29)] 1 [57] [(7,vp 1 0)] [] [(1,bx 31 [ci ((a1.Rows.getD x27.toNat default).A),ci ((a1.Rows.getD x27.toNat default).B)])] ?_;refine q_jn (ι:=Bool) (λp=>OC a1 x27 p) (λp=>UK x27 (jD a1 n) p=some res) ?_ ?_
   ·rintro x33 hm;show H _ (OC a1 x27 x33) _ _;refine q_cm hm (λb34 hm=>?_) (λb34 hm=>?_)
    ·refine s_vn [] 2 ⟨[(2,vi 19)],[]⟩ ?_;obtain rfl:=oi hm;refine q_rt ?_;refine zH 19 ?_;exact q_rm
    ·refine q_sk ?_;refine q_vu [] 2 [56,66] [(56,vi (w64 (x27+1)))] [] [] ?_;exact q_hl (DH a1 (w64 (x27+1))) (ih (w64 (x27+1)) _ hm)
   ·obtain⟨v30,h31,hm⟩:=qB hm;rcases bif_c hm with⟨b32,hm⟩|⟨b32,hm⟩
    ·refine q_vu [qc 1 [60] 2 (QM (a1.Rows.getD x27.toNat default) v30 h31),qf 2 b32] 2 [7] [(66,vb (!((((a1.Rows.getD x27.toNat default).A)==0)&&((((a1.Rows.getD x27.toNat default).B)==0)&&true))))] [1] [] ?_;exact q_J (!((((a1.Rows.getD x27.toNat default).A)==0)&&((((a1.Rows.getD x27.toNat default).B)==0)&&true))) hm
    ·refine q_vu [qc 1 [60] 2 (QM (a1.Rows.getD x27.toNat default) v30 h31),qf 2 b32] 2 [7] [(66,vb false)] [1] [] ?_;exact q_J (false) hm
  ·refine q_ex 2 ?_;obtain rfl:=oi hm;exact jI () (by kernel_rfl) (by kernel_rfl)
theorem qBK (a1:qJ) (r:Int) (hm:KF a1=some r):CtX Tryz.prog globs 170 0 0 [.agg (zQ a1)] [] (PF r) (PO r):=by
 unfold KF at hm;refine q_E Tryz.f170 68 λE=>?_;refine s_vn [] 0 ⟨[(1,vp 0 0)],[(0,bx 70 (zQ a1))]⟩ ?_;refine s_vu [] 1 [] [(3,vi ((a1.Rows.length:Nat):Int))] [] [] ?_;refine q_sq ?_;refine s_vu [] 1 [] [(12,vb (decide (((a1.Rows.length:Nat):Int)>120)))] [] [] ?_;refine q_cm hm (λb2 hm=>?_) (λb2 hm=>?_)
 ·refine s_vn [] 1 ⟨[(2,vi 4)],[]⟩ ?_;obtain rfl:=oi hm;refine q_rt ?_;exact q_rm
 ·refine q_sk ?_;refine q_sq ?_;refine q_jn (ι:=Bool) (λp=>OJ a1 p) (λp=>UQ a1 p=some r) ?_ ?_
  ·rintro x4 hm;show H _ (OJ a1 x4) _ _;refine q_cm hm (λb5 hm=>?_) (λb5 hm=>?_)
   ·refine s_vn [] 1 ⟨[(2,vi 9)],[]⟩ ?_;obtain rfl:=oi hm;refine q_rt ?_;exact q_rm
   ·refine q_sk ?_;refine q_sq ?_;refine s_vu [] 1 [22] [(24,vc (tl e_Span default a1.Rows)),(25,vi ((a1.Rows.length:Nat):Int)),(26,vi 0)] [] [] ?_;obtain⟨u14,h13,hm⟩:=qB hm;refine zP (nd Tryz.f170 500) 0 (by kernel_rfl) FUEL (λo=>OR a1) (λv st=>RetQ Tryz.prog Tryz.f170 (PF v) (PO v) .ret st) u14 (q_hl (BY a1 0) (qEO E a1 FUEL 0 u14 h13)) ?_ ?_
    ·rintro v15 rfl st hr;obtain rfl:=oi hm;exact hr
    ·rintro o12 rfl;replace hm:_=some r:=hm;refine q_sq ?_;refine s_vu [] 1 [] [(35,vb (((a1.Rows.length:Nat):Int)==0))] [] [] ?_;refine q_cm hm (λb16 hm=>?_) (λb16 hm=>?_)
     ·refine q_sq ?_;refine s_vn [] 1 ⟨[(38,vb (a1.Low !=0))],[]⟩ ?_;refine q_cm hm (λb17 hm=>?_) (λb17 hm=>?_)
      ·refine s_vn [] 1 ⟨[(2,vi 19)],[]⟩ ?_;obtain rfl:=oi hm;refine q_rt ?_;exact q_rm
      ·refine q_sk ?_;refine s_vn [] 1 ⟨[(2,vi 0)],[]⟩ ?_;obtain rfl:=oi hm;refine q_rt ?_;exact q_rm
     ·refine q_sk ?_;refine q_sq ?_;refine q_jn (ι:=Bool) (λp=>IY a1 p) (λp=>UT a1 p=some r) ?_ ?_
      ·rintro x25 hm;show H _ (IY a1 x25) _ _;refine q_cm hm (λb26 hm=>?_) (λb26 hm=>?_)
       ·refine s_vn [] 1 ⟨[(2,vi 19)],[]⟩ ?_;obtain rfl:=oi hm;refine q_rt ?_;exact q_rm
       ·refine q_sk ?_;refine q_sq ?_;refine s_vn [] 1 ⟨[(54,vc (tl e_Span default a1.Rows)),(55,vi ((a1.Rows.length:Nat):Int)),(56,vi 0)],[]⟩ ?_;obtain⟨u37,h36,hm⟩:=qB hm;refine zP (nd Tryz.f170 4084) 2 (by kernel_rfl) FUEL (λo=>CN) (λv st=>RetQ Tryz.prog Tryz.f170 (PF v) (PO v) .ret st) u37 (q_hl (DH a1 0) (qEN E a1 FUEL 0 u37 h36)) ?_ ?_
        ·rintro v38 rfl st hr;obtain rfl:=oi hm;exact hr
        ·rintro o35 rfl;replace hm:_=some r:=hm;refine s_vn [] 1 ⟨[(2,vi 0)],[]⟩ ?_;obtain rfl:=oi hm;refine q_rt ?_;exact q_rm
      ·obtain⟨g18,hm⟩:=qI hm;obtain⟨v19,h20,hm⟩:=qB hm;rcases bif_c hm with⟨b21,hm⟩|⟨b21,hm⟩
       ·refine q_vu [qd 2 (Dir.none) (inb_of g18),qc 4 [42] 1 (QM (a1.Rows.getD (0:Int).toNat default) v19 h20),qf 5 b21] 1 [3,35] [(52,vb true)] [] [] ?_;exact q_J (true) hm
       ·obtain⟨g22,hm⟩:=qI hm;obtain⟨v23,h24,hm⟩:=qB hm;refine q_vu [qd 2 (Dir.none) (inb_of g18),qc 4 [42] 1 (QM (a1.Rows.getD (0:Int).toNat default) v19 h20),qf 5 b21,qd 10 (Dir.none) (inb_of g22),qk 12 [44,50] 1 ⟨[(44,vb false),(50,va [ci ((a1.Rows.getD (w64 (((a1.Rows.length:Nat):Int)-1)).toNat default).A),ci ((a1.Rows.getD (w64 (((a1.Rows.length:Nat):Int)-1)).toNat default).B)])],[]⟩ (QM (a1.Rows.getD (w64 (((a1.Rows.length:Nat):Int)-1)).toNat default) v23 h24)] 1 [3,35] [(52,vb v23)] [] [] ?_;exact q_J (v23) hm
  ·rcases bif_c hm with⟨b3,hm⟩|⟨b3,hm⟩
   ·refine q_vu [qf 3 b3] 1 [12] [(22,vb true)] [] [] ?_;exact q_J (true) hm
   ·refine q_vu [qf 3 b3] 1 [12] [(22,vb (decide (a1.Low>(w64 (60-((a1.Rows.length:Nat):Int))))))] [] [] ?_;exact q_J (decide (a1.Low>(w64 (60-((a1.Rows.length:Nat):Int))))) hm
def qAd (r:Int):V:=vi r
def CZ (r:Int):List (Nat×(Nat×O)):=[]
def qBM (a1:List qA) (x4:Int) (x5:Int) (x13:Bool):St:=
 ⟨[(3,vi x4),(5,vp 0 0),(13,vc (tl qG default a1)),(14,vi ((a1.length:Nat):Int)),(15,vi x5),(39,vb x13)],[(0,bx 72 [ci ((a1.getD x5.toNat default).Len),ci (((a1.getD x5.toNat default).Sec).Low),tl e_Span default (((a1.getD x5.toNat default).Sec).Rows)])]⟩
def MD (a1:List qA) (x4:Int) (x5:Int):St:=
 ⟨[(3,vi x4),(13,vc (tl qG default a1)),(14,vi ((a1.length:Nat):Int)),(15,vi x5)],[]⟩
def qBo :St:=
 ⟨[],[]⟩
theorem qGx (E:Env 0) (a1:List qA):∀(n:Nat) (x4:Int) (x5:Int) (res:Int⊕Unit),yE a1 n x4 x5=some res->HL (kx E 45 0) (nd Tryz.f122 500) (wY 0 (λo=>qBo) (λv st=>RetQ Tryz.prog Tryz.f122 (qAd v) (CZ v) .ret st) res) n (MD a1 x4 x5):=by
 intro n
 induction n with
 |zero=>
  intro x4 x5 res hm;cases hm
 |succ n ih=>
  intro x4 x5 res hm;refine qM ?_;refine s_vu [] 0 [] [(16,vb (decide (x5<((a1.length:Nat):Int))))] [] [] ?_;refine q_sq ?_;refine q_cm hm (λb6 hm=>?_) (λb6 hm=>?_)
  ·refine q_sk ?_;refine q_sq ?_;refine q_bk 1 ?_;obtain⟨g7,hm⟩:=qI hm;refine s_vu [qd 0 (Dir.none) (inb_of g7)] 0 [16] [(5,vp 0 0)] [] [(0,bx 72 [ci ((a1.getD x5.toNat default).Len),ci (((a1.getD x5.toNat default).Sec).Low),tl e_Span default (((a1.getD x5.toNat default).Sec).Rows)])] ?_;refine q_sq ?_;obtain⟨v8,h9,hm⟩:=qB hm;refine s_vu [qc 2 [20] 1 (qBK ((a1.getD x5.toNat default).Sec) v8 h9)] 1 [] [(6,vi v8)] [] [] ?_;refine s_vu [] 1 [] [(23,vb (v8 !=0))] [] [] ?_;refine q_cm hm (λb10 hm=>?_) (λb10 hm=>?_)
   ·refine s_vn [] 1 ⟨[(2,vi v8)],[]⟩ ?_;obtain rfl:=oi hm;refine q_rt ?_;refine zH v8 ?_;exact q_rm
   ·refine q_sk ?_;refine q_sq ?_;refine s_vu [] 1 [6,23] [(29,vb ((((((a1.getD x5.toNat default).Sec).Rows).length:Nat):Int)==0))] [] [] ?_;refine q_cm hm (λb11 hm=>?_) (λb11 hm=>?_)
    ·refine s_vn [] 1 ⟨[(2,vi 18)],[]⟩ ?_;obtain rfl:=oi hm;refine q_rt ?_;refine zH 18 ?_;exact q_rm
    ·refine q_sk ?_;refine q_sq ?_;refine q_jn (ι:=Bool) (λp=>qBM a1 x4 x5 p) (λp=>NC a1 x4 x5 (yE a1 n) p=some res) ?_ ?_
     ·rintro x13 hm;show H _ (qBM a1 x4 x5 x13) _ _;refine q_cm hm (λb14 hm=>?_) (λb14 hm=>?_)
      ·refine s_vn [] 1 ⟨[(2,vi 9)],[]⟩ ?_;obtain rfl:=oi hm;refine q_rt ?_;refine zH 9 ?_;exact q_rm
      ·refine q_sk ?_;refine q_vu [] 1 [3,5,39] [(3,vi (w64 (x4+((a1.getD x5.toNat default).Len))))] [0] [] ?_;refine q_vu [] 1 [15] [(15,vi (w64 (x5+1)))] [] [] ?_;exact q_hl (MD a1 (w64 (x4+((a1.getD x5.toNat default).Len))) (w64 (x5+1))) (ih (w64 (x4+((a1.getD x5.toNat default).Len))) (w64 (x5+1)) _ hm)
     ·rcases bif_c hm with⟨b12,hm⟩|⟨b12,hm⟩
      ·refine q_vu [qf 3 b12] 1 [29] [(39,vb true)] [] [] ?_;exact q_J (true) hm
      ·refine q_vu [qf 3 b12] 1 [29] [(39,vb (decide (((a1.getD x5.toNat default).Len)>(w64 (20000-x4)))))] [] [] ?_;exact q_J (decide (((a1.getD x5.toNat default).Len)>(w64 (20000-x4)))) hm
  ·refine q_ex 0 ?_;obtain rfl:=oi hm;exact jI () (by kernel_rfl) (by kernel_rfl)
theorem WI (a1:List qA) (r:Int) (hm:WT a1=some r):CtX Tryz.prog globs 122 0 0 [.one (tl qG default a1)] [] (qAd r) (CZ r):=by
 unfold WT at hm;refine q_E Tryz.f122 45 λE=>?_;refine s_vn [] 0 ⟨[(0,vc (tl qG default a1))],[]⟩ ?_;refine q_sq ?_;refine s_vu [] 0 [] [(9,vb (((a1.length:Nat):Int)==0))] [] [] ?_;refine q_cm hm (λb2 hm=>?_) (λb2 hm=>?_)
 ·refine s_vn [] 0 ⟨[(2,vi 3)],[]⟩ ?_;obtain rfl:=oi hm;refine q_rt ?_;exact q_rm
 ·refine q_sk ?_;refine q_sq ?_;refine s_vu [] 0 [9] [(12,vb (decide (((a1.length:Nat):Int)>24)))] [] [] ?_;refine q_cm hm (λb3 hm=>?_) (λb3 hm=>?_)
  ·refine s_vn [] 0 ⟨[(2,vi 4)],[]⟩ ?_;obtain rfl:=oi hm;refine q_rt ?_;exact q_rm
  ·refine q_sk ?_;refine s_vu [] 0 [12] [(3,vi 0)] [] [] ?_;refine q_sq ?_;refine s_vu [] 0 [0] [(13,vc (tl qG default a1)),(14,vi ((a1.length:Nat):Int)),(15,vi 0)] [] [] ?_;obtain⟨u17,h16,hm⟩:=qB hm;refine zP (nd Tryz.f122 500) 0 (by kernel_rfl) FUEL (λo=>qBo) (λv st=>RetQ Tryz.prog Tryz.f122 (qAd v) (CZ v) .ret st) u17 (q_hl (MD a1 0 0) (qGx E a1 FUEL 0 0 u17 h16)) ?_ ?_
   ·rintro v18 rfl st hr;obtain rfl:=oi hm;exact hr
   ·rintro o15 rfl;replace hm:_=some r:=hm;refine s_vn [] 0 ⟨[(2,vi 0)],[]⟩ ?_;obtain rfl:=oi hm;refine q_rt ?_;exact q_rm
def qLb (r:(List qA)):V:=vc (tl qG default r)
def qLa (r:(List qA)):List (Nat×(Nat×O)):=[]
theorem NF (a1:List qA) (r:(List qA)) (hm:YU a1=some r):CtX Tryz.prog globs 70 0 0 [.one (tl qG default a1)] [] (qLb r) (qLa r):=by
 unfold YU at hm;refine q_E Tryz.f70 7 λE=>?_;refine s_vn [] 0 ⟨[(0,vc (tl qG default a1))],[]⟩ ?_;refine q_sq ?_;obtain⟨v2,h3,hm⟩:=qB hm;refine s_vu [qc 1 [3] 0 (WI a1 v2 h3)] 0 [] [(5,vb (v2 !=0))] [] [] ?_;refine q_cm hm (λb4 hm=>?_) (λb4 hm=>?_)
 ·refine s_vn [] 0 ⟨[(2,vc (.emp))],[]⟩ ?_;refine q_fn [.own 2 0 72 3 (rf qG ([]:List qA))] ⟨[(2,vo 0 0 3 0)],[(0,ro 0 72 3 0 (rf qG ([]:List qA)))]⟩ o0 ?_;refine q_fn [.len 0 (([]:List qA).length),.frz 0] ⟨[(2,vc (tl qG default ([]:List qA)))],[]⟩ (o1 (And.intro (And.intro (show 0=([]:List qA).length from rfl) (show 0=([]:List qA).length from rfl)) (Nat.le_refl (([]:List qA).length)))) ?_;obtain rfl:=oi hm;refine q_rt ?_;exact q_rm
 ·refine q_sk ?_;refine s_vn [] 0 ⟨[(2,vc (tl qG default a1))],[]⟩ ?_;obtain rfl:=oi hm;refine q_rt ?_;exact q_rm
def qJX (r:Int):V:=vi r
def qJ7 (r:Int):List (Nat×(Nat×O)):=[]
def FF (v2:(List qA)) (x4:Int) (x5:Int):St:=
 ⟨[(3,vi x4),(7,vc (tl qG default v2)),(8,vi ((v2.length:Nat):Int)),(9,vi x5)],[]⟩
def qAA (x8:Int):St:=
 ⟨[(3,vi x8)],[]⟩
theorem qFi (E:Env 0) (v2:(List qA)):∀(n:Nat) (x4:Int) (x5:Int) (res:Int),QT v2 n x4 x5=some res->HL (kx E 19 0) (nd Tryz.f39 116) (zS 0 (λo=>qAA o) res) n (FF v2 x4 x5):=by
 intro n
 induction n with
 |zero=>
  intro x4 x5 res hm;cases hm
 |succ n ih=>
  intro x4 x5 res hm;refine qM ?_;refine s_vu [] 0 [] [(10,vb (decide (x5<((v2.length:Nat):Int))))] [] [] ?_;refine q_sq ?_;refine q_cm hm (λb6 hm=>?_) (λb6 hm=>?_)
  ·refine q_sk ?_;refine q_sq ?_;refine q_bk 1 ?_;obtain⟨g7,hm⟩:=qI hm;refine s_vu [qd 0 (Dir.none) (inb_of g7)] 0 [10] [(5,vp 0 0)] [] [(0,bx 72 [ci ((v2.getD x5.toNat default).Len),ci (((v2.getD x5.toNat default).Sec).Low),tl e_Span default (((v2.getD x5.toNat default).Sec).Rows)])] ?_;refine q_vu [] 1 [3,5] [(3,vi (w64 (x4+((v2.getD x5.toNat default).Len))))] [0] [] ?_;refine q_vu [] 1 [9] [(9,vi (w64 (x5+1)))] [] [] ?_;exact q_hl (FF v2 (w64 (x4+((v2.getD x5.toNat default).Len))) (w64 (x5+1))) (ih (w64 (x4+((v2.getD x5.toNat default).Len))) (w64 (x5+1)) _ hm)
  ·refine q_ex 0 ?_;obtain rfl:=oi hm;exact wO (by kernel_rfl) (by kernel_rfl)
theorem PD (a1:List qA) (r:Int) (hm:yU a1=some r):CtX Tryz.prog globs 39 0 0 [.one (tl qG default a1)] [] (qJX r) (qJ7 r):=by
 unfold yU at hm;refine q_E Tryz.f39 19 λE=>?_;refine s_vn [] 0 ⟨[(0,vc (tl qG default a1))],[]⟩ ?_;refine s_vu [] 0 [] [(3,vi 0)] [] [] ?_;refine q_sq ?_;obtain⟨v2,h3,hm⟩:=qB hm;refine s_vu [qc 1 [6] 0 (NF a1 v2 h3)] 0 [0] [(7,vc (tl qG default v2)),(8,vi ((v2.length:Nat):Int)),(9,vi 0)] [] [] ?_;obtain⟨o9,h10,hm⟩:=qB hm;refine zL (nd Tryz.f39 116) 0 (by kernel_rfl) FUEL (λo=>qAA o) o9 (q_hl (FF v2 0 0) (qFi E v2 FUEL 0 0 o9 h10)) ?_;refine s_vn [] 0 ⟨[(2,vi o9)],[]⟩ ?_;obtain rfl:=oi hm;refine q_rt ?_;exact q_rm
def qMB (r:Rect):V:=va (qE r)
def qM5 (r:Rect):List (Nat×(Nat×O)):=[]
theorem CX (a1:Rect) (a2:Int) (a3:Int) (r:Rect) (hm:UI a1 a2 a3=some r):CtX Tryz.prog globs 88 0 0 [.agg (qE a1),.one (ci a2),.one (ci a3)] [] (qMB r) (qM5 r):=by
 unfold UI at hm;refine q_E Tryz.f88 21 λE=>?_;refine s_vn [] 0 ⟨[(1,vi a2),(2,vi a3),(3,vp 0 0),(6,vp 1 0)],[(0,bx 33 (qE a1)),(1,bx 33 [ci 0,ci 0,ci 0,ci 0])]⟩ ?_;refine s_vn [] 2 ⟨[(6,vp 1 0)],[(1,bx 33 [ci a1.X.A,ci a1.X.B,ci (w64 (a1.Y.A+a2)),ci (w64 (a1.Y.A+a3))])]⟩ ?_;obtain rfl:=oi hm;refine q_rt ?_;exact q_rm
def qAq (a1:List Node) (a2:List (List Node)) (r:(List (List Node))×(List (List Node))):V:=vo 0 0 1 r.2.length
def plan_collect_s1_o (a1:List Node) (a2:List (List Node)) (r:(List (List Node))×(List (List Node))):List (Nat×(Nat×O)):=[(0,ro 0 44 1 r.2.length (rf (qD e_Node) r.2))]
theorem qFH (a1:List Node) (a2:List (List Node)) (r:(List (List Node))×(List (List Node))) (hm:GJ a1 a2=some r):CtX Tryz.prog globs 89 1 0 [.one (.own 0 0 1 a2.length),.one (tl e_Node default a1)] [(0,ro 0 44 1 a2.length (rf (qD e_Node) a2))] (qAq a1 a2 r) (plan_collect_s1_o a1 a2 r):=by
 unfold GJ at hm;refine q_E Tryz.f89 9 λE=>?_;refine s_vn [] 1 ⟨[(0,vo 0 0 1 a2.length),(1,vc (tl e_Node default a1))],[(0,ro 0 44 1 a2.length (rf (qD e_Node) a2))]⟩ ?_;obtain⟨g3,hm⟩:=qI hm
 refine s_vn [qd 2 (drw 1 0 (rf (qD e_Node) ([a1]:List (List Node)))) (litP (qD e_Node) default 1 (λ_=>rfl) ([a1]:List (List Node)) 1 rfl),qd 3 (drw 0 1 (rf (qD e_Node) (a2++([a1]:List (List Node))))) (apP (qD e_Node) default a2 ([a1]:List (List Node)) a2.length 1 1 24 (1<=1) (Nat.le_refl _) rfl rfl (λ_=>rfl) (zU g3))] 1 ⟨[(4,vo 0 1 1 (a2.length+1))],[(0,ro 1 44 1 (a2.length+1) (rf (qD e_Node) (a2++([a1]:List (List Node)))))]⟩ ?_
 refine q_fn [.len 0 ((a2++([a1]:List (List Node))).length)] ⟨[(4,vo 0 1 1 ((a2++([a1]:List (List Node))).length))],[(0,ro 1 44 1 ((a2++([a1]:List (List Node))).length) (rf (qD e_Node) (a2++([a1]:List (List Node)))))]⟩ (o1 (And.intro (Eq.symm (show(a2++([a1]:List (List Node))).length=(a2.length+1) from(len_app rfl rfl))) (Eq.symm (show(a2++([a1]:List (List Node))).length=(a2.length+1) from(len_app rfl rfl))))) ?_;obtain rfl:=oi hm;refine q_rt ?_;exact q_rm
def qH2 (r:Bool):V:=vb r
def qI5 (r:Bool):List (Nat×(Nat×O)):=[]
def OV (x5:Bool):St:=
 ⟨[(6,vb x5)],[]⟩
theorem WC (a1:Span) (a2:Int) (a3:Int) (r:Bool) (hm:YC a1 a2 a3=some r):CtX Tryz.prog globs 205 0 0 [.agg (e_Span a1),.one (ci a2),.one (ci a3)] [] (qH2 r) (qI5 r):=by
 unfold YC at hm;refine q_E Tryz.f205 23 λE=>?_;refine s_vn [] 0 ⟨[(1,vi a2),(2,vi a3),(3,vp 0 0)],[(0,bx 31 (e_Span a1))]⟩ ?_;refine q_jn (ι:=Bool) (λp=>OV p) (λp=>TX p=some r) ?_ ?_
 ·rintro x5 hm;show H _ (OV x5) _ _;obtain rfl:=oi hm;refine q_rt ?_;exact q_rm
 ·rcases bif_c hm with⟨b4,hm⟩|⟨b4,hm⟩
  ·refine q_vn [qf 7 b4] 1 ⟨[(6,vb (decide ((imax a1.A a1.B)<=a3)))],[]⟩ ?_;exact q_J (decide ((imax a1.A a1.B)<=a3)) hm
  ·refine q_vn [qf 7 b4] 1 ⟨[(6,vb false)],[]⟩ ?_;exact q_J (false) hm
def qG8 (r:Bool):V:=vb r
def qGZ (r:Bool):List (Nat×(Nat×O)):=[]
theorem zN (a1:Span) (r:Bool) (hm:yA a1=some r):CtX Tryz.prog globs 204 0 0 [.agg (e_Span a1)] [] (qG8 r) (qGZ r):=by
 unfold yA at hm;refine q_E Tryz.f204 8 λE=>?_;refine s_vn [] 0 ⟨[(1,vp 0 0)],[(0,bx 31 (e_Span a1))]⟩ ?_;refine s_vn [] 1 ⟨[(2,vb (decide (a1.A≥a1.B)))],[]⟩ ?_;obtain rfl:=oi hm;refine q_rt ?_;exact q_rm
def qJI (r:Int):V:=vi r
def qJt (r:Int):List (Nat×(Nat×O)):=[]
def qAy (x23:Bool):St:=
 ⟨[(29,vb x23)],[]⟩
def qAT (a1:Defect) (x13:Bool):St:=
 ⟨[(3,vp 1 0),(15,vb x13)],[(1,bx 128 (ZF a1.Box))]⟩
def qAQ (a1:Defect) (x3:Bool):St:=
 ⟨[(3,vp 1 0),(6,vb x3)],[(1,bx 128 (ZF a1.Box))]⟩
theorem qIY (a1:Defect) (r:Int) (hm:BU a1=some r):CtX Tryz.prog globs 171 0 0 [.agg (qH a1)] [] (qJI r) (qJt r):=by
 unfold BU at hm;refine q_E Tryz.f171 46 λE=>?_;refine s_vn [] 0 ⟨[(1,vp 0 0)],[(0,bx 212 (qH a1))]⟩ ?_;refine s_vu [] 1 [] [(3,vp 1 0)] [] [(1,bx 128 (ZF a1.Box))] ?_;refine q_sq ?_;refine q_bk 0 ?_;refine q_jn (ι:=Bool) (λp=>qAQ a1 p) (λp=>DB a1 p=some r) ?_ ?_
 ·rintro x3 hm;show H _ (qAQ a1 x3) _ _;refine q_cm hm (λb4 hm=>?_) (λb4 hm=>?_)
  ·refine s_vn [] 2 ⟨[(2,vi 10)],[]⟩ ?_;obtain rfl:=oi hm;refine q_rt ?_;exact q_rm
  ·refine q_jn (ι:=Bool) (λp=>qAT a1 p) (λp=>KZ a1 p=some r) ?_ ?_
   ·rintro x13 hm;show H _ (qAT a1 x13) _ _;refine q_cm hm (λb14 hm=>?_) (λb14 hm=>?_)
    ·refine s_vn [] 2 ⟨[(2,vi 19)],[]⟩ ?_;obtain rfl:=oi hm;refine q_rt ?_;exact q_rm
    ·refine q_jn (ι:=Bool) (λp=>qAy p) (λp=>KT p=some r) ?_ ?_
     ·rintro x23 hm;show H _ (qAy x23) _ _;refine q_cm hm (λb24 hm=>?_) (λb24 hm=>?_)
      ·refine s_vn [] 2 ⟨[(2,vi 9)],[]⟩ ?_;obtain rfl:=oi hm;refine q_rt ?_;exact q_rm
      ·refine q_sk ?_;refine s_vn [] 2 ⟨[(2,vi 0)],[]⟩ ?_;obtain rfl:=oi hm;refine q_rt ?_;exact q_rm
     ·obtain⟨v15,h16,hm⟩:=qB hm;rcases bif_c hm with⟨b17,hm⟩|⟨b17,hm⟩
      ·refine q_vn [qk 2 [31] 2 ⟨[(31,va (e_Span a1.Box.X))],[]⟩ (WC a1.Box.X (-600) 600 v15 h16),qf 4 b17] 2 ⟨[(29,vb true)],[]⟩ ?_;exact q_J (true) hm
      ·obtain⟨v18,h19,hm⟩:=qB hm;rcases bif_c hm with⟨b20,hm⟩|⟨b20,hm⟩
       ·refine q_vn [qk 2 [31] 2 ⟨[(31,va (e_Span a1.Box.X))],[]⟩ (WC a1.Box.X (-600) 600 v15 h16),qf 4 b17,qk 7 [34,36] 2 ⟨[(34,vb false),(36,va (e_Span a1.Box.Y))],[]⟩ (WC a1.Box.Y (-600) 600 v18 h19),qf 10 b20] 2 ⟨[(29,vb true)],[]⟩ ?_;exact q_J (true) hm
       ·obtain⟨v21,h22,hm⟩:=qB hm;refine q_vn [qk 2 [31] 2 ⟨[(31,va (e_Span a1.Box.X))],[]⟩ (WC a1.Box.X (-600) 600 v15 h16),qf 4 b17,qk 7 [34,36] 2 ⟨[(34,vb false),(36,va (e_Span a1.Box.Y))],[]⟩ (WC a1.Box.Y (-600) 600 v18 h19),qf 10 b20,qk 13 [40,42] 2 ⟨[(40,vb false),(42,va (e_Span a1.Box.Z))],[]⟩ (WC a1.Box.Z 0 20000 v21 h22)] 2 ⟨[(29,vb (!v21))],[]⟩ ?_;exact q_J (!v21) hm
   ·obtain⟨v5,h6,hm⟩:=qB hm;rcases bif_c hm with⟨b7,hm⟩|⟨b7,hm⟩
    ·refine q_vu [qc 2 [17] 2 (zN a1.Box.X v5 h6),qf 3 b7] 2 [6] [(15,vb true)] [] [] ?_;exact q_J (true) hm
    ·obtain⟨v8,h9,hm⟩:=qB hm;rcases bif_c hm with⟨b10,hm⟩|⟨b10,hm⟩
     ·refine q_vu [qc 2 [17] 2 (zN a1.Box.X v5 h6),qf 3 b7,qk 6 [19,21] 2 ⟨[(19,vb false),(21,va (e_Span a1.Box.Y))],[]⟩ (zN a1.Box.Y v8 h9),qf 8 b10] 2 [6] [(15,vb true)] [] [] ?_;exact q_J (true) hm
     ·obtain⟨v11,h12,hm⟩:=qB hm;refine q_vu [qc 2 [17] 2 (zN a1.Box.X v5 h6),qf 3 b7,qk 6 [19,21] 2 ⟨[(19,vb false),(21,va (e_Span a1.Box.Y))],[]⟩ (zN a1.Box.Y v8 h9),qf 8 b10,qk 11 [24,26] 2 ⟨[(24,vb false),(26,va (e_Span a1.Box.Z))],[]⟩ (zN a1.Box.Z v11 h12)] 2 [6] [(15,vb v11)] [] [] ?_;exact q_J (v11) hm
 ·rcases bif_c hm with⟨b2,hm⟩|⟨b2,hm⟩
  ·refine q_vu [qf 3 b2] 2 [1] [(6,vb true)] [0] [] ?_;exact q_J (true) hm
  ·refine q_vu [qf 3 b2] 2 [1] [(6,vb (decide (a1.Kind>6)))] [0] [] ?_;exact q_J (decide (a1.Kind>6)) hm
def EV (r:Int):V:=vi r
def IC (r:Int):List (Nat×(Nat×O)):=[]
def FO (a1:List Defect) (x3:Int):St:=
 ⟨[(9,vc (tl qH default a1)),(10,vi ((a1.length:Nat):Int)),(11,vi x3)],[]⟩
def qAJ :St:=
 ⟨[],[]⟩
theorem qFk (E:Env 0) (a1:List Defect):∀(n:Nat) (x3:Int) (res:Int⊕Unit),ZC a1 n x3=some res->HL (kx E 21 0) (nd Tryz.f123 116) (wY 0 (λo=>qAJ) (λv st=>RetQ Tryz.prog Tryz.f123 (EV v) (IC v) .ret st) res) n (FO a1 x3):=by
 intro n
 induction n with
 |zero=>
  intro x3 res hm;cases hm
 |succ n ih=>
  intro x3 res hm;refine qM ?_;refine s_vu [] 0 [] [(12,vb (decide (x3<((a1.length:Nat):Int))))] [] [] ?_;refine q_sq ?_;refine q_cm hm (λb4 hm=>?_) (λb4 hm=>?_)
  ·refine q_sk ?_;refine q_sq ?_;refine q_bk 1 ?_;obtain⟨g5,hm⟩:=qI hm;refine s_vu [qd 0 (Dir.none) (inb_of g5)] 0 [12] [(4,vp 0 0)] [] [(0,bx 212 [ci ((a1.getD x3.toNat default).Kind),ci ((((a1.getD x3.toNat default).Box).X).A),ci ((((a1.getD x3.toNat default).Box).X).B),ci ((((a1.getD x3.toNat default).Box).Y).A),ci ((((a1.getD x3.toNat default).Box).Y).B),ci ((((a1.getD x3.toNat default).Box).Z).A),ci ((((a1.getD x3.toNat default).Box).Z).B)])] ?_;obtain⟨v6,h7,hm⟩:=qB hm;refine s_vu [qc 1 [15] 1 (qIY (a1.getD x3.toNat default) v6 h7)] 1 [4] [(5,vi v6)] [0] [] ?_
   refine s_vu [] 1 [] [(18,vb (v6 !=0))] [] [] ?_;refine q_cm hm (λb8 hm=>?_) (λb8 hm=>?_)
   ·refine s_vn [] 1 ⟨[(2,vi v6)],[]⟩ ?_;obtain rfl:=oi hm;refine q_rt ?_;refine zH v6 ?_;exact q_rm
   ·refine q_sk ?_;refine q_vu [] 1 [5,11,18] [(11,vi (w64 (x3+1)))] [] [] ?_;exact q_hl (FO a1 (w64 (x3+1))) (ih (w64 (x3+1)) _ hm)
  ·refine q_ex 0 ?_;obtain rfl:=oi hm;exact jI () (by kernel_rfl) (by kernel_rfl)
theorem PS (a1:List Defect) (r:Int) (hm:JC a1=some r):CtX Tryz.prog globs 123 0 0 [.one (tl qH default a1)] [] (EV r) (IC r):=by
 unfold JC at hm;refine q_E Tryz.f123 21 λE=>?_;refine s_vn [] 0 ⟨[(0,vc (tl qH default a1))],[]⟩ ?_;refine q_sq ?_;refine s_vu [] 0 [] [(8,vb (decide (((a1.length:Nat):Int)>64)))] [] [] ?_;refine q_cm hm (λb2 hm=>?_) (λb2 hm=>?_)
 ·refine s_vn [] 0 ⟨[(2,vi 4)],[]⟩ ?_;obtain rfl:=oi hm;refine q_rt ?_;exact q_rm
 ·refine q_sk ?_;refine q_sq ?_;refine s_vn [] 0 ⟨[(9,vc (tl qH default a1)),(10,vi ((a1.length:Nat):Int)),(11,vi 0)],[]⟩ ?_;obtain⟨u11,h10,hm⟩:=qB hm;refine zP (nd Tryz.f123 116) 0 (by kernel_rfl) FUEL (λo=>qAJ) (λv st=>RetQ Tryz.prog Tryz.f123 (EV v) (IC v) .ret st) u11 (q_hl (FO a1 0) (qFk E a1 FUEL 0 u11 h10)) ?_ ?_
  ·rintro v12 rfl st hr;obtain rfl:=oi hm;exact hr
  ·rintro o9 rfl;replace hm:_=some r:=hm;refine s_vn [] 0 ⟨[(2,vi 0)],[]⟩ ?_;obtain rfl:=oi hm;refine q_rt ?_;exact q_rm
def qID (r:Bool):V:=vb r
def qIS (r:Bool):List (Nat×(Nat×O)):=[]
def OF (x3:Bool):St:=
 ⟨[(2,vb x3)],[]⟩
theorem UD (a1:Int) (r:Bool) (hm:KG a1=some r):CtX Tryz.prog globs 129 0 0 [.one (.val (.int .u8 a1))] [] (qID r) (qIS r):=by
 unfold KG at hm;refine q_E Tryz.f129 9 λE=>?_;refine s_vn [] 0 ⟨[(0,vc (.val (.int .u8 a1)))],[]⟩ ?_;refine q_jn (ι:=Bool) (λp=>OF p) (λp=>UA p=some r) ?_ ?_
 ·rintro x3 hm;show H _ (OF x3) _ _;obtain rfl:=oi hm;refine q_rt ?_;exact q_rm
 ·rcases bif_c hm with⟨b2,hm⟩|⟨b2,hm⟩
  ·refine q_vn [qf 2 b2] 0 ⟨[(2,vb (decide (a1<=122)))],[]⟩ ?_;exact q_J (decide (a1<=122)) hm
  ·refine q_vn [qf 2 b2] 0 ⟨[(2,vb false)],[]⟩ ?_;exact q_J (false) hm
def qIE (r:Bool):V:=vb r
def qIQ (r:Bool):List (Nat×(Nat×O)):=[]
def CO (x3:Bool):St:=
 ⟨[(2,vb x3)],[]⟩
theorem qBt (a1:Int) (r:Bool) (hm:VC a1=some r):CtX Tryz.prog globs 130 0 0 [.one (.val (.int .u8 a1))] [] (qIE r) (qIQ r):=by
 unfold VC at hm;refine q_E Tryz.f130 9 λE=>?_;refine s_vn [] 0 ⟨[(0,vc (.val (.int .u8 a1)))],[]⟩ ?_;refine q_jn (ι:=Bool) (λp=>CO p) (λp=>UP p=some r) ?_ ?_
 ·rintro x3 hm;show H _ (CO x3) _ _;obtain rfl:=oi hm;refine q_rt ?_;exact q_rm
 ·rcases bif_c hm with⟨b2,hm⟩|⟨b2,hm⟩
  ·refine q_vn [qf 2 b2] 0 ⟨[(2,vb (decide (a1<=57)))],[]⟩ ?_;exact q_J (decide (a1<=57)) hm
  ·refine q_vn [qf 2 b2] 0 ⟨[(2,vb false)],[]⟩ ?_;exact q_J (false) hm
def AJ (r:Bool):V:=vb r
def AH (r:Bool):List (Nat×(Nat×O)):=[]
def qAj (a1:ByteArray) (x9:Int) (x18:Bool):St:=
 ⟨[(0,vc (cs a1)),(3,vi x9),(39,vb x18)],[]⟩
def FG (a1:ByteArray) (x9:Int):St:=
 ⟨[(0,vc (cs a1)),(3,vi x9)],[]⟩
def qAI :St:=
 ⟨[],[]⟩
def qAN (a1:ByteArray) (x7:Bool):St:=
 ⟨[(0,vc (cs a1)),(18,vb x7)],[]⟩
theorem qFV (E:Env 0) (a1:ByteArray):∀(n:Nat) (x9:Int) (res:Bool⊕Unit),wV a1 n x9=some res->HL (kx E 40 0) (nd Tryz.f72 116) (wY 0 (λo=>qAI) (λv st=>RetQ Tryz.prog Tryz.f72 (AJ v) (AH v) .ret st) res) n (FG a1 x9):=by
 intro n
 induction n with
 |zero=>
  intro x9 res hm;cases hm
 |succ n ih=>
  intro x9 res hm;refine qM ?_;refine q_sq ?_;refine s_vu [] 0 [] [(22,vb (decide (x9<((a1.size:Nat):Int))))] [] [] ?_;refine q_cm hm (λb10 hm=>?_) (λb10 hm=>?_)
  ·refine q_sk ?_;refine q_sq ?_;refine q_bk 1 ?_;obtain⟨g11,hm⟩:=qI hm;refine s_vu [qd 2 (Dir.none) (inb_of g11)] 0 [22] [(4,vc (.val (.int .u8 (strAt a1 x9.toNat))))] [] [] ?_;refine q_jn (ι:=Bool) (λp=>qAj a1 x9 p) (λp=>PB x9 (wV a1 n) p=some res) ?_ ?_
   ·rintro x18 hm;show H _ (qAj a1 x9 x18) _ _;refine q_cm hm (λb19 hm=>?_) (λb19 hm=>?_)
    ·refine s_vn [] 0 ⟨[(2,vb false)],[]⟩ ?_;obtain rfl:=oi hm;refine q_rt ?_;refine zH false ?_;exact q_rm
    ·refine q_sk ?_;refine q_vu [] 0 [3,39] [(3,vi (w64 (x9+1)))] [] [] ?_;exact q_hl (FG a1 (w64 (x9+1))) (ih (w64 (x9+1)) _ hm)
   ·obtain⟨v12,h13,hm⟩:=qB hm;rcases bif_c hm with⟨b14,hm⟩|⟨b14,hm⟩
    ·obtain⟨v15,h16,hm⟩:=qB hm;rcases bif_c hm with⟨b17,hm⟩|⟨b17,hm⟩
     ·refine q_vu [qc 1 [28] 0 (UD (strAt a1 x9.toNat) v12 h13),qf 3 b14,qk 5 [31,32] 0 ⟨[(31,vb true),(32,vc (.val (.int .u8 (strAt a1 x9.toNat))))],[]⟩ (qBt (strAt a1 x9.toNat) v15 h16),qf 8 b17] 0 [4] [(39,vb ((strAt a1 x9.toNat) !=95))] [] [] ?_;exact q_J ((strAt a1 x9.toNat) !=95) hm
     ·refine q_vu [qc 1 [28] 0 (UD (strAt a1 x9.toNat) v12 h13),qf 3 b14,qk 5 [31,32] 0 ⟨[(31,vb true),(32,vc (.val (.int .u8 (strAt a1 x9.toNat))))],[]⟩ (qBt (strAt a1 x9.toNat) v15 h16),qf 8 b17] 0 [4] [(39,vb false)] [] [] ?_;exact q_J (false) hm
    ·refine q_vu [qc 1 [28] 0 (UD (strAt a1 x9.toNat) v12 h13),qf 3 b14] 0 [4] [(39,vb false)] [] [] ?_;exact q_J (false) hm
  ·refine q_ex 0 ?_;obtain rfl:=oi hm;exact jI () (by kernel_rfl) (by kernel_rfl)
theorem qIL (a1:ByteArray) (r:Bool) (hm:BF a1=some r):CtX Tryz.prog globs 72 0 0 [.one (cs a1)] [] (AJ r) (AH r):=by
 unfold BF at hm;refine q_E Tryz.f72 40 λE=>?_;refine s_vn [] 0 ⟨[(0,vc (cs a1))],[]⟩ ?_;refine q_sq ?_;refine q_jn (ι:=Bool) (λp=>qAN a1 p) (λp=>PN a1 p=some r) ?_ ?_
 ·rintro x7 hm;show H _ (qAN a1 x7) _ _;refine q_cm hm (λb8 hm=>?_) (λb8 hm=>?_)
  ·refine s_vn [] 0 ⟨[(2,vb false)],[]⟩ ?_;obtain rfl:=oi hm;refine q_rt ?_;exact q_rm
  ·refine q_sk ?_;refine q_sq ?_;refine s_vu [] 0 [18] [(3,vi 1)] [] [] ?_;obtain⟨u22,h21,hm⟩:=qB hm;refine zP (nd Tryz.f72 116) 0 (by kernel_rfl) FUEL (λo=>qAI) (λv st=>RetQ Tryz.prog Tryz.f72 (AJ v) (AH v) .ret st) u22 (q_hl (FG a1 1) (qFV E a1 FUEL 1 u22 h21)) ?_ ?_
   ·rintro v23 rfl st hr;obtain rfl:=oi hm;exact hr
   ·rintro o20 rfl;replace hm:_=some r:=hm;refine s_vn [] 0 ⟨[(2,vb true)],[]⟩ ?_;obtain rfl:=oi hm;refine q_rt ?_;exact q_rm
 ·rcases bif_c hm with⟨b2,hm⟩|⟨b2,hm⟩
  ·refine q_vu [qf 3 b2] 0 [] [(18,vb true)] [] [] ?_;exact q_J (true) hm
  ·rcases bif_c hm with⟨b3,hm⟩|⟨b3,hm⟩
   ·refine q_vu [qf 3 b2,qf 8 b3] 0 [] [(18,vb true)] [] [] ?_;exact q_J (true) hm
   ·obtain⟨g4,hm⟩:=qI hm;obtain⟨v5,h6,hm⟩:=qB hm;refine q_vu [qf 3 b2,qf 8 b3,qd 10 (Dir.none) (inb_of g4),qk 11 [13,15] 0 ⟨[(13,vb false),(15,vc (.val (.int .u8 (strAt a1 ((0:Int).toNat)))))],[]⟩ (UD (strAt a1 ((0:Int).toNat)) v5 h6)] 0 [] [(18,vb (!v5))] [] [] ?_;exact q_J (!v5) hm
def AB (r:Int×Bool):V:= .tup [.one (ci r.1),.one (cb r.2)]
def AW (r:Int×Bool):List (Nat×(Nat×O)):=[]
def FP (a1:List Product) (a2:ByteArray) (x3:Int):St:=
 ⟨[(1,vc (cs a2)),(8,vc (tl qC default a1)),(9,vi ((a1.length:Nat):Int)),(10,vi x3)],[]⟩
def qAx :St:=
 ⟨[],[]⟩
theorem qFz (E:Env 0) (a1:List Product) (a2:ByteArray):∀(n:Nat) (x3:Int) (res:(Int×Bool)⊕Unit),QU a1 a2 n x3=some res->HL (kx E 21 0) (nd Tryz.f73 52) (wY 0 (λo=>qAx) (λv st=>RetQ Tryz.prog Tryz.f73 (AB v) (AW v) .ret st) res) n (FP a1 a2 x3):=by
 intro n
 induction n with
 |zero=>
  intro x3 res hm;cases hm
 |succ n ih=>
  intro x3 res hm;refine qM ?_;refine s_vu [] 0 [] [(11,vb (decide (x3<((a1.length:Nat):Int))))] [] [] ?_;refine q_sq ?_;refine q_cm hm (λb4 hm=>?_) (λb4 hm=>?_)
  ·refine q_sk ?_;refine q_sq ?_;refine q_bk 1 ?_;obtain⟨g5,hm⟩:=qI hm;refine s_vu [qd 1 (Dir.none) (inb_of g5)] 0 [11] [(6,vi x3),(7,vp 0 0)] [] [(0,bx 54 [cs ((a1.getD x3.toNat default).Name),ci ((a1.getD x3.toNat default).Thick),ci ((a1.getD x3.toNat default).Width),ci ((a1.getD x3.toNat default).Allow),ci ((a1.getD x3.toNat default).Wane),tl e_i64 default ((a1.getD x3.toNat default).Lengths),tl e_i64 default ((a1.getD x3.toNat default).Prices)])] ?_;refine s_vu [] 1 [7] [(18,vb (strEq ((a1.getD x3.toNat default).Name) a2))] [0] [] ?_;refine q_cm hm (λb6 hm=>?_) (λb6 hm=>?_)
   ·refine s_vn [] 1 ⟨[(4,vi x3),(5,vb true)],[]⟩ ?_;obtain rfl:=oi hm;refine q_rt ?_;refine zH (x3,true) ?_;exact q_rm
   ·refine q_sk ?_;refine q_vu [] 1 [6,10,18] [(10,vi (w64 (x3+1)))] [] [] ?_;exact q_hl (FP a1 a2 (w64 (x3+1))) (ih (w64 (x3+1)) _ hm)
  ·refine q_ex 0 ?_;obtain rfl:=oi hm;exact jI () (by kernel_rfl) (by kernel_rfl)
theorem qIn (a1:List Product) (a2:ByteArray) (r:Int×Bool) (hm:BC a1 a2=some r):CtX Tryz.prog globs 73 0 0 [.one (tl qC default a1),.one (cs a2)] [] (AB r) (AW r):=by
 unfold BC at hm;refine q_E Tryz.f73 21 λE=>?_;refine s_vn [] 0 ⟨[(0,vc (tl qC default a1)),(1,vc (cs a2))],[]⟩ ?_;refine q_sq ?_;refine s_vu [] 0 [0] [(8,vc (tl qC default a1)),(9,vi ((a1.length:Nat):Int)),(10,vi 0)] [] [] ?_;obtain⟨u9,h8,hm⟩:=qB hm;refine zP (nd Tryz.f73 52) 0 (by kernel_rfl) FUEL (λo=>qAx) (λv st=>RetQ Tryz.prog Tryz.f73 (AB v) (AW v) .ret st) u9 (q_hl (FP a1 a2 0) (qFz E a1 a2 FUEL 0 u9 h8)) ?_ ?_
 ·rintro v10 rfl st hr;obtain rfl:=oi hm;exact hr
 ·rintro o7 rfl;replace hm:_=some r:=hm;refine s_vn [] 0 ⟨[(4,vi 0),(5,vb false)],[]⟩ ?_;obtain rfl:=oi hm;refine q_rt ?_;exact q_rm
def qJR (r:Int):V:=vi r
def qJJ (r:Int):List (Nat×(Nat×O)):=[]
theorem qCo (a1:Int) (a2:Int) (r:Int) (hm:DN a1 a2=some r):CtX Tryz.prog globs 76 0 0 [.one (ci a1),.one (ci a2)] [] (qJR r) (qJJ r):=by
 unfold DN at hm;refine q_E Tryz.f76 11 λE=>?_;refine s_vn [] 0 ⟨[(0,vi a1),(1,vi a2)],[]⟩ ?_;refine s_vn [qd 5 (Dir.none) (show(1000:Int)≠0 by decide)] 0 ⟨[(4,vi (w64 (Int.tdiv (w64 ((w64 (a1*(w64 (1000+a2))))+999)) 1000)))],[]⟩ ?_;obtain rfl:=oi hm;refine q_rt ?_;exact q_rm
def qHE (r:Bool):V:=vb r
def qHc (r:Bool):List (Nat×(Nat×O)):=[]
def EJ (x3:Bool):St:=
 ⟨[(2,vb x3)],[]⟩
theorem yK (a1:Int) (r:Bool) (hm:XB a1=some r):CtX Tryz.prog globs 75 0 0 [.one (ci a1)] [] (qHE r) (qHc r):=by
 unfold XB at hm;refine q_E Tryz.f75 9 λE=>?_;refine s_vn [] 0 ⟨[(0,vi a1)],[]⟩ ?_;refine q_jn (ι:=Bool) (λp=>EJ p) (λp=>PZ p=some r) ?_ ?_
 ·rintro x3 hm;show H _ (EJ x3) _ _;obtain rfl:=oi hm;refine q_rt ?_;exact q_rm
 ·rcases bif_c hm with⟨b2,hm⟩|⟨b2,hm⟩
  ·refine q_vn [qf 2 b2] 0 ⟨[(2,vb (decide (a1<=600)))],[]⟩ ?_;exact q_J (decide (a1<=600)) hm
  ·refine q_vn [qf 2 b2] 0 ⟨[(2,vb false)],[]⟩ ?_;exact q_J (false) hm
def qHR (r:Int×Int):V:= .tup [.one (ci r.1),.one (ci r.2)]
def qIW (r:Int×Int):List (Nat×(Nat×O)):=[]
def OY (a1:Product) (x9:Bool):St:=
 ⟨[(1,vp 0 0),(23,vb x9)],[(0,bx 54 (qC a1))]⟩
theorem XO (a1:Product) (r:Int×Int) (hm:QF a1=some r):CtX Tryz.prog globs 31 0 0 [.agg (qC a1)] [] (qHR r) (qIW r):=by
 unfold QF at hm;refine q_E Tryz.f31 34 λE=>?_;refine s_vn [] 0 ⟨[(1,vp 0 0)],[(0,bx 54 (qC a1))]⟩ ?_;refine q_sq ?_;refine q_jn (ι:=Bool) (λp=>OY a1 p) (λp=>WF a1 p=some r) ?_ ?_
 ·rintro x9 hm;show H _ (OY a1 x9) _ _;refine q_cm hm (λb10 hm=>?_) (λb10 hm=>?_)
  ·refine s_vn [] 1 ⟨[(2,vi 0),(3,vi 0)],[]⟩ ?_;obtain rfl:=oi hm;refine q_rt ?_;exact q_rm
  ·refine q_sk ?_;obtain⟨v11,h12,hm⟩:=qB hm;obtain⟨v13,h14,hm⟩:=qB hm;refine s_dn [qc 4 [25,27] 1 (qCo a1.Thick a1.Allow v11 h12),qc 9 [30,32] 1 (qCo a1.Width a1.Allow v13 h14)] [0,1,0,4,15,0,32,0,128,511,1023,2047] 1 ⟨[(2,vi v11),(3,vi v13)],[]⟩ ?_;obtain rfl:=oi hm;refine q_rt ?_;exact q_rm
 ·obtain⟨v2,h3,hm⟩:=qB hm;rcases bif_c hm with⟨b4,hm⟩|⟨b4,hm⟩
  ·refine q_vu [qc 2 [5] 1 (yK a1.Thick v2 h3),qf 4 b4] 1 [] [(23,vb true)] [] [] ?_;exact q_J (true) hm
  ·obtain⟨v5,h6,hm⟩:=qB hm;rcases bif_c hm with⟨b7,hm⟩|⟨b7,hm⟩
   ·refine q_vu [qc 2 [5] 1 (yK a1.Thick v2 h3),qf 4 b4,qk 7 [8,10] 1 ⟨[(8,vb false),(10,vi a1.Width)],[]⟩ (yK a1.Width v5 h6),qf 10 b7] 1 [] [(23,vb true)] [] [] ?_;exact q_J (true) hm
   ·rcases bif_c hm with⟨b8,hm⟩|⟨b8,hm⟩
    ·refine q_vu [qc 2 [5] 1 (yK a1.Thick v2 h3),qf 4 b4,qk 7 [8,10] 1 ⟨[(8,vb false),(10,vi a1.Width)],[]⟩ (yK a1.Width v5 h6),qf 10 b7,qf 15 b8] 1 [] [(23,vb true)] [] [] ?_;exact q_J (true) hm
    ·refine q_vu [qc 2 [5] 1 (yK a1.Thick v2 h3),qf 4 b4,qk 7 [8,10] 1 ⟨[(8,vb false),(10,vi a1.Width)],[]⟩ (yK a1.Width v5 h6),qf 10 b7,qf 15 b8] 1 [] [(23,vb (decide (a1.Allow>200)))] [] [] ?_;exact q_J (decide (a1.Allow>200)) hm
end Saw
end Go.SL

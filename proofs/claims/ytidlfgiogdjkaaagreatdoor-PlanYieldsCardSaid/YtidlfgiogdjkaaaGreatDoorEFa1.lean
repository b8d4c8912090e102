import Derived.Test.YtidlfgiogdjkaaaGreatDoorEBase
set_option linter.unusedVariables false
set_option linter.unusedSimpArgs false
namespace Go.SL
namespace Saw
open Go.Proofs
set_option maxHeartbeats 4000000
set_option maxRecDepth 100000
def qHC (r:Bool):V:=vb r
def qHA (r:Bool):List (Nat×(Nat×O)):=[]
def AV (x3:Bool):St:=
 ⟨[(2,vb x3)],[]⟩
theorem qGu (a1:Span) (r:Bool) (hm:PL a1=some r):CtX Tryz.prog globs 203 0 0 [.agg (e_Span a1)] [] (qHC r) (qHA r):=by
 unfold PL at hm;refine q_E Tryz.f203 17 λE=>?_;refine s_vn [] 0 ⟨[(1,vp 0 0)],[(0,bx 31 (e_Span a1))]⟩ ?_;refine q_jn (ι:=Bool) (λp=>AV p) (λp=>PU p=some r) ?_ ?_
 ·rintro x3 hm;show H _ (AV x3) _ _;obtain rfl:=oi hm;refine q_rt ?_;exact q_rm
 ·rcases bif_c hm with⟨b2,hm⟩|⟨b2,hm⟩
  ·refine q_vn [qf 6 b2] 1 ⟨[(2,vb (decide ((imax a1.A a1.B)<=600)))],[]⟩ ?_;exact q_J (decide ((imax a1.A a1.B)<=600)) hm
  ·refine q_vn [qf 6 b2] 1 ⟨[(2,vb false)],[]⟩ ?_;exact q_J (false) hm
def qHw (r:Bool):V:=vb r
def qHE (r:Bool):List (Nat×(Nat×O)):=[]
theorem QI (a1:Span) (r:Bool) (hm:ZB a1=some r):CtX Tryz.prog globs 143 0 0 [.agg (e_Span a1)] [] (qHw r) (qHE r):=by
 unfold ZB at hm;refine q_E Tryz.f143 8 λE=>?_;refine s_vn [] 0 ⟨[(1,vp 0 0)],[(0,bx 31 (e_Span a1))]⟩ ?_;refine s_vn [] 1 ⟨[(2,vb (decide (a1.A≥a1.B)))],[]⟩ ?_;obtain rfl:=oi hm;refine q_rt ?_;exact q_rm
def PC (r:Int):V:=vi r
def PA (r:Int):List (Nat×(Nat×O)):=[]
def NW (a1:qK) (x6:Int):St:=
 ⟨[(1,vp 0 0),(3,vi ((a1.Rows.length:Nat):Int)),(24,vc (tl e_Span default a1.Rows)),(25,vi ((a1.Rows.length:Nat):Int)),(26,vi x6)],[(0,bx 70 (zW a1))]⟩
def CZ (a1:qK):St:=
 ⟨[(1,vp 0 0),(3,vi ((a1.Rows.length:Nat):Int))],[(0,bx 70 (zW a1))]⟩
def qAs (a1:qK) (x27:Int) (x33:Bool):St:=
 ⟨[(54,vc (tl e_Span default a1.Rows)),(55,vi ((a1.Rows.length:Nat):Int)),(56,vi x27),(66,vb x33)],[]⟩
def NE (a1:qK) (x27:Int):St:=
 ⟨[(54,vc (tl e_Span default a1.Rows)),(55,vi ((a1.Rows.length:Nat):Int)),(56,vi x27)],[]⟩
def qAG :St:=
 ⟨[],[]⟩
def qAr (a1:qK) (x25:Bool):St:=
 ⟨[(1,vp 0 0),(52,vb x25)],[(0,bx 70 (zW a1))]⟩
def qAg (a1:qK) (x4:Bool):St:=
 ⟨[(1,vp 0 0),(3,vi ((a1.Rows.length:Nat):Int)),(22,vb x4)],[(0,bx 70 (zW a1))]⟩
theorem qFU (E:Env 0) (a1:qK):∀(n:Nat) (x6:Int) (res:Int⊕Unit),QE a1 n x6=some res->HL (kx E 68 0) (nd Tryz.f170 500) (wP 0 (λo=>CZ a1) (λv st=>RetQ Tryz.prog Tryz.f170 (PC v) (PA v) .ret st) res) n (NW a1 x6):=by
 intro n
 induction n with
 |zero=>
  intro x6 res hm;cases hm
 |succ n ih=>
  intro x6 res hm;refine qO ?_;refine s_vu [] 1 [] [(27,vb (decide (x6<((a1.Rows.length:Nat):Int))))] [] [] ?_;refine q_sq ?_;refine q_cm hm (λb7 hm=>?_) (λb7 hm=>?_)
  ·refine q_sk ?_;refine q_sq ?_;refine q_bk 1 ?_;obtain⟨g8,hm⟩:=qI hm;refine s_vu [qd 0 (Dir.none) (inb_of g8)] 1 [27] [(5,vp 1 0)] [] [(1,bx 31 [ci ((a1.Rows.getD x6.toNat default).A),ci ((a1.Rows.getD x6.toNat default).B)])] ?_;obtain⟨v9,h10,hm⟩:=qA hm;refine s_vu [qc 1 [30] 2 (qGu (a1.Rows.getD x6.toNat default) v9 h10)] 2 [5] [(32,vb (!v9))] [1] [] ?_;refine q_cm hm (λb11 hm=>?_) (λb11 hm=>?_)
   ·refine s_vn [] 2 ⟨[(2,vi 9)],[]⟩ ?_;obtain rfl:=oi hm;refine q_rt ?_;refine qZ 9 ?_;exact q_rm
   ·refine q_sk ?_;refine q_vu [] 2 [26,32] [(26,vi (w64 (x6+1)))] [] [] ?_;exact q_hl (NW a1 (w64 (x6+1))) (ih (w64 (x6+1)) _ hm)
  ·refine q_ex 0 ?_;obtain rfl:=oi hm;exact wV () (by kernel_rfl) (by kernel_rfl)
theorem qFM (E:Env 0) (a1:qK):∀(n:Nat) (x27:Int) (res:Int⊕Unit),jH a1 n x27=some res->HL (kx E 68 0) (nd Tryz.f170 4084) (wP 2 (λo=>qAG) (λv st=>RetQ Tryz.prog Tryz.f170 (PC v) (PA v) .ret st) res) n (NE a1 x27):=by
 intro n
 induction n with
 |zero=>
  intro x27 res hm;cases hm
 |succ n ih=>
  intro x27 res hm;refine qO ?_;refine s_vu [] 1 [] [(57,vb (decide (x27<((a1.Rows.length:Nat):Int))))] [] [] ?_;refine q_sq ?_;refine q_cm hm (λb28 hm=>?_) (λb28 hm=>?_)
  ·refine q_sk ?_;refine q_sq ?_;refine q_bk 3 ?_;obtain⟨g29,hm⟩:=qI hm;refine s_vu [qd 0 (Dir.none) (inb_of g29)] 1 [57] [(7,vp 1 0)] [] [(1,bx 31 [ci ((a1.Rows.getD x27.toNat default).A),ci ((a1.Rows.getD x27.toNat default).B)])] ?_;refine q_jn (ι:=Bool) (λp=>qAs a1 x27 p) (λp=>UW x27 (jH a1 n) p=some res) ?_ ?_
   ·rintro x33 hm;show H _ (qAs a1 x27 x33) _ _;refine q_cm hm (λb34 hm=>?_) (λb34 hm=>?_)
    ·refine s_vn [] 2 ⟨[(2,vi 19)],[]⟩ ?_;obtain rfl:=oi hm;refine q_rt ?_;refine qZ 19 ?_;exact q_rm
    ·refine q_sk ?_;refine q_vu [] 2 [56,66] [(56,vi (w64 (x27+1)))] [] [] ?_;exact q_hl (NE a1 (w64 (x27+1))) (ih (w64 (x27+1)) _ hm)
   ·obtain⟨v30,h31,hm⟩:=qA hm;rcases bif_c hm with⟨b32,hm⟩|⟨b32,hm⟩
    ·refine q_vu [qc 1 [60] 2 (QI (a1.Rows.getD x27.toNat default) v30 h31),qf 2 b32] 2 [7] [(66,vb (!((((a1.Rows.getD x27.toNat default).A)==0)&&((((a1.Rows.getD x27.toNat default).B)==0)&&true))))] [1] [] ?_;exact q_J (!((((a1.Rows.getD x27.toNat default).A)==0)&&((((a1.Rows.getD x27.toNat default).B)==0)&&true))) hm
    ·refine q_vu [qc 1 [60] 2 (QI (a1.Rows.getD x27.toNat default) v30 h31),qf 2 b32] 2 [7] [(66,vb false)] [1] [] ?_;exact q_J (false) hm
  ·refine q_ex 2 ?_;obtain rfl:=oi hm;exact wV () (by kernel_rfl) (by kernel_rfl)
theorem qCg (a1:qK) (r:Int) (hm:KS a1=some r):CtX Tryz.prog globs 170 0 0 [.agg (zW a1)] [] (PC r) (PA r):=by
 unfold KS at hm;refine q_E Tryz.f170 68 λE=>?_;refine s_vn [] 0 ⟨[(1,vp 0 0)],[(0,bx 70 (zW a1))]⟩ ?_;refine s_vu [] 1 [] [(3,vi ((a1.Rows.length:Nat):Int))] [] [] ?_;refine q_sq ?_;refine s_vu [] 1 [] [(12,vb (decide (((a1.Rows.length:Nat):Int)>120)))] [] [] ?_;refine q_cm hm (λb2 hm=>?_) (λb2 hm=>?_)
 ·refine s_vn [] 1 ⟨[(2,vi 4)],[]⟩ ?_;obtain rfl:=oi hm;refine q_rt ?_;exact q_rm
 ·refine q_sk ?_;refine q_sq ?_;refine q_jn (ι:=Bool) (λp=>qAg a1 p) (λp=>UY a1 p=some r) ?_ ?_
  ·rintro x4 hm;show H _ (qAg a1 x4) _ _;refine q_cm hm (λb5 hm=>?_) (λb5 hm=>?_)
   ·refine s_vn [] 1 ⟨[(2,vi 9)],[]⟩ ?_;obtain rfl:=oi hm;refine q_rt ?_;exact q_rm
   ·refine q_sk ?_;refine q_sq ?_;refine s_vu [] 1 [22] [(24,vc (tl e_Span default a1.Rows)),(25,vi ((a1.Rows.length:Nat):Int)),(26,vi 0)] [] [] ?_;obtain⟨u14,h13,hm⟩:=qA hm;refine zO (nd Tryz.f170 500) 0 (by kernel_rfl) FUEL (λo=>CZ a1) (λv st=>RetQ Tryz.prog Tryz.f170 (PC v) (PA v) .ret st) u14 (q_hl (NW a1 0) (qFU E a1 FUEL 0 u14 h13)) ?_ ?_
    ·rintro v15 rfl st hr;obtain rfl:=oi hm;exact hr
    ·rintro o12 rfl;replace hm:_=some r:=hm;refine q_sq ?_;refine s_vu [] 1 [] [(35,vb (((a1.Rows.length:Nat):Int)==0))] [] [] ?_;refine q_cm hm (λb16 hm=>?_) (λb16 hm=>?_)
     ·refine q_sq ?_;refine s_vn [] 1 ⟨[(38,vb (a1.Low !=0))],[]⟩ ?_;refine q_cm hm (λb17 hm=>?_) (λb17 hm=>?_)
      ·refine s_vn [] 1 ⟨[(2,vi 19)],[]⟩ ?_;obtain rfl:=oi hm;refine q_rt ?_;exact q_rm
      ·refine q_sk ?_;refine s_vn [] 1 ⟨[(2,vi 0)],[]⟩ ?_;obtain rfl:=oi hm;refine q_rt ?_;exact q_rm
     ·refine q_sk ?_;refine q_sq ?_;refine q_jn (ι:=Bool) (λp=>qAr a1 p) (λp=>VJ a1 p=some r) ?_ ?_
      ·rintro x25 hm;show H _ (qAr a1 x25) _ _;refine q_cm hm (λb26 hm=>?_) (λb26 hm=>?_)
       ·refine s_vn [] 1 ⟨[(2,vi 19)],[]⟩ ?_;obtain rfl:=oi hm;refine q_rt ?_;exact q_rm
       ·refine q_sk ?_;refine q_sq ?_;refine s_vn [] 1 ⟨[(54,vc (tl e_Span default a1.Rows)),(55,vi ((a1.Rows.length:Nat):Int)),(56,vi 0)],[]⟩ ?_;obtain⟨u37,h36,hm⟩:=qA hm;refine zO (nd Tryz.f170 4084) 2 (by kernel_rfl) FUEL (λo=>qAG) (λv st=>RetQ Tryz.prog Tryz.f170 (PC v) (PA v) .ret st) u37 (q_hl (NE a1 0) (qFM E a1 FUEL 0 u37 h36)) ?_ ?_
        ·rintro v38 rfl st hr;obtain rfl:=oi hm;exact hr
        ·rintro o35 rfl;replace hm:_=some r:=hm;refine s_vn [] 1 ⟨[(2,vi 0)],[]⟩ ?_;obtain rfl:=oi hm;refine q_rt ?_;exact q_rm
      ·obtain⟨g18,hm⟩:=qI hm;obtain⟨v19,h20,hm⟩:=qA hm;rcases bif_c hm with⟨b21,hm⟩|⟨b21,hm⟩
       ·refine q_vu [qd 2 (Dir.none) (inb_of g18),qc 4 [42] 1 (QI (a1.Rows.getD (0:Int).toNat default) v19 h20),qf 5 b21] 1 [3,35] [(52,vb true)] [] [] ?_;exact q_J (true) hm
       ·obtain⟨g22,hm⟩:=qI hm;obtain⟨v23,h24,hm⟩:=qA hm;refine q_vu [qd 2 (Dir.none) (inb_of g18),qc 4 [42] 1 (QI (a1.Rows.getD (0:Int).toNat default) v19 h20),qf 5 b21,qd 10 (Dir.none) (inb_of g22),qk 12 [44,50] 1 ⟨[(44,vb false),(50,va [ci ((a1.Rows.getD (w64 (((a1.Rows.length:Nat):Int)-1)).toNat default).A),ci ((a1.Rows.getD (w64 (((a1.Rows.length:Nat):Int)-1)).toNat default).B)])],[]⟩ (QI (a1.Rows.getD (w64 (((a1.Rows.length:Nat):Int)-1)).toNat default) v23 h24)] 1 [3,35] [(52,vb v23)] [] [] ?_;exact q_J (v23) hm
  ·rcases bif_c hm with⟨b3,hm⟩|⟨b3,hm⟩
   ·refine q_vu [qf 3 b3] 1 [12] [(22,vb true)] [] [] ?_;exact q_J (true) hm
   ·refine q_vu [qf 3 b3] 1 [12] [(22,vb (decide (a1.Low>(w64 (60-((a1.Rows.length:Nat):Int))))))] [] [] ?_;exact q_J (decide (a1.Low>(w64 (60-((a1.Rows.length:Nat):Int))))) hm
def qAQ (r:Int):V:=vi r
def qAN (r:Int):List (Nat×(Nat×O)):=[]
def qCq (a1:List qB) (x4:Int) (x5:Int) (x13:Bool):St:=
 ⟨[(3,vi x4),(5,vp 0 0),(13,vc (tl qG default a1)),(14,vi ((a1.length:Nat):Int)),(15,vi x5),(39,vb x13)],[(0,bx 72 [ci ((a1.getD x5.toNat default).Len),ci (((a1.getD x5.toNat default).Sec).Low),tl e_Span default (((a1.getD x5.toNat default).Sec).Rows)])]⟩
def HK (a1:List qB) (x4:Int) (x5:Int):St:=
 ⟨[(3,vi x4),(13,vc (tl qG default a1)),(14,vi ((a1.length:Nat):Int)),(15,vi x5)],[]⟩
def qCH :St:=
 ⟨[],[]⟩
theorem qHx (E:Env 0) (a1:List qB):∀(n:Nat) (x4:Int) (x5:Int) (res:Int⊕Unit),yI a1 n x4 x5=some res->HL (kx E 45 0) (nd Tryz.f122 500) (wP 0 (λo=>qCH) (λv st=>RetQ Tryz.prog Tryz.f122 (qAQ v) (qAN v) .ret st) res) n (HK a1 x4 x5):=by
 intro n
 induction n with
 |zero=>
  intro x4 x5 res hm;cases hm
 |succ n ih=>
  intro x4 x5 res hm;refine qO ?_;refine s_vu [] 0 [] [(16,vb (decide (x5<((a1.length:Nat):Int))))] [] [] ?_;refine q_sq ?_;refine q_cm hm (λb6 hm=>?_) (λb6 hm=>?_)
  ·refine q_sk ?_;refine q_sq ?_;refine q_bk 1 ?_;obtain⟨g7,hm⟩:=qI hm;refine s_vu [qd 0 (Dir.none) (inb_of g7)] 0 [16] [(5,vp 0 0)] [] [(0,bx 72 [ci ((a1.getD x5.toNat default).Len),ci (((a1.getD x5.toNat default).Sec).Low),tl e_Span default (((a1.getD x5.toNat default).Sec).Rows)])] ?_;refine q_sq ?_;obtain⟨v8,h9,hm⟩:=qA hm;refine s_vu [qc 2 [20] 1 (qCg ((a1.getD x5.toNat default).Sec) v8 h9)] 1 [] [(6,vi v8)] [] [] ?_;refine s_vu [] 1 [] [(23,vb (v8 !=0))] [] [] ?_;refine q_cm hm (λb10 hm=>?_) (λb10 hm=>?_)
   ·refine s_vn [] 1 ⟨[(2,vi v8)],[]⟩ ?_;obtain rfl:=oi hm;refine q_rt ?_;refine qZ v8 ?_;exact q_rm
   ·refine q_sk ?_;refine q_sq ?_;refine s_vu [] 1 [6,23] [(29,vb ((((((a1.getD x5.toNat default).Sec).Rows).length:Nat):Int)==0))] [] [] ?_;refine q_cm hm (λb11 hm=>?_) (λb11 hm=>?_)
    ·refine s_vn [] 1 ⟨[(2,vi 18)],[]⟩ ?_;obtain rfl:=oi hm;refine q_rt ?_;refine qZ 18 ?_;exact q_rm
    ·refine q_sk ?_;refine q_sq ?_;refine q_jn (ι:=Bool) (λp=>qCq a1 x4 x5 p) (λp=>FO a1 x4 x5 (yI a1 n) p=some res) ?_ ?_
     ·rintro x13 hm;show H _ (qCq a1 x4 x5 x13) _ _;refine q_cm hm (λb14 hm=>?_) (λb14 hm=>?_)
      ·refine s_vn [] 1 ⟨[(2,vi 9)],[]⟩ ?_;obtain rfl:=oi hm;refine q_rt ?_;refine qZ 9 ?_;exact q_rm
      ·refine q_sk ?_;refine q_vu [] 1 [3,5,39] [(3,vi (w64 (x4+((a1.getD x5.toNat default).Len))))] [0] [] ?_;refine q_vu [] 1 [15] [(15,vi (w64 (x5+1)))] [] [] ?_;exact q_hl (HK a1 (w64 (x4+((a1.getD x5.toNat default).Len))) (w64 (x5+1))) (ih (w64 (x4+((a1.getD x5.toNat default).Len))) (w64 (x5+1)) _ hm)
     ·rcases bif_c hm with⟨b12,hm⟩|⟨b12,hm⟩
      ·refine q_vu [qf 3 b12] 1 [29] [(39,vb true)] [] [] ?_;exact q_J (true) hm
      ·refine q_vu [qf 3 b12] 1 [29] [(39,vb (decide (((a1.getD x5.toNat default).Len)>(w64 (20000-x4)))))] [] [] ?_;exact q_J (decide (((a1.getD x5.toNat default).Len)>(w64 (20000-x4)))) hm
  ·refine q_ex 0 ?_;obtain rfl:=oi hm;exact wV () (by kernel_rfl) (by kernel_rfl)
theorem QK (a1:List qB) (r:Int) (hm:JE a1=some r):CtX Tryz.prog globs 122 0 0 [.one (tl qG default a1)] [] (qAQ r) (qAN r):=by
 unfold JE at hm;refine q_E Tryz.f122 45 λE=>?_;refine s_vn [] 0 ⟨[(0,vc (tl qG default a1))],[]⟩ ?_;refine q_sq ?_;refine s_vu [] 0 [] [(9,vb (((a1.length:Nat):Int)==0))] [] [] ?_;refine q_cm hm (λb2 hm=>?_) (λb2 hm=>?_)
 ·refine s_vn [] 0 ⟨[(2,vi 3)],[]⟩ ?_;obtain rfl:=oi hm;refine q_rt ?_;exact q_rm
 ·refine q_sk ?_;refine q_sq ?_;refine s_vu [] 0 [9] [(12,vb (decide (((a1.length:Nat):Int)>24)))] [] [] ?_;refine q_cm hm (λb3 hm=>?_) (λb3 hm=>?_)
  ·refine s_vn [] 0 ⟨[(2,vi 4)],[]⟩ ?_;obtain rfl:=oi hm;refine q_rt ?_;exact q_rm
  ·refine q_sk ?_;refine s_vu [] 0 [12] [(3,vi 0)] [] [] ?_;refine q_sq ?_;refine s_vu [] 0 [0] [(13,vc (tl qG default a1)),(14,vi ((a1.length:Nat):Int)),(15,vi 0)] [] [] ?_;obtain⟨u17,h16,hm⟩:=qA hm;refine zO (nd Tryz.f122 500) 0 (by kernel_rfl) FUEL (λo=>qCH) (λv st=>RetQ Tryz.prog Tryz.f122 (qAQ v) (qAN v) .ret st) u17 (q_hl (HK a1 0 0) (qHx E a1 FUEL 0 0 u17 h16)) ?_ ?_
   ·rintro v18 rfl st hr;obtain rfl:=oi hm;exact hr
   ·rintro o15 rfl;replace hm:_=some r:=hm;refine s_vn [] 0 ⟨[(2,vi 0)],[]⟩ ?_;obtain rfl:=oi hm;refine q_rt ?_;exact q_rm
def qMH (r:(List qB)):V:=vc (tl qG default r)
def qMI (r:(List qB)):List (Nat×(Nat×O)):=[]
theorem LA (a1:List qB) (r:(List qB)) (hm:YX a1=some r):CtX Tryz.prog globs 70 0 0 [.one (tl qG default a1)] [] (qMH r) (qMI r):=by
 unfold YX at hm;refine q_E Tryz.f70 7 λE=>?_;refine s_vn [] 0 ⟨[(0,vc (tl qG default a1))],[]⟩ ?_;refine q_sq ?_;obtain⟨v2,h3,hm⟩:=qA hm;refine s_vu [qc 1 [3] 0 (QK a1 v2 h3)] 0 [] [(5,vb (v2 !=0))] [] [] ?_;refine q_cm hm (λb4 hm=>?_) (λb4 hm=>?_)
 ·refine s_vn [] 0 ⟨[(2,vc (.emp))],[]⟩ ?_;refine q_fn [.own 2 0 72 3 (rf qG ([]:List qB))] ⟨[(2,vo 0 0 3 0)],[(0,ro 0 72 3 0 (rf qG ([]:List qB)))]⟩ o0 ?_;refine q_fn [.len 0 (([]:List qB).length),.frz 0] ⟨[(2,vc (tl qG default ([]:List qB)))],[]⟩ (o1 (And.intro (And.intro (show 0=([]:List qB).length from rfl) (show 0=([]:List qB).length from rfl)) (Nat.le_refl (([]:List qB).length)))) ?_;obtain rfl:=oi hm;refine q_rt ?_;exact q_rm
 ·refine q_sk ?_;refine s_vn [] 0 ⟨[(2,vc (tl qG default a1))],[]⟩ ?_;obtain rfl:=oi hm;refine q_rt ?_;exact q_rm
def qK9 (r:Int):V:=vi r
def qKQ (r:Int):List (Nat×(Nat×O)):=[]
def LR (v2:(List qB)) (x4:Int) (x5:Int):St:=
 ⟨[(3,vi x4),(7,vc (tl qG default v2)),(8,vi ((v2.length:Nat):Int)),(9,vi x5)],[]⟩
def qAY (x8:Int):St:=
 ⟨[(3,vi x8)],[]⟩
theorem qG4 (E:Env 0) (v2:(List qB)):∀(n:Nat) (x4:Int) (x5:Int) (res:Int),ZG v2 n x4 x5=some res->HL (kx E 19 0) (nd Tryz.f39 116) (zR 0 (λo=>qAY o) res) n (LR v2 x4 x5):=by
 intro n
 induction n with
 |zero=>
  intro x4 x5 res hm;cases hm
 |succ n ih=>
  intro x4 x5 res hm;refine qO ?_;refine s_vu [] 0 [] [(10,vb (decide (x5<((v2.length:Nat):Int))))] [] [] ?_;refine q_sq ?_;refine q_cm hm (λb6 hm=>?_) (λb6 hm=>?_)
  ·refine q_sk ?_;refine q_sq ?_;refine q_bk 1 ?_;obtain⟨g7,hm⟩:=qI hm;refine s_vu [qd 0 (Dir.none) (inb_of g7)] 0 [10] [(5,vp 0 0)] [] [(0,bx 72 [ci ((v2.getD x5.toNat default).Len),ci (((v2.getD x5.toNat default).Sec).Low),tl e_Span default (((v2.getD x5.toNat default).Sec).Rows)])] ?_;refine q_vu [] 1 [3,5] [(3,vi (w64 (x4+((v2.getD x5.toNat default).Len))))] [0] [] ?_;refine q_vu [] 1 [9] [(9,vi (w64 (x5+1)))] [] [] ?_;exact q_hl (LR v2 (w64 (x4+((v2.getD x5.toNat default).Len))) (w64 (x5+1))) (ih (w64 (x4+((v2.getD x5.toNat default).Len))) (w64 (x5+1)) _ hm)
  ·refine q_ex 0 ?_;obtain rfl:=oi hm;exact wJ (by kernel_rfl) (by kernel_rfl)
theorem JW (a1:List qB) (r:Int) (hm:yV a1=some r):CtX Tryz.prog globs 39 0 0 [.one (tl qG default a1)] [] (qK9 r) (qKQ r):=by
 unfold yV at hm;refine q_E Tryz.f39 19 λE=>?_;refine s_vn [] 0 ⟨[(0,vc (tl qG default a1))],[]⟩ ?_;refine s_vu [] 0 [] [(3,vi 0)] [] [] ?_;refine q_sq ?_;obtain⟨v2,h3,hm⟩:=qA hm;refine s_vu [qc 1 [6] 0 (LA a1 v2 h3)] 0 [0] [(7,vc (tl qG default v2)),(8,vi ((v2.length:Nat):Int)),(9,vi 0)] [] [] ?_;obtain⟨o9,h10,hm⟩:=qA hm;refine zL (nd Tryz.f39 116) 0 (by kernel_rfl) FUEL (λo=>qAY o) o9 (q_hl (LR v2 0 0) (qG4 E v2 FUEL 0 0 o9 h10)) ?_;refine s_vn [] 0 ⟨[(2,vi o9)],[]⟩ ?_;obtain rfl:=oi hm;refine q_rt ?_;exact q_rm
def qO8 (r:Rect):V:=va (qD r)
def qNz (r:Rect):List (Nat×(Nat×O)):=[]
theorem qAK (a1:Rect) (a2:Int) (a3:Int) (r:Rect) (hm:VX a1 a2 a3=some r):CtX Tryz.prog globs 88 0 0 [.agg (qD a1),.one (ci a2),.one (ci a3)] [] (qO8 r) (qNz r):=by
 unfold VX at hm;refine q_E Tryz.f88 21 λE=>?_;refine s_vn [] 0 ⟨[(1,vi a2),(2,vi a3),(3,vp 0 0),(6,vp 1 0)],[(0,bx 33 (qD a1)),(1,bx 33 [ci 0,ci 0,ci 0,ci 0])]⟩ ?_;refine s_vn [] 2 ⟨[(6,vp 1 0)],[(1,bx 33 [ci a1.X.A,ci a1.X.B,ci (w64 (a1.Y.A+a2)),ci (w64 (a1.Y.A+a3))])]⟩ ?_;obtain rfl:=oi hm;refine q_rt ?_;exact q_rm
def qBm (a1:List Node) (a2:List (List Node)) (r:(List (List Node))×(List (List Node))):V:=vo 0 0 1 r.2.length
def plan_collect_s1_o (a1:List Node) (a2:List (List Node)) (r:(List (List Node))×(List (List Node))):List (Nat×(Nat×O)):=[(0,ro 0 44 1 r.2.length (rf (qE e_Node) r.2))]
theorem qGv (a1:List Node) (a2:List (List Node)) (r:(List (List Node))×(List (List Node))) (hm:DY a1 a2=some r):CtX Tryz.prog globs 89 1 0 [.one (.own 0 0 1 a2.length),.one (tl e_Node default a1)] [(0,ro 0 44 1 a2.length (rf (qE e_Node) a2))] (qBm a1 a2 r) (plan_collect_s1_o a1 a2 r):=by
 unfold DY at hm;refine q_E Tryz.f89 9 λE=>?_;refine s_vn [] 1 ⟨[(0,vo 0 0 1 a2.length),(1,vc (tl e_Node default a1))],[(0,ro 0 44 1 a2.length (rf (qE e_Node) a2))]⟩ ?_;obtain⟨g3,hm⟩:=qI hm
 refine s_vn [qd 2 (drw 1 0 (rf (qE e_Node) ([a1]:List (List Node)))) (litP (qE e_Node) default 1 (λ_=>rfl) ([a1]:List (List Node)) 1 rfl),qd 3 (drw 0 1 (rf (qE e_Node) (a2++([a1]:List (List Node))))) (apP (qE e_Node) default a2 ([a1]:List (List Node)) a2.length 1 1 24 (1<=1) (Nat.le_refl _) rfl rfl (λ_=>rfl) (zG g3))] 1 ⟨[(4,vo 0 1 1 (a2.length+1))],[(0,ro 1 44 1 (a2.length+1) (rf (qE e_Node) (a2++([a1]:List (List Node)))))]⟩ ?_
 refine q_fn [.len 0 ((a2++([a1]:List (List Node))).length)] ⟨[(4,vo 0 1 1 ((a2++([a1]:List (List Node))).length))],[(0,ro 1 44 1 ((a2++([a1]:List (List Node))).length) (rf (qE e_Node) (a2++([a1]:List (List Node)))))]⟩ (o1 (And.intro (Eq.symm (show(a2++([a1]:List (List Node))).length=(a2.length+1) from(len_app rfl rfl))) (Eq.symm (show(a2++([a1]:List (List Node))).length=(a2.length+1) from(len_app rfl rfl))))) ?_;obtain rfl:=oi hm;refine q_rt ?_;exact q_rm
def qJz (r:Bool):V:=vb r
def qKu (r:Bool):List (Nat×(Nat×O)):=[]
def CY (x5:Bool):St:=
 ⟨[(6,vb x5)],[]⟩
theorem WE (a1:Span) (a2:Int) (a3:Int) (r:Bool) (hm:YI a1 a2 a3=some r):CtX Tryz.prog globs 205 0 0 [.agg (e_Span a1),.one (ci a2),.one (ci a3)] [] (qJz r) (qKu r):=by
 unfold YI at hm;refine q_E Tryz.f205 23 λE=>?_;refine s_vn [] 0 ⟨[(1,vi a2),(2,vi a3),(3,vp 0 0)],[(0,bx 31 (e_Span a1))]⟩ ?_;refine q_jn (ι:=Bool) (λp=>CY p) (λp=>VV p=some r) ?_ ?_
 ·rintro x5 hm;show H _ (CY x5) _ _;obtain rfl:=oi hm;refine q_rt ?_;exact q_rm
 ·rcases bif_c hm with⟨b4,hm⟩|⟨b4,hm⟩
  ·refine q_vn [qf 7 b4] 1 ⟨[(6,vb (decide ((imax a1.A a1.B)<=a3)))],[]⟩ ?_;exact q_J (decide ((imax a1.A a1.B)<=a3)) hm
  ·refine q_vn [qf 7 b4] 1 ⟨[(6,vb false)],[]⟩ ?_;exact q_J (false) hm
def qIf (r:Bool):V:=vb r
def qIV (r:Bool):List (Nat×(Nat×O)):=[]
theorem zU (a1:Span) (r:Bool) (hm:yL a1=some r):CtX Tryz.prog globs 204 0 0 [.agg (e_Span a1)] [] (qIf r) (qIV r):=by
 unfold yL at hm;refine q_E Tryz.f204 8 λE=>?_;refine s_vn [] 0 ⟨[(1,vp 0 0)],[(0,bx 31 (e_Span a1))]⟩ ?_;refine s_vn [] 1 ⟨[(2,vb (decide (a1.A≥a1.B)))],[]⟩ ?_;obtain rfl:=oi hm;refine q_rt ?_;exact q_rm
def qLv (r:Int):V:=vi r
def qKH (r:Int):List (Nat×(Nat×O)):=[]
def qBf (x23:Bool):St:=
 ⟨[(29,vb x23)],[]⟩
def qBe (a1:Defect) (x13:Bool):St:=
 ⟨[(3,vp 1 0),(15,vb x13)],[(1,bx 128 (QQ a1.Box))]⟩
def qBh (a1:Defect) (x3:Bool):St:=
 ⟨[(3,vp 1 0),(6,vb x3)],[(1,bx 128 (QQ a1.Box))]⟩
theorem qJn (a1:Defect) (r:Int) (hm:FB a1=some r):CtX Tryz.prog globs 171 0 0 [.agg (qH a1)] [] (qLv r) (qKH r):=by
 unfold FB at hm;refine q_E Tryz.f171 46 λE=>?_;refine s_vn [] 0 ⟨[(1,vp 0 0)],[(0,bx 212 (qH a1))]⟩ ?_;refine s_vu [] 1 [] [(3,vp 1 0)] [] [(1,bx 128 (QQ a1.Box))] ?_;refine q_sq ?_;refine q_bk 0 ?_;refine q_jn (ι:=Bool) (λp=>qBh a1 p) (λp=>DT a1 p=some r) ?_ ?_
 ·rintro x3 hm;show H _ (qBh a1 x3) _ _;refine q_cm hm (λb4 hm=>?_) (λb4 hm=>?_)
  ·refine s_vn [] 2 ⟨[(2,vi 10)],[]⟩ ?_;obtain rfl:=oi hm;refine q_rt ?_;exact q_rm
  ·refine q_jn (ι:=Bool) (λp=>qBe a1 p) (λp=>PY a1 p=some r) ?_ ?_
   ·rintro x13 hm;show H _ (qBe a1 x13) _ _;refine q_cm hm (λb14 hm=>?_) (λb14 hm=>?_)
    ·refine s_vn [] 2 ⟨[(2,vi 19)],[]⟩ ?_;obtain rfl:=oi hm;refine q_rt ?_;exact q_rm
    ·refine q_jn (ι:=Bool) (λp=>qBf p) (λp=>KZ p=some r) ?_ ?_
     ·rintro x23 hm;show H _ (qBf x23) _ _;refine q_cm hm (λb24 hm=>?_) (λb24 hm=>?_)
      ·refine s_vn [] 2 ⟨[(2,vi 9)],[]⟩ ?_;obtain rfl:=oi hm;refine q_rt ?_;exact q_rm
      ·refine q_sk ?_;refine s_vn [] 2 ⟨[(2,vi 0)],[]⟩ ?_;obtain rfl:=oi hm;refine q_rt ?_;exact q_rm
     ·obtain⟨v15,h16,hm⟩:=qA hm;rcases bif_c hm with⟨b17,hm⟩|⟨b17,hm⟩
      ·refine q_vn [qk 2 [31] 2 ⟨[(31,va (e_Span a1.Box.X))],[]⟩ (WE a1.Box.X (-600) 600 v15 h16),qf 4 b17] 2 ⟨[(29,vb true)],[]⟩ ?_;exact q_J (true) hm
      ·obtain⟨v18,h19,hm⟩:=qA hm;rcases bif_c hm with⟨b20,hm⟩|⟨b20,hm⟩
       ·refine q_vn [qk 2 [31] 2 ⟨[(31,va (e_Span a1.Box.X))],[]⟩ (WE a1.Box.X (-600) 600 v15 h16),qf 4 b17,qk 7 [34,36] 2 ⟨[(34,vb false),(36,va (e_Span a1.Box.Y))],[]⟩ (WE a1.Box.Y (-600) 600 v18 h19),qf 10 b20] 2 ⟨[(29,vb true)],[]⟩ ?_;exact q_J (true) hm
       ·obtain⟨v21,h22,hm⟩:=qA hm;refine q_vn [qk 2 [31] 2 ⟨[(31,va (e_Span a1.Box.X))],[]⟩ (WE a1.Box.X (-600) 600 v15 h16),qf 4 b17,qk 7 [34,36] 2 ⟨[(34,vb false),(36,va (e_Span a1.Box.Y))],[]⟩ (WE a1.Box.Y (-600) 600 v18 h19),qf 10 b20,qk 13 [40,42] 2 ⟨[(40,vb false),(42,va (e_Span a1.Box.Z))],[]⟩ (WE a1.Box.Z 0 20000 v21 h22)] 2 ⟨[(29,vb (!v21))],[]⟩ ?_;exact q_J (!v21) hm
   ·obtain⟨v5,h6,hm⟩:=qA hm;rcases bif_c hm with⟨b7,hm⟩|⟨b7,hm⟩
    ·refine q_vu [qc 2 [17] 2 (zU a1.Box.X v5 h6),qf 3 b7] 2 [6] [(15,vb true)] [] [] ?_;exact q_J (true) hm
    ·obtain⟨v8,h9,hm⟩:=qA hm;rcases bif_c hm with⟨b10,hm⟩|⟨b10,hm⟩
     ·refine q_vu [qc 2 [17] 2 (zU a1.Box.X v5 h6),qf 3 b7,qk 6 [19,21] 2 ⟨[(19,vb false),(21,va (e_Span a1.Box.Y))],[]⟩ (zU a1.Box.Y v8 h9),qf 8 b10] 2 [6] [(15,vb true)] [] [] ?_;exact q_J (true) hm
     ·obtain⟨v11,h12,hm⟩:=qA hm;refine q_vu [qc 2 [17] 2 (zU a1.Box.X v5 h6),qf 3 b7,qk 6 [19,21] 2 ⟨[(19,vb false),(21,va (e_Span a1.Box.Y))],[]⟩ (zU a1.Box.Y v8 h9),qf 8 b10,qk 11 [24,26] 2 ⟨[(24,vb false),(26,va (e_Span a1.Box.Z))],[]⟩ (zU a1.Box.Z v11 h12)] 2 [6] [(15,vb v11)] [] [] ?_;exact q_J (v11) hm
 ·rcases bif_c hm with⟨b2,hm⟩|⟨b2,hm⟩
  ·refine q_vu [qf 3 b2] 2 [1] [(6,vb true)] [0] [] ?_;exact q_J (true) hm
  ·refine q_vu [qf 3 b2] 2 [1] [(6,vb (decide (a1.Kind>6)))] [0] [] ?_;exact q_J (decide (a1.Kind>6)) hm
def IV (r:Int):V:=vi r
def IS (r:Int):List (Nat×(Nat×O)):=[]
def LF (a1:List Defect) (x3:Int):St:=
 ⟨[(9,vc (tl qH default a1)),(10,vi ((a1.length:Nat):Int)),(11,vi x3)],[]⟩
def qBv :St:=
 ⟨[],[]⟩
theorem qGr (E:Env 0) (a1:List Defect):∀(n:Nat) (x3:Int) (res:Int⊕Unit),QT a1 n x3=some res->HL (kx E 21 0) (nd Tryz.f123 116) (wP 0 (λo=>qBv) (λv st=>RetQ Tryz.prog Tryz.f123 (IV v) (IS v) .ret st) res) n (LF a1 x3):=by
 intro n
 induction n with
 |zero=>
  intro x3 res hm;cases hm
 |succ n ih=>
  intro x3 res hm;refine qO ?_;refine s_vu [] 0 [] [(12,vb (decide (x3<((a1.length:Nat):Int))))] [] [] ?_;refine q_sq ?_;refine q_cm hm (λb4 hm=>?_) (λb4 hm=>?_)
  ·refine q_sk ?_;refine q_sq ?_;refine q_bk 1 ?_;obtain⟨g5,hm⟩:=qI hm;refine s_vu [qd 0 (Dir.none) (inb_of g5)] 0 [12] [(4,vp 0 0)] [] [(0,bx 212 [ci ((a1.getD x3.toNat default).Kind),ci ((((a1.getD x3.toNat default).Box).X).A),ci ((((a1.getD x3.toNat default).Box).X).B),ci ((((a1.getD x3.toNat default).Box).Y).A),ci ((((a1.getD x3.toNat default).Box).Y).B),ci ((((a1.getD x3.toNat default).Box).Z).A),ci ((((a1.getD x3.toNat default).Box).Z).B)])] ?_;obtain⟨v6,h7,hm⟩:=qA hm;refine s_vu [qc 1 [15] 1 (qJn (a1.getD x3.toNat default) v6 h7)] 1 [4] [(5,vi v6)] [0] [] ?_
   refine s_vu [] 1 [] [(18,vb (v6 !=0))] [] [] ?_;refine q_cm hm (λb8 hm=>?_) (λb8 hm=>?_)
   ·refine s_vn [] 1 ⟨[(2,vi v6)],[]⟩ ?_;obtain rfl:=oi hm;refine q_rt ?_;refine qZ v6 ?_;exact q_rm
   ·refine q_sk ?_;refine q_vu [] 1 [5,11,18] [(11,vi (w64 (x3+1)))] [] [] ?_;exact q_hl (LF a1 (w64 (x3+1))) (ih (w64 (x3+1)) _ hm)
  ·refine q_ex 0 ?_;obtain rfl:=oi hm;exact wV () (by kernel_rfl) (by kernel_rfl)
theorem YE (a1:List Defect) (r:Int) (hm:JI a1=some r):CtX Tryz.prog globs 123 0 0 [.one (tl qH default a1)] [] (IV r) (IS r):=by
 unfold JI at hm;refine q_E Tryz.f123 21 λE=>?_;refine s_vn [] 0 ⟨[(0,vc (tl qH default a1))],[]⟩ ?_;refine q_sq ?_;refine s_vu [] 0 [] [(8,vb (decide (((a1.length:Nat):Int)>64)))] [] [] ?_;refine q_cm hm (λb2 hm=>?_) (λb2 hm=>?_)
 ·refine s_vn [] 0 ⟨[(2,vi 4)],[]⟩ ?_;obtain rfl:=oi hm;refine q_rt ?_;exact q_rm
 ·refine q_sk ?_;refine q_sq ?_;refine s_vn [] 0 ⟨[(9,vc (tl qH default a1)),(10,vi ((a1.length:Nat):Int)),(11,vi 0)],[]⟩ ?_;obtain⟨u11,h10,hm⟩:=qA hm;refine zO (nd Tryz.f123 116) 0 (by kernel_rfl) FUEL (λo=>qBv) (λv st=>RetQ Tryz.prog Tryz.f123 (IV v) (IS v) .ret st) u11 (q_hl (LF a1 0) (qGr E a1 FUEL 0 u11 h10)) ?_ ?_
  ·rintro v12 rfl st hr;obtain rfl:=oi hm;exact hr
  ·rintro o9 rfl;replace hm:_=some r:=hm;refine s_vn [] 0 ⟨[(2,vi 0)],[]⟩ ?_;obtain rfl:=oi hm;refine q_rt ?_;exact q_rm
def qKh (r:Bool):V:=vb r
def qJZ (r:Bool):List (Nat×(Nat×O)):=[]
def qAF (x3:Bool):St:=
 ⟨[(2,vb x3)],[]⟩
theorem VC (a1:Int) (r:Bool) (hm:KW a1=some r):CtX Tryz.prog globs 129 0 0 [.one (.val (.int .u8 a1))] [] (qKh r) (qJZ r):=by
 unfold KW at hm;refine q_E Tryz.f129 9 λE=>?_;refine s_vn [] 0 ⟨[(0,vc (.val (.int .u8 a1)))],[]⟩ ?_;refine q_jn (ι:=Bool) (λp=>qAF p) (λp=>VG p=some r) ?_ ?_
 ·rintro x3 hm;show H _ (qAF x3) _ _;obtain rfl:=oi hm;refine q_rt ?_;exact q_rm
 ·rcases bif_c hm with⟨b2,hm⟩|⟨b2,hm⟩
  ·refine q_vn [qf 2 b2] 0 ⟨[(2,vb (decide (a1<=122)))],[]⟩ ?_;exact q_J (decide (a1<=122)) hm
  ·refine q_vn [qf 2 b2] 0 ⟨[(2,vb false)],[]⟩ ?_;exact q_J (false) hm
def qJI (r:Bool):V:=vb r
def qJW (r:Bool):List (Nat×(Nat×O)):=[]
def CL (x3:Bool):St:=
 ⟨[(2,vb x3)],[]⟩
theorem qCn (a1:Int) (r:Bool) (hm:GQ a1=some r):CtX Tryz.prog globs 130 0 0 [.one (.val (.int .u8 a1))] [] (qJI r) (qJW r):=by
 unfold GQ at hm;refine q_E Tryz.f130 9 λE=>?_;refine s_vn [] 0 ⟨[(0,vc (.val (.int .u8 a1)))],[]⟩ ?_;refine q_jn (ι:=Bool) (λp=>CL p) (λp=>VA p=some r) ?_ ?_
 ·rintro x3 hm;show H _ (CL x3) _ _;obtain rfl:=oi hm;refine q_rt ?_;exact q_rm
 ·rcases bif_c hm with⟨b2,hm⟩|⟨b2,hm⟩
  ·refine q_vn [qf 2 b2] 0 ⟨[(2,vb (decide (a1<=57)))],[]⟩ ?_;exact q_J (decide (a1<=57)) hm
  ·refine q_vn [qf 2 b2] 0 ⟨[(2,vb false)],[]⟩ ?_;exact q_J (false) hm
def zbQ (r:Bool):V:=vb r
def OJ (r:Bool):List (Nat×(Nat×O)):=[]
def qA8 (a1:ByteArray) (x9:Int) (x18:Bool):St:=
 ⟨[(0,vc (cs a1)),(3,vi x9),(39,vb x18)],[]⟩
def LZ (a1:ByteArray) (x9:Int):St:=
 ⟨[(0,vc (cs a1)),(3,vi x9)],[]⟩
def qA7 :St:=
 ⟨[],[]⟩
def qBc (a1:ByteArray) (x7:Bool):St:=
 ⟨[(0,vc (cs a1)),(18,vb x7)],[]⟩
theorem qGs (E:Env 0) (a1:ByteArray):∀(n:Nat) (x9:Int) (res:Bool⊕Unit),jD a1 n x9=some res->HL (kx E 40 0) (nd Tryz.f72 116) (wP 0 (λo=>qA7) (λv st=>RetQ Tryz.prog Tryz.f72 (zbQ v) (OJ v) .ret st) res) n (LZ a1 x9):=by
 intro n
 induction n with
 |zero=>
  intro x9 res hm;cases hm
 |succ n ih=>
  intro x9 res hm;refine qO ?_;refine q_sq ?_;refine s_vu [] 0 [] [(22,vb (decide (x9<((a1.size:Nat):Int))))] [] [] ?_;refine q_cm hm (λb10 hm=>?_) (λb10 hm=>?_)
  ·refine q_sk ?_;refine q_sq ?_;refine q_bk 1 ?_;obtain⟨g11,hm⟩:=qI hm;refine s_vu [qd 2 (Dir.none) (inb_of g11)] 0 [22] [(4,vc (.val (.int .u8 (strAt a1 x9.toNat))))] [] [] ?_;refine q_jn (ι:=Bool) (λp=>qA8 a1 x9 p) (λp=>RA x9 (jD a1 n) p=some res) ?_ ?_
   ·rintro x18 hm;show H _ (qA8 a1 x9 x18) _ _;refine q_cm hm (λb19 hm=>?_) (λb19 hm=>?_)
    ·refine s_vn [] 0 ⟨[(2,vb false)],[]⟩ ?_;obtain rfl:=oi hm;refine q_rt ?_;refine qZ false ?_;exact q_rm
    ·refine q_sk ?_;refine q_vu [] 0 [3,39] [(3,vi (w64 (x9+1)))] [] [] ?_;exact q_hl (LZ a1 (w64 (x9+1))) (ih (w64 (x9+1)) _ hm)
   ·obtain⟨v12,h13,hm⟩:=qA hm;rcases bif_c hm with⟨b14,hm⟩|⟨b14,hm⟩
    ·obtain⟨v15,h16,hm⟩:=qA hm;rcases bif_c hm with⟨b17,hm⟩|⟨b17,hm⟩
     ·refine q_vu [qc 1 [28] 0 (VC (strAt a1 x9.toNat) v12 h13),qf 3 b14,qk 5 [31,32] 0 ⟨[(31,vb true),(32,vc (.val (.int .u8 (strAt a1 x9.toNat))))],[]⟩ (qCn (strAt a1 x9.toNat) v15 h16),qf 8 b17] 0 [4] [(39,vb ((strAt a1 x9.toNat) !=95))] [] [] ?_;exact q_J ((strAt a1 x9.toNat) !=95) hm
     ·refine q_vu [qc 1 [28] 0 (VC (strAt a1 x9.toNat) v12 h13),qf 3 b14,qk 5 [31,32] 0 ⟨[(31,vb true),(32,vc (.val (.int .u8 (strAt a1 x9.toNat))))],[]⟩ (qCn (strAt a1 x9.toNat) v15 h16),qf 8 b17] 0 [4] [(39,vb false)] [] [] ?_;exact q_J (false) hm
    ·refine q_vu [qc 1 [28] 0 (VC (strAt a1 x9.toNat) v12 h13),qf 3 b14] 0 [4] [(39,vb false)] [] [] ?_;exact q_J (false) hm
  ·refine q_ex 0 ?_;obtain rfl:=oi hm;exact wV () (by kernel_rfl) (by kernel_rfl)
theorem qJ8 (a1:ByteArray) (r:Bool) (hm:BF a1=some r):CtX Tryz.prog globs 72 0 0 [.one (cs a1)] [] (zbQ r) (OJ r):=by
 unfold BF at hm;refine q_E Tryz.f72 40 λE=>?_;refine s_vn [] 0 ⟨[(0,vc (cs a1))],[]⟩ ?_;refine q_sq ?_;refine q_jn (ι:=Bool) (λp=>qBc a1 p) (λp=>RC a1 p=some r) ?_ ?_
 ·rintro x7 hm;show H _ (qBc a1 x7) _ _;refine q_cm hm (λb8 hm=>?_) (λb8 hm=>?_)
  ·refine s_vn [] 0 ⟨[(2,vb false)],[]⟩ ?_;obtain rfl:=oi hm;refine q_rt ?_;exact q_rm
  ·refine q_sk ?_;refine q_sq ?_;refine s_vu [] 0 [18] [(3,vi 1)] [] [] ?_;obtain⟨u22,h21,hm⟩:=qA hm;refine zO (nd Tryz.f72 116) 0 (by kernel_rfl) FUEL (λo=>qA7) (λv st=>RetQ Tryz.prog Tryz.f72 (zbQ v) (OJ v) .ret st) u22 (q_hl (LZ a1 1) (qGs E a1 FUEL 1 u22 h21)) ?_ ?_
   ·rintro v23 rfl st hr;obtain rfl:=oi hm;exact hr
   ·rintro o20 rfl;replace hm:_=some r:=hm;refine s_vn [] 0 ⟨[(2,vb true)],[]⟩ ?_;obtain rfl:=oi hm;refine q_rt ?_;exact q_rm
 ·rcases bif_c hm with⟨b2,hm⟩|⟨b2,hm⟩
  ·refine q_vu [qf 3 b2] 0 [] [(18,vb true)] [] [] ?_;exact q_J (true) hm
  ·rcases bif_c hm with⟨b3,hm⟩|⟨b3,hm⟩
   ·refine q_vu [qf 3 b2,qf 8 b3] 0 [] [(18,vb true)] [] [] ?_;exact q_J (true) hm
   ·obtain⟨g4,hm⟩:=qI hm;obtain⟨v5,h6,hm⟩:=qA hm;refine q_vu [qf 3 b2,qf 8 b3,qd 10 (Dir.none) (inb_of g4),qk 11 [13,15] 0 ⟨[(13,vb false),(15,vc (.val (.int .u8 (strAt a1 ((0:Int).toNat)))))],[]⟩ (VC (strAt a1 ((0:Int).toNat)) v5 h6)] 0 [] [(18,vb (!v5))] [] [] ?_;exact q_J (!v5) hm
def OB (r:Int×Bool):V:= .tup [.one (ci r.1),.one (cb r.2)]
def OF (r:Int×Bool):List (Nat×(Nat×O)):=[]
def LJ (a1:List Product) (a2:ByteArray) (x3:Int):St:=
 ⟨[(1,vc (cs a2)),(8,vc (tl qC default a1)),(9,vi ((a1.length:Nat):Int)),(10,vi x3)],[]⟩
def qBp :St:=
 ⟨[],[]⟩
theorem qFY (E:Env 0) (a1:List Product) (a2:ByteArray):∀(n:Nat) (x3:Int) (res:(Int×Bool)⊕Unit),ZK a1 a2 n x3=some res->HL (kx E 21 0) (nd Tryz.f73 52) (wP 0 (λo=>qBp) (λv st=>RetQ Tryz.prog Tryz.f73 (OB v) (OF v) .ret st) res) n (LJ a1 a2 x3):=by
 intro n
 induction n with
 |zero=>
  intro x3 res hm;cases hm
 |succ n ih=>
  intro x3 res hm;refine qO ?_;refine s_vu [] 0 [] [(11,vb (decide (x3<((a1.length:Nat):Int))))] [] [] ?_;refine q_sq ?_;refine q_cm hm (λb4 hm=>?_) (λb4 hm=>?_)
  ·refine q_sk ?_;refine q_sq ?_;refine q_bk 1 ?_;obtain⟨g5,hm⟩:=qI hm;refine s_vu [qd 1 (Dir.none) (inb_of g5)] 0 [11] [(6,vi x3),(7,vp 0 0)] [] [(0,bx 54 [cs ((a1.getD x3.toNat default).Name),ci ((a1.getD x3.toNat default).Thick),ci ((a1.getD x3.toNat default).Width),ci ((a1.getD x3.toNat default).Allow),ci ((a1.getD x3.toNat default).Wane),tl e_i64 default ((a1.getD x3.toNat default).Lengths),tl e_i64 default ((a1.getD x3.toNat default).Prices)])] ?_;refine s_vu [] 1 [7] [(18,vb (strEq ((a1.getD x3.toNat default).Name) a2))] [0] [] ?_;refine q_cm hm (λb6 hm=>?_) (λb6 hm=>?_)
   ·refine s_vn [] 1 ⟨[(4,vi x3),(5,vb true)],[]⟩ ?_;obtain rfl:=oi hm;refine q_rt ?_;refine qZ (x3,true) ?_;exact q_rm
   ·refine q_sk ?_;refine q_vu [] 1 [6,10,18] [(10,vi (w64 (x3+1)))] [] [] ?_;exact q_hl (LJ a1 a2 (w64 (x3+1))) (ih (w64 (x3+1)) _ hm)
  ·refine q_ex 0 ?_;obtain rfl:=oi hm;exact wV () (by kernel_rfl) (by kernel_rfl)
theorem qJU (a1:List Product) (a2:ByteArray) (r:Int×Bool) (hm:NH a1 a2=some r):CtX Tryz.prog globs 73 0 0 [.one (tl qC default a1),.one (cs a2)] [] (OB r) (OF r):=by
 unfold NH at hm;refine q_E Tryz.f73 21 λE=>?_;refine s_vn [] 0 ⟨[(0,vc (tl qC default a1)),(1,vc (cs a2))],[]⟩ ?_;refine q_sq ?_;refine s_vu [] 0 [0] [(8,vc (tl qC default a1)),(9,vi ((a1.length:Nat):Int)),(10,vi 0)] [] [] ?_;obtain⟨u9,h8,hm⟩:=qA hm;refine zO (nd Tryz.f73 52) 0 (by kernel_rfl) FUEL (λo=>qBp) (λv st=>RetQ Tryz.prog Tryz.f73 (OB v) (OF v) .ret st) u9 (q_hl (LJ a1 a2 0) (qFY E a1 a2 FUEL 0 u9 h8)) ?_ ?_
 ·rintro v10 rfl st hr;obtain rfl:=oi hm;exact hr
 ·rintro o7 rfl;replace hm:_=some r:=hm;refine s_vn [] 0 ⟨[(4,vi 0),(5,vb false)],[]⟩ ?_;obtain rfl:=oi hm;refine q_rt ?_;exact q_rm
def qLe (r:Int):V:=vi r
def qKG (r:Int):List (Nat×(Nat×O)):=[]
theorem qC6 (a1:Int) (a2:Int) (r:Int) (hm:BC a1 a2=some r):CtX Tryz.prog globs 76 0 0 [.one (ci a1),.one (ci a2)] [] (qLe r) (qKG r):=by
 unfold BC at hm;refine q_E Tryz.f76 11 λE=>?_;refine s_vn [] 0 ⟨[(0,vi a1),(1,vi a2)],[]⟩ ?_;refine s_vn [qd 5 (Dir.none) (show(1000:Int)≠0 by decide)] 0 ⟨[(4,vi (w64 (Int.tdiv (w64 ((w64 (a1*(w64 (1000+a2))))+999)) 1000)))],[]⟩ ?_;obtain rfl:=oi hm;refine q_rt ?_;exact q_rm
def qId (r:Bool):V:=vb r
def qIr (r:Bool):List (Nat×(Nat×O)):=[]
def AZ (x3:Bool):St:=
 ⟨[(2,vb x3)],[]⟩
theorem yO (a1:Int) (r:Bool) (hm:XA a1=some r):CtX Tryz.prog globs 75 0 0 [.one (ci a1)] [] (qId r) (qIr r):=by
 unfold XA at hm;refine q_E Tryz.f75 9 λE=>?_;refine s_vn [] 0 ⟨[(0,vi a1)],[]⟩ ?_;refine q_jn (ι:=Bool) (λp=>AZ p) (λp=>RR p=some r) ?_ ?_
 ·rintro x3 hm;show H _ (AZ x3) _ _;obtain rfl:=oi hm;refine q_rt ?_;exact q_rm
 ·rcases bif_c hm with⟨b2,hm⟩|⟨b2,hm⟩
  ·refine q_vn [qf 2 b2] 0 ⟨[(2,vb (decide (a1<=600)))],[]⟩ ?_;exact q_J (decide (a1<=600)) hm
  ·refine q_vn [qf 2 b2] 0 ⟨[(2,vb false)],[]⟩ ?_;exact q_J (false) hm
def qJC (r:Int×Int):V:= .tup [.one (ci r.1),.one (ci r.2)]
def qI8 (r:Int×Int):List (Nat×(Nat×O)):=[]
def qAj (a1:Product) (x9:Bool):St:=
 ⟨[(1,vp 0 0),(23,vb x9)],[(0,bx 54 (qC a1))]⟩
theorem KC (a1:Product) (r:Int×Int) (hm:QA a1=some r):CtX Tryz.prog globs 31 0 0 [.agg (qC a1)] [] (qJC r) (qI8 r):=by
 unfold QA at hm;refine q_E Tryz.f31 34 λE=>?_;refine s_vn [] 0 ⟨[(1,vp 0 0)],[(0,bx 54 (qC a1))]⟩ ?_;refine q_sq ?_;refine q_jn (ι:=Bool) (λp=>qAj a1 p) (λp=>WF a1 p=some r) ?_ ?_
 ·rintro x9 hm;show H _ (qAj a1 x9) _ _;refine q_cm hm (λb10 hm=>?_) (λb10 hm=>?_)
  ·refine s_vn [] 1 ⟨[(2,vi 0),(3,vi 0)],[]⟩ ?_;obtain rfl:=oi hm;refine q_rt ?_;exact q_rm
  ·refine q_sk ?_;obtain⟨v11,h12,hm⟩:=qA hm;obtain⟨v13,h14,hm⟩:=qA hm;refine s_dn [qc 4 [25,27] 1 (qC6 a1.Thick a1.Allow v11 h12),qc 9 [30,32] 1 (qC6 a1.Width a1.Allow v13 h14)] [0,1,0,4,15,0,32,0,128,511,1023,2047] 1 ⟨[(2,vi v11),(3,vi v13)],[]⟩ ?_;obtain rfl:=oi hm;refine q_rt ?_;exact q_rm
 ·obtain⟨v2,h3,hm⟩:=qA hm;rcases bif_c hm with⟨b4,hm⟩|⟨b4,hm⟩
  ·refine q_vu [qc 2 [5] 1 (yO a1.Thick v2 h3),qf 4 b4] 1 [] [(23,vb true)] [] [] ?_;exact q_J (true) hm
  ·obtain⟨v5,h6,hm⟩:=qA hm;rcases bif_c hm with⟨b7,hm⟩|⟨b7,hm⟩
   ·refine q_vu [qc 2 [5] 1 (yO a1.Thick v2 h3),qf 4 b4,qk 7 [8,10] 1 ⟨[(8,vb false),(10,vi a1.Width)],[]⟩ (yO a1.Width v5 h6),qf 10 b7] 1 [] [(23,vb true)] [] [] ?_;exact q_J (true) hm
   ·rcases bif_c hm with⟨b8,hm⟩|⟨b8,hm⟩
    ·refine q_vu [qc 2 [5] 1 (yO a1.Thick v2 h3),qf 4 b4,qk 7 [8,10] 1 ⟨[(8,vb false),(10,vi a1.Width)],[]⟩ (yO a1.Width v5 h6),qf 10 b7,qf 15 b8] 1 [] [(23,vb true)] [] [] ?_;exact q_J (true) hm
    ·refine q_vu [qc 2 [5] 1 (yO a1.Thick v2 h3),qf 4 b4,qk 7 [8,10] 1 ⟨[(8,vb false),(10,vi a1.Width)],[]⟩ (yO a1.Width v5 h6),qf 10 b7,qf 15 b8] 1 [] [(23,vb (decide (a1.Allow>200)))] [] [] ?_;exact q_J (decide (a1.Allow>200)) hm
end Saw
end Go.SL

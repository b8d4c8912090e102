import Derived.Test.YtidlfgiogdjkaaaGreatDoorEBase
set_option linter.unusedVariables false
set_option linter.unusedSimpArgs false
namespace Go.SL
namespace Saw
open Go.Proofs
set_option maxHeartbeats 4000000
set_option maxRecDepth 100000
def qMD (r:Rect):V:=va (qH r)
def qNr (r:Rect):List (Nat×(Nat×O)):=[]
theorem CV (a1:Rect) (a2:Int) (a3:Int) (r:Rect) (hm:TW a1 a2 a3=some r):CtX Tryz.prog globs 88 0 0 [.agg (qH a1),.one (ci a2),.one (ci a3)] [] (qMD r) (qNr r):=by
 unfold TW at hm;refine q_E Tryz.f88 21 λE=>?_;refine s_vn [] 0 ⟨[(1,vi a2),(2,vi a3),(3,vp 0 0),(6,vp 1 0)],[(0,bx 33 (qH a1)),(1,bx 33 [ci 0,ci 0,ci 0,ci 0])]⟩ ?_;refine s_vn [] 2 ⟨[(6,vp 1 0)],[(1,bx 33 [ci a1.X.A,ci a1.X.B,ci (w64 (a1.Y.A+a2)),ci (w64 (a1.Y.A+a3))])]⟩ ?_;obtain rfl:=oi hm;refine q_rt ?_;exact q_rm
def qAG (a1:List Node) (a2:List (List Node)) (r:(List (List Node))×(List (List Node))):V:=vo 0 0 1 r.2.length
def plan_collect_s1_o (a1:List Node) (a2:List (List Node)) (r:(List (List Node))×(List (List Node))):List (Nat×(Nat×O)):=[(0,ro 0 44 1 r.2.length (rf (qD e_Node) r.2))]
theorem qFA (a1:List Node) (a2:List (List Node)) (r:(List (List Node))×(List (List Node))) (hm:GR a1 a2=some r):CtX Tryz.prog globs 89 1 0 [.one (.own 0 0 1 a2.length),.one (tl e_Node default a1)] [(0,ro 0 44 1 a2.length (rf (qD e_Node) a2))] (qAG a1 a2 r) (plan_collect_s1_o a1 a2 r):=by
 unfold GR at hm;refine q_E Tryz.f89 9 λE=>?_;refine s_vn [] 1 ⟨[(0,vo 0 0 1 a2.length),(1,vc (tl e_Node default a1))],[(0,ro 0 44 1 a2.length (rf (qD e_Node) a2))]⟩ ?_;obtain⟨g3,hm⟩:=qG hm
 refine s_vn [qd 2 (drw 1 0 (rf (qD e_Node) ([a1]:List (List Node)))) (litP (qD e_Node) default 1 (λ_=>rfl) ([a1]:List (List Node)) 1 rfl),qd 3 (drw 0 1 (rf (qD e_Node) (a2++([a1]:List (List Node))))) (apP (qD e_Node) default a2 ([a1]:List (List Node)) a2.length 1 1 24 (1<=1) (Nat.le_refl _) rfl rfl (λ_=>rfl) (zL g3))] 1 ⟨[(4,vo 0 1 1 (a2.length+1))],[(0,ro 1 44 1 (a2.length+1) (rf (qD e_Node) (a2++([a1]:List (List Node)))))]⟩ ?_
 refine q_fn [.len 0 ((a2++([a1]:List (List Node))).length)] ⟨[(4,vo 0 1 1 ((a2++([a1]:List (List Node))).length))],[(0,ro 1 44 1 ((a2++([a1]:List (List Node))).length) (rf (qD e_Node) (a2++([a1]:List (List Node)))))]⟩ (o1 (And.intro (Eq.symm (show(a2++([a1]:List (List Node))).length=(a2.length+1) from(len_app rfl rfl))) (Eq.symm (show(a2++([a1]:List (List Node))).length=(a2.length+1) from(len_app rfl rfl))))) ?_;obtain rfl:=oi hm;refine q_rt ?_;exact q_rm
def qG0 (r:Bool):V:=vb r
def qG2 (r:Bool):List (Nat×(Nat×O)):=[]
def SW (x3:Bool):St:=
 ⟨[(2,vb x3)],[]⟩
theorem qFv (a1:Span) (r:Bool) (hm:KQ a1=some r):CtX Tryz.prog globs 203 0 0 [.agg (e_Span a1)] [] (qG0 r) (qG2 r):=by
 unfold KQ at hm;refine q_E Tryz.f203 17 λE=>?_;refine s_vn [] 0 ⟨[(1,vp 0 0)],[(0,bx 31 (e_Span a1))]⟩ ?_;refine q_jn (ι:=Bool) (λp=>SW p) (λp=>KM p=some r) ?_ ?_
 ·rintro x3 hm;show H _ (SW x3) _ _;obtain rfl:=oi hm;refine q_rt ?_;exact q_rm
 ·rcases bif_c hm with⟨b2,hm⟩|⟨b2,hm⟩
  ·refine q_vn [qf 6 b2] 1 ⟨[(2,vb (decide ((imax a1.A a1.B)<=600)))],[]⟩ ?_;exact q_J (decide ((imax a1.A a1.B)<=600)) hm
  ·refine q_vn [qf 6 b2] 1 ⟨[(2,vb false)],[]⟩ ?_;exact q_J (false) hm
def qG6 (r:Bool):V:=vb r
def qGO (r:Bool):List (Nat×(Nat×O)):=[]
theorem QC (a1:Span) (r:Bool) (hm:QL a1=some r):CtX Tryz.prog globs 143 0 0 [.agg (e_Span a1)] [] (qG6 r) (qGO r):=by
 unfold QL at hm;refine q_E Tryz.f143 8 λE=>?_;refine s_vn [] 0 ⟨[(1,vp 0 0)],[(0,bx 31 (e_Span a1))]⟩ ?_;refine s_vn [] 1 ⟨[(2,vb (decide (a1.A≥a1.B)))],[]⟩ ?_;obtain rfl:=oi hm;refine q_rt ?_;exact q_rm
def KC (r:Int):V:=vi r
def KL (r:Int):List (Nat×(Nat×O)):=[]
def BP (a1:qF) (x6:Int):St:=
 ⟨[(1,vp 0 0),(3,vi ((a1.Rows.length:Nat):Int)),(24,vc (tl e_Span default a1.Rows)),(25,vi ((a1.Rows.length:Nat):Int)),(26,vi x6)],[(0,bx 70 (qO a1))]⟩
def OE (a1:qF):St:=
 ⟨[(1,vp 0 0),(3,vi ((a1.Rows.length:Nat):Int))],[(0,bx 70 (qO a1))]⟩
def IV (a1:qF) (x27:Int) (x33:Bool):St:=
 ⟨[(54,vc (tl e_Span default a1.Rows)),(55,vi ((a1.Rows.length:Nat):Int)),(56,vi x27),(66,vb x33)],[]⟩
def DB (a1:qF) (x27:Int):St:=
 ⟨[(54,vc (tl e_Span default a1.Rows)),(55,vi ((a1.Rows.length:Nat):Int)),(56,vi x27)],[]⟩
def OX :St:=
 ⟨[],[]⟩
def OG (a1:qF) (x25:Bool):St:=
 ⟨[(1,vp 0 0),(52,vb x25)],[(0,bx 70 (qO a1))]⟩
def OV (a1:qF) (x4:Bool):St:=
 ⟨[(1,vp 0 0),(3,vi ((a1.Rows.length:Nat):Int)),(22,vb x4)],[(0,bx 70 (qO a1))]⟩
theorem qE7 (E:Env 0) (a1:qF):∀(n:Nat) (x6:Int) (res:Int⊕Unit),yT a1 n x6=some res->HL (kx E 68 0) (nd Tryz.f170 500) (zV 0 (λo=>OE a1) (λv st=>RetQ Tryz.prog Tryz.f170 (KC v) (KL v) .ret st) res) n (BP a1 x6):=by
 intro n
 induction n with
 |zero=>
  intro x6 res hm;cases hm
 |succ n ih=>
  intro x6 res hm;refine qM ?_;refine s_vu [] 1 [] [(27,vb (decide (x6<((a1.Rows.length:Nat):Int))))] [] [] ?_;refine q_sq ?_;refine q_cm hm (λb7 hm=>?_) (λb7 hm=>?_)
  ·refine q_sk ?_;refine q_sq ?_;refine q_bk 1 ?_;obtain⟨g8,hm⟩:=qG hm;refine s_vu [qd 0 (Dir.none) (inb_of g8)] 1 [27] [(5,vp 1 0)] [] [(1,bx 31 [ci ((a1.Rows.getD x6.toNat default).A),ci ((a1.Rows.getD x6.toNat default).B)])] ?_;obtain⟨v9,h10,hm⟩:=qA hm;refine s_vu [qc 1 [30] 2 (qFv (a1.Rows.getD x6.toNat default) v9 h10)] 2 [5] [(32,vb (!v9))] [1] [] ?_;refine q_cm hm (λb11 hm=>?_) (λb11 hm=>?_)
   ·refine s_vn [] 2 ⟨[(2,vi 9)],[]⟩ ?_;obtain rfl:=oi hm;refine q_rt ?_;refine qT 9 ?_;exact q_rm
   ·refine q_sk ?_;refine q_vu [] 2 [26,32] [(26,vi (w64 (x6+1)))] [] [] ?_;exact q_hl (BP a1 (w64 (x6+1))) (ih (w64 (x6+1)) _ hm)
  ·refine q_ex 0 ?_;obtain rfl:=oi hm;exact wB () (by kernel_rfl) (by kernel_rfl)
theorem qFj (E:Env 0) (a1:qF):∀(n:Nat) (x27:Int) (res:Int⊕Unit),wT a1 n x27=some res->HL (kx E 68 0) (nd Tryz.f170 4084) (zV 2 (λo=>OX) (λv st=>RetQ Tryz.prog Tryz.f170 (KC v) (KL v) .ret st) res) n (DB a1 x27):=by
 intro n
 induction n with
 |zero=>
  intro x27 res hm;cases hm
 |succ n ih=>
  intro x27 res hm;refine qM ?_;refine s_vu [] 1 [] [(57,vb (decide (x27<((a1.Rows.length:Nat):Int))))] [] [] ?_;refine q_sq ?_;refine q_cm hm (λb28 hm=>?_) (λb28 hm=>?_)
  ·refine q_sk ?_;refine q_sq ?_;refine q_bk 3 ?_;obtain⟨g29,hm⟩:=qG hm;refine s_vu [qd 0 (Dir.none) (inb_of g29)] 1 [57] [(7,vp 1 0)] [] [(1,bx 31 [ci ((a1.Rows.getD x27.toNat default).A),ci ((a1.Rows.getD x27.toNat default).B)])] ?_;refine q_jn (ι:=Bool) (λp=>IV a1 x27 p) (λp=>TC x27 (wT a1 n) p=some res) ?_ ?_
   ·rintro x33 hm;show H _ (IV a1 x27 x33) _ _;refine q_cm hm (λb34 hm=>?_) (λb34 hm=>?_)
    ·refine s_vn [] 2 ⟨[(2,vi 19)],[]⟩ ?_;obtain rfl:=oi hm;refine q_rt ?_;refine qT 19 ?_;exact q_rm
    ·refine q_sk ?_;refine q_vu [] 2 [56,66] [(56,vi (w64 (x27+1)))] [] [] ?_;exact q_hl (DB a1 (w64 (x27+1))) (ih (w64 (x27+1)) _ hm)
   ·obtain⟨v30,h31,hm⟩:=qA hm;rcases bif_c hm with⟨b32,hm⟩|⟨b32,hm⟩
    ·refine q_vu [qc 1 [60] 2 (QC (a1.Rows.getD x27.toNat default) v30 h31),qf 2 b32] 2 [7] [(66,vb (!((((a1.Rows.getD x27.toNat default).A)==0)&&((((a1.Rows.getD x27.toNat default).B)==0)&&true))))] [1] [] ?_;exact q_J (!((((a1.Rows.getD x27.toNat default).A)==0)&&((((a1.Rows.getD x27.toNat default).B)==0)&&true))) hm
    ·refine q_vu [qc 1 [60] 2 (QC (a1.Rows.getD x27.toNat default) v30 h31),qf 2 b32] 2 [7] [(66,vb false)] [1] [] ?_;exact q_J (false) hm
  ·refine q_ex 2 ?_;obtain rfl:=oi hm;exact wB () (by kernel_rfl) (by kernel_rfl)
theorem qCa (a1:qF) (r:Int) (hm:XV a1=some r):CtX Tryz.prog globs 170 0 0 [.agg (qO a1)] [] (KC r) (KL r):=by
 unfold XV at hm;refine q_E Tryz.f170 68 λE=>?_;refine s_vn [] 0 ⟨[(1,vp 0 0)],[(0,bx 70 (qO a1))]⟩ ?_;refine s_vu [] 1 [] [(3,vi ((a1.Rows.length:Nat):Int))] [] [] ?_;refine q_sq ?_;refine s_vu [] 1 [] [(12,vb (decide (((a1.Rows.length:Nat):Int)>120)))] [] [] ?_;refine q_cm hm (λb2 hm=>?_) (λb2 hm=>?_)
 ·refine s_vn [] 1 ⟨[(2,vi 4)],[]⟩ ?_;obtain rfl:=oi hm;refine q_rt ?_;exact q_rm
 ·refine q_sk ?_;refine q_sq ?_;refine q_jn (ι:=Bool) (λp=>OV a1 p) (λp=>TU a1 p=some r) ?_ ?_
  ·rintro x4 hm;show H _ (OV a1 x4) _ _;refine q_cm hm (λb5 hm=>?_) (λb5 hm=>?_)
   ·refine s_vn [] 1 ⟨[(2,vi 9)],[]⟩ ?_;obtain rfl:=oi hm;refine q_rt ?_;exact q_rm
   ·refine q_sk ?_;refine q_sq ?_;refine s_vu [] 1 [22] [(24,vc (tl e_Span default a1.Rows)),(25,vi ((a1.Rows.length:Nat):Int)),(26,vi 0)] [] [] ?_;obtain⟨u14,h13,hm⟩:=qA hm;refine zA (nd Tryz.f170 500) 0 (by kernel_rfl) FUEL (λo=>OE a1) (λv st=>RetQ Tryz.prog Tryz.f170 (KC v) (KL v) .ret st) u14 (q_hl (BP a1 0) (qE7 E a1 FUEL 0 u14 h13)) ?_ ?_
    ·rintro v15 rfl st hr;obtain rfl:=oi hm;exact hr
    ·rintro o12 rfl;replace hm:_=some r:=hm;refine q_sq ?_;refine s_vu [] 1 [] [(35,vb (((a1.Rows.length:Nat):Int)==0))] [] [] ?_;refine q_cm hm (λb16 hm=>?_) (λb16 hm=>?_)
     ·refine q_sq ?_;refine s_vn [] 1 ⟨[(38,vb (a1.Low !=0))],[]⟩ ?_;refine q_cm hm (λb17 hm=>?_) (λb17 hm=>?_)
      ·refine s_vn [] 1 ⟨[(2,vi 19)],[]⟩ ?_;obtain rfl:=oi hm;refine q_rt ?_;exact q_rm
      ·refine q_sk ?_;refine s_vn [] 1 ⟨[(2,vi 0)],[]⟩ ?_;obtain rfl:=oi hm;refine q_rt ?_;exact q_rm
     ·refine q_sk ?_;refine q_sq ?_;refine q_jn (ι:=Bool) (λp=>OG a1 p) (λp=>TO a1 p=some r) ?_ ?_
      ·rintro x25 hm;show H _ (OG a1 x25) _ _;refine q_cm hm (λb26 hm=>?_) (λb26 hm=>?_)
       ·refine s_vn [] 1 ⟨[(2,vi 19)],[]⟩ ?_;obtain rfl:=oi hm;refine q_rt ?_;exact q_rm
       ·refine q_sk ?_;refine q_sq ?_;refine s_vn [] 1 ⟨[(54,vc (tl e_Span default a1.Rows)),(55,vi ((a1.Rows.length:Nat):Int)),(56,vi 0)],[]⟩ ?_;obtain⟨u37,h36,hm⟩:=qA hm;refine zA (nd Tryz.f170 4084) 2 (by kernel_rfl) FUEL (λo=>OX) (λv st=>RetQ Tryz.prog Tryz.f170 (KC v) (KL v) .ret st) u37 (q_hl (DB a1 0) (qFj E a1 FUEL 0 u37 h36)) ?_ ?_
        ·rintro v38 rfl st hr;obtain rfl:=oi hm;exact hr
        ·rintro o35 rfl;replace hm:_=some r:=hm;refine s_vn [] 1 ⟨[(2,vi 0)],[]⟩ ?_;obtain rfl:=oi hm;refine q_rt ?_;exact q_rm
      ·obtain⟨g18,hm⟩:=qG hm;obtain⟨v19,h20,hm⟩:=qA hm;rcases bif_c hm with⟨b21,hm⟩|⟨b21,hm⟩
       ·refine q_vu [qd 2 (Dir.none) (inb_of g18),qc 4 [42] 1 (QC (a1.Rows.getD (0:Int).toNat default) v19 h20),qf 5 b21] 1 [3,35] [(52,vb true)] [] [] ?_;exact q_J (true) hm
       ·obtain⟨g22,hm⟩:=qG hm;obtain⟨v23,h24,hm⟩:=qA hm;refine q_vu [qd 2 (Dir.none) (inb_of g18),qc 4 [42] 1 (QC (a1.Rows.getD (0:Int).toNat default) v19 h20),qf 5 b21,qd 10 (Dir.none) (inb_of g22),qk 12 [44,50] 1 ⟨[(44,vb false),(50,va [ci ((a1.Rows.getD (w64 (((a1.Rows.length:Nat):Int)-1)).toNat default).A),ci ((a1.Rows.getD (w64 (((a1.Rows.length:Nat):Int)-1)).toNat default).B)])],[]⟩ (QC (a1.Rows.getD (w64 (((a1.Rows.length:Nat):Int)-1)).toNat default) v23 h24)] 1 [3,35] [(52,vb v23)] [] [] ?_;exact q_J (v23) hm
  ·rcases bif_c hm with⟨b3,hm⟩|⟨b3,hm⟩
   ·refine q_vu [qf 3 b3] 1 [12] [(22,vb true)] [] [] ?_;exact q_J (true) hm
   ·refine q_vu [qf 3 b3] 1 [12] [(22,vb (decide (a1.Low>(w64 (60-((a1.Rows.length:Nat):Int))))))] [] [] ?_;exact q_J (decide (a1.Low>(w64 (60-((a1.Rows.length:Nat):Int))))) hm
def CW (r:Int):V:=vi r
def qAa (r:Int):List (Nat×(Nat×O)):=[]
def qBK (a1:List qB) (x4:Int) (x5:Int) (x13:Bool):St:=
 ⟨[(3,vi x4),(5,vp 0 0),(13,vc (tl qE default a1)),(14,vi ((a1.length:Nat):Int)),(15,vi x5),(39,vb x13)],[(0,bx 72 [ci ((a1.getD x5.toNat default).Len),ci (((a1.getD x5.toNat default).Sec).Low),tl e_Span default (((a1.getD x5.toNat default).Sec).Rows)])]⟩
def MJ (a1:List qB) (x4:Int) (x5:Int):St:=
 ⟨[(3,vi x4),(13,vc (tl qE default a1)),(14,vi ((a1.length:Nat):Int)),(15,vi x5)],[]⟩
def qBs :St:=
 ⟨[],[]⟩
theorem qGQ (E:Env 0) (a1:List qB):∀(n:Nat) (x4:Int) (x5:Int) (res:Int⊕Unit),jN a1 n x4 x5=some res->HL (kx E 45 0) (nd Tryz.f122 500) (zV 0 (λo=>qBs) (λv st=>RetQ Tryz.prog Tryz.f122 (CW v) (qAa v) .ret st) res) n (MJ a1 x4 x5):=by
 intro n
 induction n with
 |zero=>
  intro x4 x5 res hm;cases hm
 |succ n ih=>
  intro x4 x5 res hm;refine qM ?_;refine s_vu [] 0 [] [(16,vb (decide (x5<((a1.length:Nat):Int))))] [] [] ?_;refine q_sq ?_;refine q_cm hm (λb6 hm=>?_) (λb6 hm=>?_)
  ·refine q_sk ?_;refine q_sq ?_;refine q_bk 1 ?_;obtain⟨g7,hm⟩:=qG hm;refine s_vu [qd 0 (Dir.none) (inb_of g7)] 0 [16] [(5,vp 0 0)] [] [(0,bx 72 [ci ((a1.getD x5.toNat default).Len),ci (((a1.getD x5.toNat default).Sec).Low),tl e_Span default (((a1.getD x5.toNat default).Sec).Rows)])] ?_;refine q_sq ?_;obtain⟨v8,h9,hm⟩:=qA hm;refine s_vu [qc 2 [20] 1 (qCa ((a1.getD x5.toNat default).Sec) v8 h9)] 1 [] [(6,vi v8)] [] [] ?_;refine s_vu [] 1 [] [(23,vb (v8 !=0))] [] [] ?_;refine q_cm hm (λb10 hm=>?_) (λb10 hm=>?_)
   ·refine s_vn [] 1 ⟨[(2,vi v8)],[]⟩ ?_;obtain rfl:=oi hm;refine q_rt ?_;refine qT v8 ?_;exact q_rm
   ·refine q_sk ?_;refine q_sq ?_;refine s_vu [] 1 [6,23] [(29,vb ((((((a1.getD x5.toNat default).Sec).Rows).length:Nat):Int)==0))] [] [] ?_;refine q_cm hm (λb11 hm=>?_) (λb11 hm=>?_)
    ·refine s_vn [] 1 ⟨[(2,vi 18)],[]⟩ ?_;obtain rfl:=oi hm;refine q_rt ?_;refine qT 18 ?_;exact q_rm
    ·refine q_sk ?_;refine q_sq ?_;refine q_jn (ι:=Bool) (λp=>qBK a1 x4 x5 p) (λp=>BY a1 x4 x5 (jN a1 n) p=some res) ?_ ?_
     ·rintro x13 hm;show H _ (qBK a1 x4 x5 x13) _ _;refine q_cm hm (λb14 hm=>?_) (λb14 hm=>?_)
      ·refine s_vn [] 1 ⟨[(2,vi 9)],[]⟩ ?_;obtain rfl:=oi hm;refine q_rt ?_;refine qT 9 ?_;exact q_rm
      ·refine q_sk ?_;refine q_vu [] 1 [3,5,39] [(3,vi (w64 (x4+((a1.getD x5.toNat default).Len))))] [0] [] ?_;refine q_vu [] 1 [15] [(15,vi (w64 (x5+1)))] [] [] ?_;exact q_hl (MJ a1 (w64 (x4+((a1.getD x5.toNat default).Len))) (w64 (x5+1))) (ih (w64 (x4+((a1.getD x5.toNat default).Len))) (w64 (x5+1)) _ hm)
     ·rcases bif_c hm with⟨b12,hm⟩|⟨b12,hm⟩
      ·refine q_vu [qf 3 b12] 1 [29] [(39,vb true)] [] [] ?_;exact q_J (true) hm
      ·refine q_vu [qf 3 b12] 1 [29] [(39,vb (decide (((a1.getD x5.toNat default).Len)>(w64 (20000-x4)))))] [] [] ?_;exact q_J (decide (((a1.getD x5.toNat default).Len)>(w64 (20000-x4)))) hm
  ·refine q_ex 0 ?_;obtain rfl:=oi hm;exact wB () (by kernel_rfl) (by kernel_rfl)
theorem ZU (a1:List qB) (r:Int) (hm:WH a1=some r):CtX Tryz.prog globs 122 0 0 [.one (tl qE default a1)] [] (CW r) (qAa r):=by
 unfold WH at hm;refine q_E Tryz.f122 45 λE=>?_;refine s_vn [] 0 ⟨[(0,vc (tl qE default a1))],[]⟩ ?_;refine q_sq ?_;refine s_vu [] 0 [] [(9,vb (((a1.length:Nat):Int)==0))] [] [] ?_;refine q_cm hm (λb2 hm=>?_) (λb2 hm=>?_)
 ·refine s_vn [] 0 ⟨[(2,vi 3)],[]⟩ ?_;obtain rfl:=oi hm;refine q_rt ?_;exact q_rm
 ·refine q_sk ?_;refine q_sq ?_;refine s_vu [] 0 [9] [(12,vb (decide (((a1.length:Nat):Int)>24)))] [] [] ?_;refine q_cm hm (λb3 hm=>?_) (λb3 hm=>?_)
  ·refine s_vn [] 0 ⟨[(2,vi 4)],[]⟩ ?_;obtain rfl:=oi hm;refine q_rt ?_;exact q_rm
  ·refine q_sk ?_;refine s_vu [] 0 [12] [(3,vi 0)] [] [] ?_;refine q_sq ?_;refine s_vu [] 0 [0] [(13,vc (tl qE default a1)),(14,vi ((a1.length:Nat):Int)),(15,vi 0)] [] [] ?_;obtain⟨u17,h16,hm⟩:=qA hm;refine zA (nd Tryz.f122 500) 0 (by kernel_rfl) FUEL (λo=>qBs) (λv st=>RetQ Tryz.prog Tryz.f122 (CW v) (qAa v) .ret st) u17 (q_hl (MJ a1 0 0) (qGQ E a1 FUEL 0 0 u17 h16)) ?_ ?_
   ·rintro v18 rfl st hr;obtain rfl:=oi hm;exact hr
   ·rintro o15 rfl;replace hm:_=some r:=hm;refine s_vn [] 0 ⟨[(2,vi 0)],[]⟩ ?_;obtain rfl:=oi hm;refine q_rt ?_;exact q_rm
def qID (r:Bool):V:=vb r
def qIG (r:Bool):List (Nat×(Nat×O)):=[]
def OB (x5:Bool):St:=
 ⟨[(6,vb x5)],[]⟩
theorem WA (a1:Span) (a2:Int) (a3:Int) (r:Bool) (hm:JQ a1 a2 a3=some r):CtX Tryz.prog globs 205 0 0 [.agg (e_Span a1),.one (ci a2),.one (ci a3)] [] (qID r) (qIG r):=by
 unfold JQ at hm;refine q_E Tryz.f205 23 λE=>?_;refine s_vn [] 0 ⟨[(1,vi a2),(2,vi a3),(3,vp 0 0)],[(0,bx 31 (e_Span a1))]⟩ ?_;refine q_jn (ι:=Bool) (λp=>OB p) (λp=>UG p=some r) ?_ ?_
 ·rintro x5 hm;show H _ (OB x5) _ _;obtain rfl:=oi hm;refine q_rt ?_;exact q_rm
 ·rcases bif_c hm with⟨b4,hm⟩|⟨b4,hm⟩
  ·refine q_vn [qf 7 b4] 1 ⟨[(6,vb (decide ((imax a1.A a1.B)<=a3)))],[]⟩ ?_;exact q_J (decide ((imax a1.A a1.B)<=a3)) hm
  ·refine q_vn [qf 7 b4] 1 ⟨[(6,vb false)],[]⟩ ?_;exact q_J (false) hm
def qHV (r:Bool):V:=vb r
def qIj (r:Bool):List (Nat×(Nat×O)):=[]
theorem zN (a1:Span) (r:Bool) (hm:jM a1=some r):CtX Tryz.prog globs 204 0 0 [.agg (e_Span a1)] [] (qHV r) (qIj r):=by
 unfold jM at hm;refine q_E Tryz.f204 8 λE=>?_;refine s_vn [] 0 ⟨[(1,vp 0 0)],[(0,bx 31 (e_Span a1))]⟩ ?_;refine s_vn [] 1 ⟨[(2,vb (decide (a1.A≥a1.B)))],[]⟩ ?_;obtain rfl:=oi hm;refine q_rt ?_;exact q_rm
def qJ4 (r:Int):V:=vi r
def qKj (r:Int):List (Nat×(Nat×O)):=[]
def qAP (x23:Bool):St:=
 ⟨[(29,vb x23)],[]⟩
def qAz (a1:Defect) (x13:Bool):St:=
 ⟨[(3,vp 1 0),(15,vb x13)],[(1,bx 128 (ZI a1.Box))]⟩
def qAB (a1:Defect) (x3:Bool):St:=
 ⟨[(3,vp 1 0),(6,vb x3)],[(1,bx 128 (ZI a1.Box))]⟩
theorem qIl (a1:Defect) (r:Int) (hm:DW a1=some r):CtX Tryz.prog globs 171 0 0 [.agg (qJ a1)] [] (qJ4 r) (qKj r):=by
 unfold DW at hm;refine q_E Tryz.f171 46 λE=>?_;refine s_vn [] 0 ⟨[(1,vp 0 0)],[(0,bx 212 (qJ a1))]⟩ ?_;refine s_vu [] 1 [] [(3,vp 1 0)] [] [(1,bx 128 (ZI a1.Box))] ?_;refine q_sq ?_;refine q_bk 0 ?_;refine q_jn (ι:=Bool) (λp=>qAB a1 p) (λp=>GE a1 p=some r) ?_ ?_
 ·rintro x3 hm;show H _ (qAB a1 x3) _ _;refine q_cm hm (λb4 hm=>?_) (λb4 hm=>?_)
  ·refine s_vn [] 2 ⟨[(2,vi 10)],[]⟩ ?_;obtain rfl:=oi hm;refine q_rt ?_;exact q_rm
  ·refine q_jn (ι:=Bool) (λp=>qAz a1 p) (λp=>KA a1 p=some r) ?_ ?_
   ·rintro x13 hm;show H _ (qAz a1 x13) _ _;refine q_cm hm (λb14 hm=>?_) (λb14 hm=>?_)
    ·refine s_vn [] 2 ⟨[(2,vi 19)],[]⟩ ?_;obtain rfl:=oi hm;refine q_rt ?_;exact q_rm
    ·refine q_jn (ι:=Bool) (λp=>qAP p) (λp=>XX p=some r) ?_ ?_
     ·rintro x23 hm;show H _ (qAP x23) _ _;refine q_cm hm (λb24 hm=>?_) (λb24 hm=>?_)
      ·refine s_vn [] 2 ⟨[(2,vi 9)],[]⟩ ?_;obtain rfl:=oi hm;refine q_rt ?_;exact q_rm
      ·refine q_sk ?_;refine s_vn [] 2 ⟨[(2,vi 0)],[]⟩ ?_;obtain rfl:=oi hm;refine q_rt ?_;exact q_rm
     ·obtain⟨v15,h16,hm⟩:=qA hm;rcases bif_c hm with⟨b17,hm⟩|⟨b17,hm⟩
      ·refine q_vn [qk 2 [31] 2 ⟨[(31,va (e_Span a1.Box.X))],[]⟩ (WA a1.Box.X (-600) 600 v15 h16),qf 4 b17] 2 ⟨[(29,vb true)],[]⟩ ?_;exact q_J (true) hm
      ·obtain⟨v18,h19,hm⟩:=qA hm;rcases bif_c hm with⟨b20,hm⟩|⟨b20,hm⟩
       ·refine q_vn [qk 2 [31] 2 ⟨[(31,va (e_Span a1.Box.X))],[]⟩ (WA a1.Box.X (-600) 600 v15 h16),qf 4 b17,qk 7 [34,36] 2 ⟨[(34,vb false),(36,va (e_Span a1.Box.Y))],[]⟩ (WA a1.Box.Y (-600) 600 v18 h19),qf 10 b20] 2 ⟨[(29,vb true)],[]⟩ ?_;exact q_J (true) hm
       ·obtain⟨v21,h22,hm⟩:=qA hm;refine q_vn [qk 2 [31] 2 ⟨[(31,va (e_Span a1.Box.X))],[]⟩ (WA a1.Box.X (-600) 600 v15 h16),qf 4 b17,qk 7 [34,36] 2 ⟨[(34,vb false),(36,va (e_Span a1.Box.Y))],[]⟩ (WA a1.Box.Y (-600) 600 v18 h19),qf 10 b20,qk 13 [40,42] 2 ⟨[(40,vb false),(42,va (e_Span a1.Box.Z))],[]⟩ (WA a1.Box.Z 0 20000 v21 h22)] 2 ⟨[(29,vb (!v21))],[]⟩ ?_;exact q_J (!v21) hm
   ·obtain⟨v5,h6,hm⟩:=qA hm;rcases bif_c hm with⟨b7,hm⟩|⟨b7,hm⟩
    ·refine q_vu [qc 2 [17] 2 (zN a1.Box.X v5 h6),qf 3 b7] 2 [6] [(15,vb true)] [] [] ?_;exact q_J (true) hm
    ·obtain⟨v8,h9,hm⟩:=qA hm;rcases bif_c hm with⟨b10,hm⟩|⟨b10,hm⟩
     ·refine q_vu [qc 2 [17] 2 (zN a1.Box.X v5 h6),qf 3 b7,qk 6 [19,21] 2 ⟨[(19,vb false),(21,va (e_Span a1.Box.Y))],[]⟩ (zN a1.Box.Y v8 h9),qf 8 b10] 2 [6] [(15,vb true)] [] [] ?_;exact q_J (true) hm
     ·obtain⟨v11,h12,hm⟩:=qA hm;refine q_vu [qc 2 [17] 2 (zN a1.Box.X v5 h6),qf 3 b7,qk 6 [19,21] 2 ⟨[(19,vb false),(21,va (e_Span a1.Box.Y))],[]⟩ (zN a1.Box.Y v8 h9),qf 8 b10,qk 11 [24,26] 2 ⟨[(24,vb false),(26,va (e_Span a1.Box.Z))],[]⟩ (zN a1.Box.Z v11 h12)] 2 [6] [(15,vb v11)] [] [] ?_;exact q_J (v11) hm
 ·rcases bif_c hm with⟨b2,hm⟩|⟨b2,hm⟩
  ·refine q_vu [qf 3 b2] 2 [1] [(6,vb true)] [0] [] ?_;exact q_J (true) hm
  ·refine q_vu [qf 3 b2] 2 [1] [(6,vb (decide (a1.Kind>6)))] [0] [] ?_;exact q_J (decide (a1.Kind>6)) hm
def AX (r:Int):V:=vi r
def AA (r:Int):List (Nat×(Nat×O)):=[]
def FG (a1:List Defect) (x3:Int):St:=
 ⟨[(9,vc (tl qJ default a1)),(10,vi ((a1.length:Nat):Int)),(11,vi x3)],[]⟩
def qAm :St:=
 ⟨[],[]⟩
theorem qFZ (E:Env 0) (a1:List Defect):∀(n:Nat) (x3:Int) (res:Int⊕Unit),QU a1 n x3=some res->HL (kx E 21 0) (nd Tryz.f123 116) (zV 0 (λo=>qAm) (λv st=>RetQ Tryz.prog Tryz.f123 (AX v) (AA v) .ret st) res) n (FG a1 x3):=by
 intro n
 induction n with
 |zero=>
  intro x3 res hm;cases hm
 |succ n ih=>
  intro x3 res hm;refine qM ?_;refine s_vu [] 0 [] [(12,vb (decide (x3<((a1.length:Nat):Int))))] [] [] ?_;refine q_sq ?_;refine q_cm hm (λb4 hm=>?_) (λb4 hm=>?_)
  ·refine q_sk ?_;refine q_sq ?_;refine q_bk 1 ?_;obtain⟨g5,hm⟩:=qG hm;refine s_vu [qd 0 (Dir.none) (inb_of g5)] 0 [12] [(4,vp 0 0)] [] [(0,bx 212 [ci ((a1.getD x3.toNat default).Kind),ci ((((a1.getD x3.toNat default).Box).X).A),ci ((((a1.getD x3.toNat default).Box).X).B),ci ((((a1.getD x3.toNat default).Box).Y).A),ci ((((a1.getD x3.toNat default).Box).Y).B),ci ((((a1.getD x3.toNat default).Box).Z).A),ci ((((a1.getD x3.toNat default).Box).Z).B)])] ?_;obtain⟨v6,h7,hm⟩:=qA hm;refine s_vu [qc 1 [15] 1 (qIl (a1.getD x3.toNat default) v6 h7)] 1 [4] [(5,vi v6)] [0] [] ?_
   refine s_vu [] 1 [] [(18,vb (v6 !=0))] [] [] ?_;refine q_cm hm (λb8 hm=>?_) (λb8 hm=>?_)
   ·refine s_vn [] 1 ⟨[(2,vi v6)],[]⟩ ?_;obtain rfl:=oi hm;refine q_rt ?_;refine qT v6 ?_;exact q_rm
   ·refine q_sk ?_;refine q_vu [] 1 [5,11,18] [(11,vi (w64 (x3+1)))] [] [] ?_;exact q_hl (FG a1 (w64 (x3+1))) (ih (w64 (x3+1)) _ hm)
  ·refine q_ex 0 ?_;obtain rfl:=oi hm;exact wB () (by kernel_rfl) (by kernel_rfl)
theorem KV (a1:List Defect) (r:Int) (hm:WJ a1=some r):CtX Tryz.prog globs 123 0 0 [.one (tl qJ default a1)] [] (AX r) (AA r):=by
 unfold WJ at hm;refine q_E Tryz.f123 21 λE=>?_;refine s_vn [] 0 ⟨[(0,vc (tl qJ default a1))],[]⟩ ?_;refine q_sq ?_;refine s_vu [] 0 [] [(8,vb (decide (((a1.length:Nat):Int)>64)))] [] [] ?_;refine q_cm hm (λb2 hm=>?_) (λb2 hm=>?_)
 ·refine s_vn [] 0 ⟨[(2,vi 4)],[]⟩ ?_;obtain rfl:=oi hm;refine q_rt ?_;exact q_rm
 ·refine q_sk ?_;refine q_sq ?_;refine s_vn [] 0 ⟨[(9,vc (tl qJ default a1)),(10,vi ((a1.length:Nat):Int)),(11,vi 0)],[]⟩ ?_;obtain⟨u11,h10,hm⟩:=qA hm;refine zA (nd Tryz.f123 116) 0 (by kernel_rfl) FUEL (λo=>qAm) (λv st=>RetQ Tryz.prog Tryz.f123 (AX v) (AA v) .ret st) u11 (q_hl (FG a1 0) (qFZ E a1 FUEL 0 u11 h10)) ?_ ?_
  ·rintro v12 rfl st hr;obtain rfl:=oi hm;exact hr
  ·rintro o9 rfl;replace hm:_=some r:=hm;refine s_vn [] 0 ⟨[(2,vi 0)],[]⟩ ?_;obtain rfl:=oi hm;refine q_rt ?_;exact q_rm
def qJt (r:Bool):V:=vb r
def qIJ (r:Bool):List (Nat×(Nat×O)):=[]
def OF (x3:Bool):St:=
 ⟨[(2,vb x3)],[]⟩
theorem TK (a1:Int) (r:Bool) (hm:XR a1=some r):CtX Tryz.prog globs 129 0 0 [.one (.val (.int .u8 a1))] [] (qJt r) (qIJ r):=by
 unfold XR at hm;refine q_E Tryz.f129 9 λE=>?_;refine s_vn [] 0 ⟨[(0,vc (.val (.int .u8 a1)))],[]⟩ ?_;refine q_jn (ι:=Bool) (λp=>OF p) (λp=>UF p=some r) ?_ ?_
 ·rintro x3 hm;show H _ (OF x3) _ _;obtain rfl:=oi hm;refine q_rt ?_;exact q_rm
 ·rcases bif_c hm with⟨b2,hm⟩|⟨b2,hm⟩
  ·refine q_vn [qf 2 b2] 0 ⟨[(2,vb (decide (a1<=122)))],[]⟩ ?_;exact q_J (decide (a1<=122)) hm
  ·refine q_vn [qf 2 b2] 0 ⟨[(2,vb false)],[]⟩ ?_;exact q_J (false) hm
def qJK (r:Bool):V:=vb r
def qJf (r:Bool):List (Nat×(Nat×O)):=[]
def CM (x3:Bool):St:=
 ⟨[(2,vb x3)],[]⟩
theorem qBF (a1:Int) (r:Bool) (hm:UK a1=some r):CtX Tryz.prog globs 130 0 0 [.one (.val (.int .u8 a1))] [] (qJK r) (qJf r):=by
 unfold UK at hm;refine q_E Tryz.f130 9 λE=>?_;refine s_vn [] 0 ⟨[(0,vc (.val (.int .u8 a1)))],[]⟩ ?_;refine q_jn (ι:=Bool) (λp=>CM p) (λp=>TA p=some r) ?_ ?_
 ·rintro x3 hm;show H _ (CM x3) _ _;obtain rfl:=oi hm;refine q_rt ?_;exact q_rm
 ·rcases bif_c hm with⟨b2,hm⟩|⟨b2,hm⟩
  ·refine q_vn [qf 2 b2] 0 ⟨[(2,vb (decide (a1<=57)))],[]⟩ ?_;exact q_J (decide (a1<=57)) hm
  ·refine q_vn [qf 2 b2] 0 ⟨[(2,vb false)],[]⟩ ?_;exact q_J (false) hm
def IE (r:Bool):V:=vb r
def AS (r:Bool):List (Nat×(Nat×O)):=[]
def qAq (a1:ByteArray) (x9:Int) (x18:Bool):St:=
 ⟨[(0,vc (cs a1)),(3,vi x9),(39,vb x18)],[]⟩
def FH (a1:ByteArray) (x9:Int):St:=
 ⟨[(0,vc (cs a1)),(3,vi x9)],[]⟩
def qAO :St:=
 ⟨[],[]⟩
def qAH (a1:ByteArray) (x7:Bool):St:=
 ⟨[(0,vc (cs a1)),(18,vb x7)],[]⟩
theorem qFq (E:Env 0) (a1:ByteArray):∀(n:Nat) (x9:Int) (res:Bool⊕Unit),wP a1 n x9=some res->HL (kx E 40 0) (nd Tryz.f72 116) (zV 0 (λo=>qAO) (λv st=>RetQ Tryz.prog Tryz.f72 (IE v) (AS v) .ret st) res) n (FH a1 x9):=by
 intro n
 induction n with
 |zero=>
  intro x9 res hm;cases hm
 |succ n ih=>
  intro x9 res hm;refine qM ?_;refine q_sq ?_;refine s_vu [] 0 [] [(22,vb (decide (x9<((a1.size:Nat):Int))))] [] [] ?_;refine q_cm hm (λb10 hm=>?_) (λb10 hm=>?_)
  ·refine q_sk ?_;refine q_sq ?_;refine q_bk 1 ?_;obtain⟨g11,hm⟩:=qG hm;refine s_vu [qd 2 (Dir.none) (inb_of g11)] 0 [22] [(4,vc (.val (.int .u8 (strAt a1 x9.toNat))))] [] [] ?_;refine q_jn (ι:=Bool) (λp=>qAq a1 x9 p) (λp=>KS x9 (wP a1 n) p=some res) ?_ ?_
   ·rintro x18 hm;show H _ (qAq a1 x9 x18) _ _;refine q_cm hm (λb19 hm=>?_) (λb19 hm=>?_)
    ·refine s_vn [] 0 ⟨[(2,vb false)],[]⟩ ?_;obtain rfl:=oi hm;refine q_rt ?_;refine qT false ?_;exact q_rm
    ·refine q_sk ?_;refine q_vu [] 0 [3,39] [(3,vi (w64 (x9+1)))] [] [] ?_;exact q_hl (FH a1 (w64 (x9+1))) (ih (w64 (x9+1)) _ hm)
   ·obtain⟨v12,h13,hm⟩:=qA hm;rcases bif_c hm with⟨b14,hm⟩|⟨b14,hm⟩
    ·obtain⟨v15,h16,hm⟩:=qA hm;rcases bif_c hm with⟨b17,hm⟩|⟨b17,hm⟩
     ·refine q_vu [qc 1 [28] 0 (TK (strAt a1 x9.toNat) v12 h13),qf 3 b14,qk 5 [31,32] 0 ⟨[(31,vb true),(32,vc (.val (.int .u8 (strAt a1 x9.toNat))))],[]⟩ (qBF (strAt a1 x9.toNat) v15 h16),qf 8 b17] 0 [4] [(39,vb ((strAt a1 x9.toNat) !=95))] [] [] ?_;exact q_J ((strAt a1 x9.toNat) !=95) hm
     ·refine q_vu [qc 1 [28] 0 (TK (strAt a1 x9.toNat) v12 h13),qf 3 b14,qk 5 [31,32] 0 ⟨[(31,vb true),(32,vc (.val (.int .u8 (strAt a1 x9.toNat))))],[]⟩ (qBF (strAt a1 x9.toNat) v15 h16),qf 8 b17] 0 [4] [(39,vb false)] [] [] ?_;exact q_J (false) hm
    ·refine q_vu [qc 1 [28] 0 (TK (strAt a1 x9.toNat) v12 h13),qf 3 b14] 0 [4] [(39,vb false)] [] [] ?_;exact q_J (false) hm
  ·refine q_ex 0 ?_;obtain rfl:=oi hm;exact wB () (by kernel_rfl) (by kernel_rfl)
theorem qJd (a1:ByteArray) (r:Bool) (hm:DZ a1=some r):CtX Tryz.prog globs 72 0 0 [.one (cs a1)] [] (IE r) (AS r):=by
 unfold DZ at hm;refine q_E Tryz.f72 40 λE=>?_;refine s_vn [] 0 ⟨[(0,vc (cs a1))],[]⟩ ?_;refine q_sq ?_;refine q_jn (ι:=Bool) (λp=>qAH a1 p) (λp=>KE a1 p=some r) ?_ ?_
 ·rintro x7 hm;show H _ (qAH a1 x7) _ _;refine q_cm hm (λb8 hm=>?_) (λb8 hm=>?_)
  ·refine s_vn [] 0 ⟨[(2,vb false)],[]⟩ ?_;obtain rfl:=oi hm;refine q_rt ?_;exact q_rm
  ·refine q_sk ?_;refine q_sq ?_;refine s_vu [] 0 [18] [(3,vi 1)] [] [] ?_;obtain⟨u22,h21,hm⟩:=qA hm;refine zA (nd Tryz.f72 116) 0 (by kernel_rfl) FUEL (λo=>qAO) (λv st=>RetQ Tryz.prog Tryz.f72 (IE v) (AS v) .ret st) u22 (q_hl (FH a1 1) (qFq E a1 FUEL 1 u22 h21)) ?_ ?_
   ·rintro v23 rfl st hr;obtain rfl:=oi hm;exact hr
   ·rintro o20 rfl;replace hm:_=some r:=hm;refine s_vn [] 0 ⟨[(2,vb true)],[]⟩ ?_;obtain rfl:=oi hm;refine q_rt ?_;exact q_rm
 ·rcases bif_c hm with⟨b2,hm⟩|⟨b2,hm⟩
  ·refine q_vu [qf 3 b2] 0 [] [(18,vb true)] [] [] ?_;exact q_J (true) hm
  ·rcases bif_c hm with⟨b3,hm⟩|⟨b3,hm⟩
   ·refine q_vu [qf 3 b2,qf 8 b3] 0 [] [(18,vb true)] [] [] ?_;exact q_J (true) hm
   ·obtain⟨g4,hm⟩:=qG hm;obtain⟨v5,h6,hm⟩:=qA hm;refine q_vu [qf 3 b2,qf 8 b3,qd 10 (Dir.none) (inb_of g4),qk 11 [13,15] 0 ⟨[(13,vb false),(15,vc (.val (.int .u8 (strAt a1 ((0:Int).toNat)))))],[]⟩ (TK (strAt a1 ((0:Int).toNat)) v5 h6)] 0 [] [(18,vb (!v5))] [] [] ?_;exact q_J (!v5) hm
def EW (r:Int×Bool):V:= .tup [.one (ci r.1),.one (cb r.2)]
def AH (r:Int×Bool):List (Nat×(Nat×O)):=[]
def FU (a1:List Product) (a2:ByteArray) (x3:Int):St:=
 ⟨[(1,vc (cs a2)),(8,vc (tl qC default a1)),(9,vi ((a1.length:Nat):Int)),(10,vi x3)],[]⟩
def qAg :St:=
 ⟨[],[]⟩
theorem qFY (E:Env 0) (a1:List Product) (a2:ByteArray):∀(n:Nat) (x3:Int) (res:(Int×Bool)⊕Unit),QJ a1 a2 n x3=some res->HL (kx E 21 0) (nd Tryz.f73 52) (zV 0 (λo=>qAg) (λv st=>RetQ Tryz.prog Tryz.f73 (EW v) (AH v) .ret st) res) n (FU a1 a2 x3):=by
 intro n
 induction n with
 |zero=>
  intro x3 res hm;cases hm
 |succ n ih=>
  intro x3 res hm;refine qM ?_;refine s_vu [] 0 [] [(11,vb (decide (x3<((a1.length:Nat):Int))))] [] [] ?_;refine q_sq ?_;refine q_cm hm (λb4 hm=>?_) (λb4 hm=>?_)
  ·refine q_sk ?_;refine q_sq ?_;refine q_bk 1 ?_;obtain⟨g5,hm⟩:=qG hm;refine s_vu [qd 1 (Dir.none) (inb_of g5)] 0 [11] [(6,vi x3),(7,vp 0 0)] [] [(0,bx 54 [cs ((a1.getD x3.toNat default).Name),ci ((a1.getD x3.toNat default).Thick),ci ((a1.getD x3.toNat default).Width),ci ((a1.getD x3.toNat default).Allow),ci ((a1.getD x3.toNat default).Wane),tl e_i64 default ((a1.getD x3.toNat default).Lengths),tl e_i64 default ((a1.getD x3.toNat default).Prices)])] ?_;refine s_vu [] 1 [7] [(18,vb (strEq ((a1.getD x3.toNat default).Name) a2))] [0] [] ?_;refine q_cm hm (λb6 hm=>?_) (λb6 hm=>?_)
   ·refine s_vn [] 1 ⟨[(4,vi x3),(5,vb true)],[]⟩ ?_;obtain rfl:=oi hm;refine q_rt ?_;refine qT (x3,true) ?_;exact q_rm
   ·refine q_sk ?_;refine q_vu [] 1 [6,10,18] [(10,vi (w64 (x3+1)))] [] [] ?_;exact q_hl (FU a1 a2 (w64 (x3+1))) (ih (w64 (x3+1)) _ hm)
  ·refine q_ex 0 ?_;obtain rfl:=oi hm;exact wB () (by kernel_rfl) (by kernel_rfl)
theorem qI1 (a1:List Product) (a2:ByteArray) (r:Int×Bool) (hm:BK a1 a2=some r):CtX Tryz.prog globs 73 0 0 [.one (tl qC default a1),.one (cs a2)] [] (EW r) (AH r):=by
 unfold BK at hm;refine q_E Tryz.f73 21 λE=>?_;refine s_vn [] 0 ⟨[(0,vc (tl qC default a1)),(1,vc (cs a2))],[]⟩ ?_;refine q_sq ?_;refine s_vu [] 0 [0] [(8,vc (tl qC default a1)),(9,vi ((a1.length:Nat):Int)),(10,vi 0)] [] [] ?_;obtain⟨u9,h8,hm⟩:=qA hm;refine zA (nd Tryz.f73 52) 0 (by kernel_rfl) FUEL (λo=>qAg) (λv st=>RetQ Tryz.prog Tryz.f73 (EW v) (AH v) .ret st) u9 (q_hl (FU a1 a2 0) (qFY E a1 a2 FUEL 0 u9 h8)) ?_ ?_
 ·rintro v10 rfl st hr;obtain rfl:=oi hm;exact hr
 ·rintro o7 rfl;replace hm:_=some r:=hm;refine s_vn [] 0 ⟨[(4,vi 0),(5,vb false)],[]⟩ ?_;obtain rfl:=oi hm;refine q_rt ?_;exact q_rm
def qKf (r:Int):V:=vi r
def qKB (r:Int):List (Nat×(Nat×O)):=[]
theorem qCR (a1:Int) (a2:Int) (r:Int) (hm:BD a1 a2=some r):CtX Tryz.prog globs 76 0 0 [.one (ci a1),.one (ci a2)] [] (qKf r) (qKB r):=by
 unfold BD at hm;refine q_E Tryz.f76 11 λE=>?_;refine s_vn [] 0 ⟨[(0,vi a1),(1,vi a2)],[]⟩ ?_;refine s_vn [qd 5 (Dir.none) (show(1000:Int)≠0 by decide)] 0 ⟨[(4,vi (w64 (Int.tdiv (w64 ((w64 (a1*(w64 (1000+a2))))+999)) 1000)))],[]⟩ ?_;obtain rfl:=oi hm;refine q_rt ?_;exact q_rm
def qIf (r:Bool):V:=vb r
def qH1 (r:Bool):List (Nat×(Nat×O)):=[]
def ER (x3:Bool):St:=
 ⟨[(2,vb x3)],[]⟩
theorem jW (a1:Int) (r:Bool) (hm:YL a1=some r):CtX Tryz.prog globs 75 0 0 [.one (ci a1)] [] (qIf r) (qH1 r):=by
 unfold YL at hm;refine q_E Tryz.f75 9 λE=>?_;refine s_vn [] 0 ⟨[(0,vi a1)],[]⟩ ?_;refine q_jn (ι:=Bool) (λp=>ER p) (λp=>PO p=some r) ?_ ?_
 ·rintro x3 hm;show H _ (ER x3) _ _;obtain rfl:=oi hm;refine q_rt ?_;exact q_rm
 ·rcases bif_c hm with⟨b2,hm⟩|⟨b2,hm⟩
  ·refine q_vn [qf 2 b2] 0 ⟨[(2,vb (decide (a1<=600)))],[]⟩ ?_;exact q_J (decide (a1<=600)) hm
  ·refine q_vn [qf 2 b2] 0 ⟨[(2,vb false)],[]⟩ ?_;exact q_J (false) hm
def qIq (r:Int×Int):V:= .tup [.one (ci r.1),.one (ci r.2)]
def qJe (r:Int×Int):List (Nat×(Nat×O)):=[]
def IY (a1:Product) (x9:Bool):St:=
 ⟨[(1,vp 0 0),(23,vb x9)],[(0,bx 54 (qC a1))]⟩
theorem TN (a1:Product) (r:Int×Int) (hm:yO a1=some r):CtX Tryz.prog globs 31 0 0 [.agg (qC a1)] [] (qIq r) (qJe r):=by
 unfold yO at hm;refine q_E Tryz.f31 34 λE=>?_;refine s_vn [] 0 ⟨[(1,vp 0 0)],[(0,bx 54 (qC a1))]⟩ ?_;refine q_sq ?_;refine q_jn (ι:=Bool) (λp=>IY a1 p) (λp=>ZY a1 p=some r) ?_ ?_
 ·rintro x9 hm;show H _ (IY a1 x9) _ _;refine q_cm hm (λb10 hm=>?_) (λb10 hm=>?_)
  ·refine s_vn [] 1 ⟨[(2,vi 0),(3,vi 0)],[]⟩ ?_;obtain rfl:=oi hm;refine q_rt ?_;exact q_rm
  ·refine q_sk ?_;obtain⟨v11,h12,hm⟩:=qA hm;obtain⟨v13,h14,hm⟩:=qA hm;refine s_dn [qc 4 [25,27] 1 (qCR a1.Thick a1.Allow v11 h12),qc 9 [30,32] 1 (qCR a1.Width a1.Allow v13 h14)] [0,1,0,4,15,0,32,0,128,511,1023,2047] 1 ⟨[(2,vi v11),(3,vi v13)],[]⟩ ?_;obtain rfl:=oi hm;refine q_rt ?_;exact q_rm
 ·obtain⟨v2,h3,hm⟩:=qA hm;rcases bif_c hm with⟨b4,hm⟩|⟨b4,hm⟩
  ·refine q_vu [qc 2 [5] 1 (jW a1.Thick v2 h3),qf 4 b4] 1 [] [(23,vb true)] [] [] ?_;exact q_J (true) hm
  ·obtain⟨v5,h6,hm⟩:=qA hm;rcases bif_c hm with⟨b7,hm⟩|⟨b7,hm⟩
   ·refine q_vu [qc 2 [5] 1 (jW a1.Thick v2 h3),qf 4 b4,qk 7 [8,10] 1 ⟨[(8,vb false),(10,vi a1.Width)],[]⟩ (jW a1.Width v5 h6),qf 10 b7] 1 [] [(23,vb true)] [] [] ?_;exact q_J (true) hm
   ·rcases bif_c hm with⟨b8,hm⟩|⟨b8,hm⟩
    ·refine q_vu [qc 2 [5] 1 (jW a1.Thick v2 h3),qf 4 b4,qk 7 [8,10] 1 ⟨[(8,vb false),(10,vi a1.Width)],[]⟩ (jW a1.Width v5 h6),qf 10 b7,qf 15 b8] 1 [] [(23,vb true)] [] [] ?_;exact q_J (true) hm
    ·refine q_vu [qc 2 [5] 1 (jW a1.Thick v2 h3),qf 4 b4,qk 7 [8,10] 1 ⟨[(8,vb false),(10,vi a1.Width)],[]⟩ (jW a1.Width v5 h6),qf 10 b7,qf 15 b8] 1 [] [(23,vb (decide (a1.Allow>200)))] [] [] ?_;exact q_J (decide (a1.Allow>200)) hm
def yJ (r:Int):V:=vi r
def yH (r:Int):List (Nat×(Nat×O)):=[]
def GW (a1:Product) (x18:Int) (x26:Bool):St:=
 ⟨[(1,vp 0 0),(70,vc (tl e_i64 default a1.Lengths)),(71,vi ((a1.Lengths.length:Nat):Int)),(72,vi x18),(94,vb x26)],[(0,bx 54 (qC a1))]⟩
def GS (a1:Product) (x18:Int) (x22:Bool):St:=
 ⟨[(1,vp 0 0),(5,vi x18),(6,vi (a1.Lengths.getD x18.toNat default)),(70,vc (tl e_i64 default a1.Lengths)),(71,vi ((a1.Lengths.length:Nat):Int)),(72,vi x18),(82,vb x22)],[(0,bx 54 (qC a1))]⟩
def YB (a1:Product) (x18:Int):St:=
 ⟨[(1,vp 0 0),(70,vc (tl e_i64 default a1.Lengths)),(71,vi ((a1.Lengths.length:Nat):Int)),(72,vi x18)],[(0,bx 54 (qC a1))]⟩
def VZ (a1:Product):St:=
 ⟨[(1,vp 0 0)],[(0,bx 54 (qC a1))]⟩
def GI (a1:Product) (x32:Int) (x36:Bool):St:=
 ⟨[(97,vc (tl e_i64 default a1.Prices)),(98,vi ((a1.Prices.length:Nat):Int)),(99,vi x32),(108,vb x36)],[]⟩
def JW (a1:Product) (x32:Int):St:=
 ⟨[(97,vc (tl e_i64 default a1.Prices)),(98,vi ((a1.Prices.length:Nat):Int)),(99,vi x32)],[]⟩
def GT :St:=
 ⟨[],[]⟩
def GC (a1:Product) (x10:Bool):St:=
 ⟨[(1,vp 0 0),(46,vb x10)],[(0,bx 54 (qC a1))]⟩
def GG (a1:Product) (x5:Bool):St:=
 ⟨[(1,vp 0 0),(28,vb x5)],[(0,bx 54 (qC a1))]⟩
theorem CQ (E:Env 0) (a1:Product):∀(n:Nat) (x18:Int) (res:Int⊕Unit),zE a1 n x18=some res->HL (kx E 110 0) (nd Tryz.f74 4084) (zV 0 (λo=>VZ a1) (λv st=>RetQ Tryz.prog Tryz.f74 (yJ v) (yH v) .ret st) res) n (YB a1 x18):=by
 intro n
 induction n with
 |zero=>
  intro x18 res hm;cases hm
 |succ n ih=>
  intro x18 res hm;refine qM ?_;refine s_vu [] 1 [] [(73,vb (decide (x18<((a1.Lengths.length:Nat):Int))))] [] [] ?_;refine q_sq ?_;refine q_cm hm (λb19 hm=>?_) (λb19 hm=>?_)
  ·refine q_sk ?_;refine q_sq ?_;refine q_bk 1 ?_;obtain⟨g20,hm⟩:=qG hm;refine s_vu [qd 1 (Dir.none) (inb_of g20)] 1 [73] [(5,vi x18),(6,vi (a1.Lengths.getD x18.toNat default))] [] [] ?_;refine q_sq ?_;refine q_jn (ι:=Bool) (λp=>GS a1 x18 p) (λp=>ZG a1 x18 (zE a1 n) p=some res) ?_ ?_
   ·rintro x22 hm;show H _ (GS a1 x18 x22) _ _;refine q_cm hm (λb23 hm=>?_) (λb23 hm=>?_)
    ·refine s_vn [] 1 ⟨[(2,vi 9)],[]⟩ ?_;obtain rfl:=oi hm;refine q_rt ?_;refine qT 9 ?_;exact q_rm
    ·refine q_sk ?_;refine q_jn (ι:=Bool) (λp=>GW a1 x18 p) (λp=>ZK x18 (zE a1 n) p=some res) ?_ ?_
     ·rintro x26 hm;show H _ (GW a1 x18 x26) _ _;refine q_cm hm (λb27 hm=>?_) (λb27 hm=>?_)
      ·refine s_vn [] 1 ⟨[(2,vi 11)],[]⟩ ?_;obtain rfl:=oi hm;refine q_rt ?_;refine qT 11 ?_;exact q_rm
      ·refine q_sk ?_;refine q_vu [] 1 [72,94] [(72,vi (w64 (x18+1)))] [] [] ?_;exact q_hl (YB a1 (w64 (x18+1))) (ih (w64 (x18+1)) _ hm)
     ·rcases bif_c hm with⟨b24,hm⟩|⟨b24,hm⟩
      ·obtain⟨g25,hm⟩:=qG hm;refine q_vu [qf 2 b24,qd 8 (Dir.none) (inb_of g25)] 1 [5,6,82] [(94,vb (decide ((a1.Lengths.getD x18.toNat default)<=(a1.Lengths.getD (w64 (x18-1)).toNat default))))] [] [] ?_;exact q_J (decide ((a1.Lengths.getD x18.toNat default)<=(a1.Lengths.getD (w64 (x18-1)).toNat default))) hm
      ·refine q_vu [qf 2 b24] 1 [5,6,82] [(94,vb false)] [] [] ?_;exact q_J (false) hm
   ·rcases bif_c hm with⟨b21,hm⟩|⟨b21,hm⟩
    ·refine q_vu [qf 2 b21] 1 [] [(82,vb true)] [] [] ?_;exact q_J (true) hm
    ·refine q_vu [qf 2 b21] 1 [] [(82,vb (decide ((a1.Lengths.getD x18.toNat default)>20000)))] [] [] ?_;exact q_J (decide ((a1.Lengths.getD x18.toNat default)>20000)) hm
  ·refine q_ex 0 ?_;obtain rfl:=oi hm;exact wB () (by kernel_rfl) (by kernel_rfl)
theorem qAb (E:Env 0) (a1:Product):∀(n:Nat) (x32:Int) (res:Int⊕Unit),zK a1 n x32=some res->HL (kx E 110 0) (nd Tryz.f74 8180) (zV 2 (λo=>GT) (λv st=>RetQ Tryz.prog Tryz.f74 (yJ v) (yH v) .ret st) res) n (JW a1 x32):=by
 intro n
 induction n with
 |zero=>
  intro x32 res hm;cases hm
 |succ n ih=>
  intro x32 res hm;refine qM ?_;refine s_vu [] 1 [] [(100,vb (decide (x32<((a1.Prices.length:Nat):Int))))] [] [] ?_;refine q_sq ?_;refine q_cm hm (λb33 hm=>?_) (λb33 hm=>?_)
  ·refine q_sk ?_;refine q_sq ?_;refine q_bk 3 ?_;obtain⟨g34,hm⟩:=qG hm;refine s_vu [qd 0 (Dir.none) (inb_of g34)] 1 [100] [(8,vi (a1.Prices.getD x32.toNat default))] [] [] ?_;refine q_jn (ι:=Bool) (λp=>GI a1 x32 p) (λp=>ZL x32 (zK a1 n) p=some res) ?_ ?_
   ·rintro x36 hm;show H _ (GI a1 x32 x36) _ _;refine q_cm hm (λb37 hm=>?_) (λb37 hm=>?_)
    ·refine s_vn [] 1 ⟨[(2,vi 9)],[]⟩ ?_;obtain rfl:=oi hm;refine q_rt ?_;refine qT 9 ?_;exact q_rm
    ·refine q_sk ?_;refine q_vu [] 1 [99,108] [(99,vi (w64 (x32+1)))] [] [] ?_;exact q_hl (JW a1 (w64 (x32+1))) (ih (w64 (x32+1)) _ hm)
   ·rcases bif_c hm with⟨b35,hm⟩|⟨b35,hm⟩
    ·refine q_vu [qf 2 b35] 1 [8] [(108,vb true)] [] [] ?_;exact q_J (true) hm
    ·refine q_vu [qf 2 b35] 1 [8] [(108,vb (decide ((a1.Prices.getD x32.toNat default)>1000000)))] [] [] ?_;exact q_J (decide ((a1.Prices.getD x32.toNat default)>1000000)) hm
  ·refine q_ex 2 ?_;obtain rfl:=oi hm;exact wB () (by kernel_rfl) (by kernel_rfl)
theorem qCd (a1:Product) (r:Int) (hm:QM a1=some r):CtX Tryz.prog globs 74 0 0 [.agg (qC a1)] [] (yJ r) (yH r):=by
 unfold QM at hm;refine q_E Tryz.f74 110 λE=>?_;refine s_vn [] 0 ⟨[(1,vp 0 0)],[(0,bx 54 (qC a1))]⟩ ?_;refine q_sq ?_;refine q_jn (ι:=Bool) (λp=>GG a1 p) (λp=>wS a1 p=some r) ?_ ?_
 ·rintro x5 hm;show H _ (GG a1 x5) _ _;refine q_cm hm (λb6 hm=>?_) (λb6 hm=>?_)
  ·refine s_vn [] 1 ⟨[(2,vi 9)],[]⟩ ?_;obtain rfl:=oi hm;refine q_rt ?_;exact q_rm
  ·refine q_sk ?_;refine q_sq ?_;refine q_jn (ι:=Bool) (λp=>GC a1 p) (λp=>wR a1 p=some r) ?_ ?_
   ·rintro x10 hm;show H _ (GC a1 x10) _ _;refine q_cm hm (λb11 hm=>?_) (λb11 hm=>?_)
    ·refine s_vn [] 1 ⟨[(2,vi 9)],[]⟩ ?_;obtain rfl:=oi hm;refine q_rt ?_;exact q_rm
    ·refine q_sk ?_;refine q_sq ?_;obtain⟨v12,h13,hm⟩:=qA hm;refine s_vu [qc 1 [48] 1 (TN a1 v12 h13)] 1 [46] [(4,vi v12.2)] [] [] ?_;refine s_vu [] 1 [4] [(53,vb (decide (v12.2>600)))] [] [] ?_;refine q_cm hm (λb14 hm=>?_) (λb14 hm=>?_)
     ·refine s_vn [] 1 ⟨[(2,vi 9)],[]⟩ ?_;obtain rfl:=oi hm;refine q_rt ?_;exact q_rm
     ·refine q_sk ?_;refine q_sq ?_;refine s_vu [] 1 [53] [(57,vb (((a1.Lengths.length:Nat):Int)==0))] [] [] ?_;refine q_cm hm (λb15 hm=>?_) (λb15 hm=>?_)
      ·refine s_vn [] 1 ⟨[(2,vi 3)],[]⟩ ?_;obtain rfl:=oi hm;refine q_rt ?_;exact q_rm
      ·refine q_sk ?_;refine q_sq ?_;refine s_vu [] 1 [57] [(61,vb (decide (((a1.Lengths.length:Nat):Int)>8)))] [] [] ?_;refine q_cm hm (λb16 hm=>?_) (λb16 hm=>?_)
       ·refine s_vn [] 1 ⟨[(2,vi 4)],[]⟩ ?_;obtain rfl:=oi hm;refine q_rt ?_;exact q_rm
       ·refine q_sk ?_;refine q_sq ?_;refine s_vu [] 1 [61] [(68,vb (((a1.Prices.length:Nat):Int) !=((a1.Lengths.length:Nat):Int)))] [] [] ?_;refine q_cm hm (λb17 hm=>?_) (λb17 hm=>?_)
        ·refine s_vn [] 1 ⟨[(2,vi 19)],[]⟩ ?_;obtain rfl:=oi hm;refine q_rt ?_;exact q_rm
        ·refine q_sk ?_;refine q_sq ?_;refine s_vu [] 1 [68] [(70,vc (tl e_i64 default a1.Lengths)),(71,vi ((a1.Lengths.length:Nat):Int)),(72,vi 0)] [] [] ?_;obtain⟨u30,h29,hm⟩:=qA hm;refine zA (nd Tryz.f74 4084) 0 (by kernel_rfl) FUEL (λo=>VZ a1) (λv st=>RetQ Tryz.prog Tryz.f74 (yJ v) (yH v) .ret st) u30 (q_hl (YB a1 0) (CQ E a1 FUEL 0 u30 h29)) ?_ ?_
         ·rintro v31 rfl st hr;obtain rfl:=oi hm;exact hr
         ·rintro o28 rfl;replace hm:_=some r:=hm;refine q_sq ?_;refine s_vn [] 1 ⟨[(97,vc (tl e_i64 default a1.Prices)),(98,vi ((a1.Prices.length:Nat):Int)),(99,vi 0)],[]⟩ ?_;obtain⟨u40,h39,hm⟩:=qA hm;refine zA (nd Tryz.f74 8180) 2 (by kernel_rfl) FUEL (λo=>GT) (λv st=>RetQ Tryz.prog Tryz.f74 (yJ v) (yH v) .ret st) u40 (q_hl (JW a1 0) (qAb E a1 FUEL 0 u40 h39)) ?_ ?_
          ·rintro v41 rfl st hr;obtain rfl:=oi hm;exact hr
          ·rintro o38 rfl;replace hm:_=some r:=hm;refine s_vn [] 1 ⟨[(2,vi 0)],[]⟩ ?_;obtain rfl:=oi hm;refine q_rt ?_;exact q_rm
   ·rcases bif_c hm with⟨b7,hm⟩|⟨b7,hm⟩
    ·refine q_vu [qf 3 b7] 1 [28] [(46,vb true)] [] [] ?_;exact q_J (true) hm
    ·rcases bif_c hm with⟨b8,hm⟩|⟨b8,hm⟩
     ·refine q_vu [qf 3 b7,qf 8 b8] 1 [28] [(46,vb true)] [] [] ?_;exact q_J (true) hm
     ·rcases bif_c hm with⟨b9,hm⟩|⟨b9,hm⟩
      ·refine q_vu [qf 3 b7,qf 8 b8,qf 13 b9] 1 [28] [(46,vb true)] [] [] ?_;exact q_J (true) hm
      ·refine q_vu [qf 3 b7,qf 8 b8,qf 13 b9] 1 [28] [(46,vb (decide (a1.Wane>1000)))] [] [] ?_;exact q_J (decide (a1.Wane>1000)) hm
 ·rcases bif_c hm with⟨b2,hm⟩|⟨b2,hm⟩
  ·refine q_vu [qf 3 b2] 1 [] [(28,vb true)] [] [] ?_;exact q_J (true) hm
  ·rcases bif_c hm with⟨b3,hm⟩|⟨b3,hm⟩
   ·refine q_vu [qf 3 b2,qf 8 b3] 1 [] [(28,vb true)] [] [] ?_;exact q_J (true) hm
   ·rcases bif_c hm with⟨b4,hm⟩|⟨b4,hm⟩
    ·refine q_vu [qf 3 b2,qf 8 b3,qf 15 b4] 1 [] [(28,vb true)] [] [] ?_;exact q_J (true) hm
    ·refine q_vu [qf 3 b2,qf 8 b3,qf 15 b4] 1 [] [(28,vb (decide (a1.Width>600)))] [] [] ?_;exact q_J (decide (a1.Width>600)) hm
end Saw
end Go.SL

import Derived.Test.YtidlfgiogdjkaaaGreatDoorEBase
set_option linter.unusedVariables false
set_option linter.unusedSimpArgs false
namespace Go.SL
namespace Saw
open Go.Proofs
set_option maxHeartbeats 4000000
set_option maxRecDepth 100000
def qO5 (r:Rect):V:=va (qH r)
def qO8 (r:Rect):List (Nat×(Nat×O)):=[]
theorem qAM (a1:Rect) (a2:Int) (a3:Int) (r:Rect) (hm:GF a1 a2 a3=some r):CtX Tryz.prog globs 88 0 0 [.agg (qH a1),.one (ci a2),.one (ci a3)] [] (qO5 r) (qO8 r):=by
 unfold GF at hm;refine q_E Tryz.f88 21 λE=>?_;refine s_vn [] 0 ⟨[(1,vi a2),(2,vi a3),(3,vp 0 0),(6,vp 1 0)],[(0,bx 33 (qH a1)),(1,bx 33 [ci 0,ci 0,ci 0,ci 0])]⟩ ?_;refine s_vn [] 2 ⟨[(6,vp 1 0)],[(1,bx 33 [ci a1.X.A,ci a1.X.B,ci (w64 (a1.Y.A+a2)),ci (w64 (a1.Y.A+a3))])]⟩ ?_;obtain rfl:=oi hm;refine q_rt ?_;exact q_rm
def qA4 (a1:List Node) (a2:List (List Node)) (r:(List (List Node))×(List (List Node))):V:=vo 0 0 1 r.2.length
def plan_collect_s1_o (a1:List Node) (a2:List (List Node)) (r:(List (List Node))×(List (List Node))):List (Nat×(Nat×O)):=[(0,ro 0 44 1 r.2.length (rf (qF e_Node) r.2))]
theorem qFW (a1:List Node) (a2:List (List Node)) (r:(List (List Node))×(List (List Node))) (hm:BE a1 a2=some r):CtX Tryz.prog globs 89 1 0 [.one (.own 0 0 1 a2.length),.one (tl e_Node default a1)] [(0,ro 0 44 1 a2.length (rf (qF e_Node) a2))] (qA4 a1 a2 r) (plan_collect_s1_o a1 a2 r):=by
 unfold BE at hm;refine q_E Tryz.f89 9 λE=>?_;refine s_vn [] 1 ⟨[(0,vo 0 0 1 a2.length),(1,vc (tl e_Node default a1))],[(0,ro 0 44 1 a2.length (rf (qF e_Node) a2))]⟩ ?_;obtain⟨g3,hm⟩:=qE hm
 refine s_vn [qd 2 (drw 1 0 (rf (qF e_Node) ([a1]:List (List Node)))) (litP (qF e_Node) default 1 (λ_=>rfl) ([a1]:List (List Node)) 1 rfl),qd 3 (drw 0 1 (rf (qF e_Node) (a2++([a1]:List (List Node))))) (apP (qF e_Node) default a2 ([a1]:List (List Node)) a2.length 1 1 24 (1<=1) (Nat.le_refl _) rfl rfl (λ_=>rfl) (qX g3))] 1 ⟨[(4,vo 0 1 1 (a2.length+1))],[(0,ro 1 44 1 (a2.length+1) (rf (qF e_Node) (a2++([a1]:List (List Node)))))]⟩ ?_
 refine q_fn [.len 0 ((a2++([a1]:List (List Node))).length)] ⟨[(4,vo 0 1 1 ((a2++([a1]:List (List Node))).length))],[(0,ro 1 44 1 ((a2++([a1]:List (List Node))).length) (rf (qF e_Node) (a2++([a1]:List (List Node)))))]⟩ (o1 (And.intro (Eq.symm (show(a2++([a1]:List (List Node))).length=(a2.length+1) from(len_app rfl rfl))) (Eq.symm (show(a2++([a1]:List (List Node))).length=(a2.length+1) from(len_app rfl rfl))))) ?_;obtain rfl:=oi hm;refine q_rt ?_;exact q_rm
def qIc (r:Bool):V:=vb r
def qH6 (r:Bool):List (Nat×(Nat×O)):=[]
def qEy (x3:Bool):St:=
 ⟨[(2,vb x3)],[]⟩
theorem qGC (a1:Span) (r:Bool) (hm:RW a1=some r):CtX Tryz.prog globs 203 0 0 [.agg (e_Span a1)] [] (qIc r) (qH6 r):=by
 unfold RW at hm;refine q_E Tryz.f203 17 λE=>?_;refine s_vn [] 0 ⟨[(1,vp 0 0)],[(0,bx 31 (e_Span a1))]⟩ ?_;refine q_jn (qEy) (λp=>RC p=some r) ?_ ?_
 ·rintro x3 hm;obtain rfl:=oi hm;refine q_rt ?_;exact q_rm
 ·rcases bif_c hm with⟨b2,hm⟩|⟨b2,hm⟩
  ·refine q_vn [qf 6 b2] 1 ⟨[(2,vb (decide ((imax a1.A a1.B)<=600)))],[]⟩ ?_;exact q_J (decide ((imax a1.A a1.B)<=600)) hm
  ·refine q_vn [qf 6 b2] 1 ⟨[(2,vb false)],[]⟩ ?_;exact q_J (false) hm
def qHN (r:Bool):V:=vb r
def qH8 (r:Bool):List (Nat×(Nat×O)):=[]
theorem QM (a1:Span) (r:Bool) (hm:ZE a1=some r):CtX Tryz.prog globs 143 0 0 [.agg (e_Span a1)] [] (qHN r) (qH8 r):=by
 unfold ZE at hm;refine q_E Tryz.f143 8 λE=>?_;refine s_vn [] 0 ⟨[(1,vp 0 0)],[(0,bx 31 (e_Span a1))]⟩ ?_;refine s_vn [] 1 ⟨[(2,vb (decide (a1.A≥a1.B)))],[]⟩ ?_;obtain rfl:=oi hm;refine q_rt ?_;exact q_rm
def RD (r:Int):V:=vi r
def RP (r:Int):List (Nat×(Nat×O)):=[]
def FG (a1:qI) (x6:Int):St:=
 ⟨[(1,vp 0 0),(3,vi ((a1.Rows.length:Nat):Int)),(24,vc (tl e_Span default a1.Rows)),(25,vi ((a1.Rows.length:Nat):Int)),(26,vi x6)],[(0,bx 70 (wF a1))]⟩
def qAF (a1:qI):St:=
 ⟨[(1,vp 0 0),(3,vi ((a1.Rows.length:Nat):Int))],[(0,bx 70 (wF a1))]⟩
def qGo (a1:qI) (x27:Int) (x33:Bool):St:=
 ⟨[(54,vc (tl e_Span default a1.Rows)),(55,vi ((a1.Rows.length:Nat):Int)),(56,vi x27),(66,vb x33)],[]⟩
def FP (a1:qI) (x27:Int):St:=
 ⟨[(54,vc (tl e_Span default a1.Rows)),(55,vi ((a1.Rows.length:Nat):Int)),(56,vi x27)],[]⟩
def qAd :St:=
 ⟨[],[]⟩
def qGB (a1:qI) (x25:Bool):St:=
 ⟨[(1,vp 0 0),(52,vb x25)],[(0,bx 70 (wF a1))]⟩
def qF7 (a1:qI) (x4:Bool):St:=
 ⟨[(1,vp 0 0),(3,vi ((a1.Rows.length:Nat):Int)),(22,vb x4)],[(0,bx 70 (wF a1))]⟩
theorem qFv (E:Env 0) (a1:qI):∀(n:Nat) (x6:Int) (res:Int⊕Unit),QI a1 n x6=some res->HL (kx E 68 0) (nd Tryz.f170 500) (zW 0 (λo=>qAF a1) (λv st=>RetQ Tryz.prog Tryz.f170 (RD v) (RP v) .ret st) res) n (FG a1 x6):=by
 intro n
 induction n with
 |zero=>
  intro x6 res hm;cases hm
 |succ n ih=>
  intro x6 res hm;refine qK ?_;refine s_va 1 [(27,vb (decide (x6<((a1.Rows.length:Nat):Int))))] ?_;refine q_sq ?_;refine q_cm hm (λb7 hm=>?_) (λb7 hm=>?_)
  ·refine q_sk ?_;refine q_sq ?_;refine q_bk 1 ?_;obtain⟨g8,hm⟩:=qE hm;refine s_vu [qi 0 g8] 1 [27] [(5,vp 1 0)] [] [(1,bx 31 [ci ((a1.Rows.getD x6.toNat default).A),ci ((a1.Rows.getD x6.toNat default).B)])] ?_;obtain⟨v9,h10,hm⟩:=qA hm;refine s_vu [qc 1 [30] 2 (qGC (a1.Rows.getD x6.toNat default) v9 h10)] 2 [5] [(32,vb (!v9))] [1] [] ?_;refine q_cm hm (λb11 hm=>?_) (λb11 hm=>?_)
   ·refine s_vn [] 2 ⟨[(2,vi 9)],[]⟩ ?_;obtain rfl:=oi hm;refine q_rt ?_;refine qU 9 ?_;exact q_rm
   ·refine q_sk ?_;refine q_vv [] 2 [26,32] [(26,vi (w64 (x6+1)))] ?_;exact q_hl (FG a1 (w64 (x6+1))) (ih (w64 (x6+1)) _ hm)
  ·refine q_ex 0 ?_;obtain rfl:=oi hm;exact wA () (by kernel_rfl) (by kernel_rfl)
theorem qFy (E:Env 0) (a1:qI):∀(n:Nat) (x27:Int) (res:Int⊕Unit),jC a1 n x27=some res->HL (kx E 68 0) (nd Tryz.f170 4084) (zW 2 (λo=>qAd) (λv st=>RetQ Tryz.prog Tryz.f170 (RD v) (RP v) .ret st) res) n (FP a1 x27):=by
 intro n
 induction n with
 |zero=>
  intro x27 res hm;cases hm
 |succ n ih=>
  intro x27 res hm;refine qK ?_;refine s_va 1 [(57,vb (decide (x27<((a1.Rows.length:Nat):Int))))] ?_;refine q_sq ?_;refine q_cm hm (λb28 hm=>?_) (λb28 hm=>?_)
  ·refine q_sk ?_;refine q_sq ?_;refine q_bk 3 ?_;obtain⟨g29,hm⟩:=qE hm;refine s_vu [qi 0 g29] 1 [57] [(7,vp 1 0)] [] [(1,bx 31 [ci ((a1.Rows.getD x27.toNat default).A),ci ((a1.Rows.getD x27.toNat default).B)])] ?_;refine q_jn (qGo a1 x27) (λp=>GV x27 (jC a1 n) p=some res) ?_ ?_
   ·rintro x33 hm;refine q_cm hm (λb34 hm=>?_) (λb34 hm=>?_)
    ·refine s_vn [] 2 ⟨[(2,vi 19)],[]⟩ ?_;obtain rfl:=oi hm;refine q_rt ?_;refine qU 19 ?_;exact q_rm
    ·refine q_sk ?_;refine q_vv [] 2 [56,66] [(56,vi (w64 (x27+1)))] ?_;exact q_hl (FP a1 (w64 (x27+1))) (ih (w64 (x27+1)) _ hm)
   ·obtain⟨v30,h31,hm⟩:=qA hm;rcases bif_c hm with⟨b32,hm⟩|⟨b32,hm⟩
    ·refine q_vu [qc 1 [60] 2 (QM (a1.Rows.getD x27.toNat default) v30 h31),qf 2 b32] 2 [7] [(66,vb (!((((a1.Rows.getD x27.toNat default).A)==0)&&((((a1.Rows.getD x27.toNat default).B)==0)&&true))))] [1] [] ?_;exact q_J (!((((a1.Rows.getD x27.toNat default).A)==0)&&((((a1.Rows.getD x27.toNat default).B)==0)&&true))) hm
    ·refine q_vu [qc 1 [60] 2 (QM (a1.Rows.getD x27.toNat default) v30 h31),qf 2 b32] 2 [7] [(66,vb false)] [1] [] ?_;exact q_J (false) hm
  ·refine q_ex 2 ?_;obtain rfl:=oi hm;exact wA () (by kernel_rfl) (by kernel_rfl)
theorem qBK (a1:qI) (r:Int) (hm:PM a1=some r):CtX Tryz.prog globs 170 0 0 [.agg (wF a1)] [] (RD r) (RP r):=by
 unfold PM at hm;refine q_E Tryz.f170 68 λE=>?_;refine s_vn [] 0 ⟨[(1,vp 0 0)],[(0,bx 70 (wF a1))]⟩ ?_;refine s_va 1 [(3,vi ((a1.Rows.length:Nat):Int))] ?_;refine q_sq ?_;refine s_va 1 [(12,vb (decide (((a1.Rows.length:Nat):Int)>120)))] ?_;refine q_cm hm (λb2 hm=>?_) (λb2 hm=>?_)
 ·refine s_vn [] 1 ⟨[(2,vi 4)],[]⟩ ?_;obtain rfl:=oi hm;refine q_rt ?_;exact q_rm
 ·refine q_sk ?_;refine q_sq ?_;refine q_jn (qF7 a1) (λp=>VI a1 p=some r) ?_ ?_
  ·rintro x4 hm;refine q_cm hm (λb5 hm=>?_) (λb5 hm=>?_)
   ·refine s_vn [] 1 ⟨[(2,vi 9)],[]⟩ ?_;obtain rfl:=oi hm;refine q_rt ?_;exact q_rm
   ·refine q_sk ?_;refine q_sq ?_;refine s_vv [] 1 [22] [(24,vc (tl e_Span default a1.Rows)),(25,vi ((a1.Rows.length:Nat):Int)),(26,vi 0)] ?_;obtain⟨u14,h13,hm⟩:=qA hm;refine zA (nd Tryz.f170 500) 0 (by kernel_rfl) FUEL (λo=>qAF a1) (λv st=>RetQ Tryz.prog Tryz.f170 (RD v) (RP v) .ret st) u14 (q_hl (FG a1 0) (qFv E a1 FUEL 0 u14 h13)) ?_ ?_
    ·rintro v15 rfl st hr;obtain rfl:=oi hm;exact hr
    ·rintro o12 rfl;replace hm:_=some r:=hm;refine q_sq ?_;refine s_va 1 [(35,vb (((a1.Rows.length:Nat):Int)==0))] ?_;refine q_cm hm (λb16 hm=>?_) (λb16 hm=>?_)
     ·refine q_sq ?_;refine s_vn [] 1 ⟨[(38,vb (a1.Low !=0))],[]⟩ ?_;refine q_cm hm (λb17 hm=>?_) (λb17 hm=>?_)
      ·refine s_vn [] 1 ⟨[(2,vi 19)],[]⟩ ?_;obtain rfl:=oi hm;refine q_rt ?_;exact q_rm
      ·refine q_sk ?_;refine s_vn [] 1 ⟨[(2,vi 0)],[]⟩ ?_;obtain rfl:=oi hm;refine q_rt ?_;exact q_rm
     ·refine q_sk ?_;refine q_sq ?_;refine q_jn (qGB a1) (λp=>GR a1 p=some r) ?_ ?_
      ·rintro x25 hm;refine q_cm hm (λb26 hm=>?_) (λb26 hm=>?_)
       ·refine s_vn [] 1 ⟨[(2,vi 19)],[]⟩ ?_;obtain rfl:=oi hm;refine q_rt ?_;exact q_rm
       ·refine q_sk ?_;refine q_sq ?_;refine s_vn [] 1 ⟨[(54,vc (tl e_Span default a1.Rows)),(55,vi ((a1.Rows.length:Nat):Int)),(56,vi 0)],[]⟩ ?_;obtain⟨u37,h36,hm⟩:=qA hm;refine zA (nd Tryz.f170 4084) 2 (by kernel_rfl) FUEL (λo=>qAd) (λv st=>RetQ Tryz.prog Tryz.f170 (RD v) (RP v) .ret st) u37 (q_hl (FP a1 0) (qFy E a1 FUEL 0 u37 h36)) ?_ ?_
        ·rintro v38 rfl st hr;obtain rfl:=oi hm;exact hr
        ·rintro o35 rfl;replace hm:_=some r:=hm;refine s_vn [] 1 ⟨[(2,vi 0)],[]⟩ ?_;obtain rfl:=oi hm;refine q_rt ?_;exact q_rm
      ·obtain⟨g18,hm⟩:=qE hm;obtain⟨v19,h20,hm⟩:=qA hm;rcases bif_c hm with⟨b21,hm⟩|⟨b21,hm⟩
       ·refine q_vv [qi 2 g18,qc 4 [42] 1 (QM (a1.Rows.getD (0:Int).toNat default) v19 h20),qf 5 b21] 1 [3,35] [(52,vb true)] ?_;exact q_J (true) hm
       ·obtain⟨g22,hm⟩:=qE hm;obtain⟨v23,h24,hm⟩:=qA hm;refine q_vv [qi 2 g18,qc 4 [42] 1 (QM (a1.Rows.getD (0:Int).toNat default) v19 h20),qf 5 b21,qi 10 g22,qk 12 [44,50] 1 ⟨[(44,vb false),(50,va [ci ((a1.Rows.getD (w64 (((a1.Rows.length:Nat):Int)-1)).toNat default).A),ci ((a1.Rows.getD (w64 (((a1.Rows.length:Nat):Int)-1)).toNat default).B)])],[]⟩ (QM (a1.Rows.getD (w64 (((a1.Rows.length:Nat):Int)-1)).toNat default) v23 h24)] 1 [3,35] [(52,vb v23)] ?_;exact q_J (v23) hm
  ·rcases bif_c hm with⟨b3,hm⟩|⟨b3,hm⟩
   ·refine q_vv [qf 3 b3] 1 [12] [(22,vb true)] ?_;exact q_J (true) hm
   ·refine q_vv [qf 3 b3] 1 [12] [(22,vb (decide (a1.Low>(w64 (60-((a1.Rows.length:Nat):Int))))))] ?_;exact q_J (decide (a1.Low>(w64 (60-((a1.Rows.length:Nat):Int))))) hm
def qAR (r:Int):V:=vi r
def qAP (r:Int):List (Nat×(Nat×O)):=[]
def qIN (a1:List qB) (x4:Int) (x5:Int) (x13:Bool):St:=
 ⟨[(3,vi x4),(5,vp 0 0),(13,vc (tl qJ default a1)),(14,vi ((a1.length:Nat):Int)),(15,vi x5),(39,vb x13)],[(0,bx 72 [ci ((a1.getD x5.toNat default).Len),ci (((a1.getD x5.toNat default).Sec).Low),tl e_Span default (((a1.getD x5.toNat default).Sec).Rows)])]⟩
def SC (a1:List qB) (x4:Int) (x5:Int):St:=
 ⟨[(3,vi x4),(13,vc (tl qJ default a1)),(14,vi ((a1.length:Nat):Int)),(15,vi x5)],[]⟩
def qB9 :St:=
 ⟨[],[]⟩
theorem qHA (E:Env 0) (a1:List qB):∀(n:Nat) (x4:Int) (x5:Int) (res:Int⊕Unit),yG a1 n x4 x5=some res->HL (kx E 45 0) (nd Tryz.f122 500) (zW 0 (λo=>qB9) (λv st=>RetQ Tryz.prog Tryz.f122 (qAR v) (qAP v) .ret st) res) n (SC a1 x4 x5):=by
 intro n
 induction n with
 |zero=>
  intro x4 x5 res hm;cases hm
 |succ n ih=>
  intro x4 x5 res hm;refine qK ?_;refine s_va 0 [(16,vb (decide (x5<((a1.length:Nat):Int))))] ?_;refine q_sq ?_;refine q_cm hm (λb6 hm=>?_) (λb6 hm=>?_)
  ·refine q_sk ?_;refine q_sq ?_;refine q_bk 1 ?_;obtain⟨g7,hm⟩:=qE hm;refine s_vu [qi 0 g7] 0 [16] [(5,vp 0 0)] [] [(0,bx 72 [ci ((a1.getD x5.toNat default).Len),ci (((a1.getD x5.toNat default).Sec).Low),tl e_Span default (((a1.getD x5.toNat default).Sec).Rows)])] ?_;refine q_sq ?_;obtain⟨v8,h9,hm⟩:=qA hm;refine s_vv [qc 2 [20] 1 (qBK ((a1.getD x5.toNat default).Sec) v8 h9)] 1 [] [(6,vi v8)] ?_;refine s_va 1 [(23,vb (v8 !=0))] ?_;refine q_cm hm (λb10 hm=>?_) (λb10 hm=>?_)
   ·refine s_vn [] 1 ⟨[(2,vi v8)],[]⟩ ?_;obtain rfl:=oi hm;refine q_rt ?_;refine qU v8 ?_;exact q_rm
   ·refine q_sk ?_;refine q_sq ?_;refine s_vv [] 1 [6,23] [(29,vb ((((((a1.getD x5.toNat default).Sec).Rows).length:Nat):Int)==0))] ?_;refine q_cm hm (λb11 hm=>?_) (λb11 hm=>?_)
    ·refine s_vn [] 1 ⟨[(2,vi 18)],[]⟩ ?_;obtain rfl:=oi hm;refine q_rt ?_;refine qU 18 ?_;exact q_rm
    ·refine q_sk ?_;refine q_sq ?_;refine q_jn (qIN a1 x4 x5) (λp=>LH a1 x4 x5 (yG a1 n) p=some res) ?_ ?_
     ·rintro x13 hm;refine q_cm hm (λb14 hm=>?_) (λb14 hm=>?_)
      ·refine s_vn [] 1 ⟨[(2,vi 9)],[]⟩ ?_;obtain rfl:=oi hm;refine q_rt ?_;refine qU 9 ?_;exact q_rm
      ·refine q_sk ?_;refine q_vu [] 1 [3,5,39] [(3,vi (w64 (x4+((a1.getD x5.toNat default).Len))))] [0] [] ?_;refine q_vv [] 1 [15] [(15,vi (w64 (x5+1)))] ?_;exact q_hl (SC a1 (w64 (x4+((a1.getD x5.toNat default).Len))) (w64 (x5+1))) (ih (w64 (x4+((a1.getD x5.toNat default).Len))) (w64 (x5+1)) _ hm)
     ·rcases bif_c hm with⟨b12,hm⟩|⟨b12,hm⟩
      ·refine q_vv [qf 3 b12] 1 [29] [(39,vb true)] ?_;exact q_J (true) hm
      ·refine q_vv [qf 3 b12] 1 [29] [(39,vb (decide (((a1.getD x5.toNat default).Len)>(w64 (20000-x4)))))] ?_;exact q_J (decide (((a1.getD x5.toNat default).Len)>(w64 (20000-x4)))) hm
  ·refine q_ex 0 ?_;obtain rfl:=oi hm;exact wA () (by kernel_rfl) (by kernel_rfl)
theorem WX (a1:List qB) (r:Int) (hm:JG a1=some r):CtX Tryz.prog globs 122 0 0 [.one (tl qJ default a1)] [] (qAR r) (qAP r):=by
 unfold JG at hm;refine q_E Tryz.f122 45 λE=>?_;refine s_vn [] 0 ⟨[(0,vc (tl qJ default a1))],[]⟩ ?_;refine q_sq ?_;refine s_va 0 [(9,vb (((a1.length:Nat):Int)==0))] ?_;refine q_cm hm (λb2 hm=>?_) (λb2 hm=>?_)
 ·refine s_vn [] 0 ⟨[(2,vi 3)],[]⟩ ?_;obtain rfl:=oi hm;refine q_rt ?_;exact q_rm
 ·refine q_sk ?_;refine q_sq ?_;refine s_vv [] 0 [9] [(12,vb (decide (((a1.length:Nat):Int)>24)))] ?_;refine q_cm hm (λb3 hm=>?_) (λb3 hm=>?_)
  ·refine s_vn [] 0 ⟨[(2,vi 4)],[]⟩ ?_;obtain rfl:=oi hm;refine q_rt ?_;exact q_rm
  ·refine q_sk ?_;refine s_vv [] 0 [12] [(3,vi 0)] ?_;refine q_sq ?_;refine s_vv [] 0 [0] [(13,vc (tl qJ default a1)),(14,vi ((a1.length:Nat):Int)),(15,vi 0)] ?_;obtain⟨u17,h16,hm⟩:=qA hm;refine zA (nd Tryz.f122 500) 0 (by kernel_rfl) FUEL (λo=>qB9) (λv st=>RetQ Tryz.prog Tryz.f122 (qAR v) (qAP v) .ret st) u17 (q_hl (SC a1 0 0) (qHA E a1 FUEL 0 0 u17 h16)) ?_ ?_
   ·rintro v18 rfl st hr;obtain rfl:=oi hm;exact hr
   ·rintro o15 rfl;replace hm:_=some r:=hm;refine s_vn [] 0 ⟨[(2,vi 0)],[]⟩ ?_;obtain rfl:=oi hm;refine q_rt ?_;exact q_rm
def qKO (r:Bool):V:=vb r
def qK7 (r:Bool):List (Nat×(Nat×O)):=[]
def qGj (x5:Bool):St:=
 ⟨[(6,vb x5)],[]⟩
theorem WO (a1:Span) (a2:Int) (a3:Int) (r:Bool) (hm:YV a1 a2 a3=some r):CtX Tryz.prog globs 205 0 0 [.agg (e_Span a1),.one (ci a2),.one (ci a3)] [] (qKO r) (qK7 r):=by
 unfold YV at hm;refine q_E Tryz.f205 23 λE=>?_;refine s_vn [] 0 ⟨[(1,vi a2),(2,vi a3),(3,vp 0 0)],[(0,bx 31 (e_Span a1))]⟩ ?_;refine q_jn (qGj) (λp=>GU p=some r) ?_ ?_
 ·rintro x5 hm;obtain rfl:=oi hm;refine q_rt ?_;exact q_rm
 ·rcases bif_c hm with⟨b4,hm⟩|⟨b4,hm⟩
  ·refine q_vn [qf 7 b4] 1 ⟨[(6,vb (decide ((imax a1.A a1.B)<=a3)))],[]⟩ ?_;exact q_J (decide ((imax a1.A a1.B)<=a3)) hm
  ·refine q_vn [qf 7 b4] 1 ⟨[(6,vb false)],[]⟩ ?_;exact q_J (false) hm
def qI8 (r:Bool):V:=vb r
def qIO (r:Bool):List (Nat×(Nat×O)):=[]
theorem zQ (a1:Span) (r:Bool) (hm:yH a1=some r):CtX Tryz.prog globs 204 0 0 [.agg (e_Span a1)] [] (qI8 r) (qIO r):=by
 unfold yH at hm;refine q_E Tryz.f204 8 λE=>?_;refine s_vn [] 0 ⟨[(1,vp 0 0)],[(0,bx 31 (e_Span a1))]⟩ ?_;refine s_vn [] 1 ⟨[(2,vb (decide (a1.A≥a1.B)))],[]⟩ ?_;obtain rfl:=oi hm;refine q_rt ?_;exact q_rm
def qMx (r:Int):V:=vi r
def qL6 (r:Int):List (Nat×(Nat×O)):=[]
def qH5 (x23:Bool):St:=
 ⟨[(29,vb x23)],[]⟩
def qHT (a1:Defect) (x13:Bool):St:=
 ⟨[(3,vp 1 0),(15,vb x13)],[(1,bx 128 (JF a1.Box))]⟩
def qHL (a1:Defect) (x3:Bool):St:=
 ⟨[(3,vp 1 0),(6,vb x3)],[(1,bx 128 (JF a1.Box))]⟩
theorem qKw (a1:Defect) (r:Int) (hm:NV a1=some r):CtX Tryz.prog globs 171 0 0 [.agg (qL a1)] [] (qMx r) (qL6 r):=by
 unfold NV at hm;refine q_E Tryz.f171 46 λE=>?_;refine s_vn [] 0 ⟨[(1,vp 0 0)],[(0,bx 212 (qL a1))]⟩ ?_;refine s_vu [] 1 [] [(3,vp 1 0)] [] [(1,bx 128 (JF a1.Box))] ?_;refine q_sq ?_;refine q_bk 0 ?_;refine q_jn (qHL a1) (λp=>BP a1 p=some r) ?_ ?_
 ·rintro x3 hm;refine q_cm hm (λb4 hm=>?_) (λb4 hm=>?_)
  ·refine s_vn [] 2 ⟨[(2,vi 10)],[]⟩ ?_;obtain rfl:=oi hm;refine q_rt ?_;exact q_rm
  ·refine q_jn (qHT a1) (λp=>PX a1 p=some r) ?_ ?_
   ·rintro x13 hm;refine q_cm hm (λb14 hm=>?_) (λb14 hm=>?_)
    ·refine s_vn [] 2 ⟨[(2,vi 19)],[]⟩ ?_;obtain rfl:=oi hm;refine q_rt ?_;exact q_rm
    ·refine q_jn (qH5) (λp=>RU p=some r) ?_ ?_
     ·rintro x23 hm;refine q_cm hm (λb24 hm=>?_) (λb24 hm=>?_)
      ·refine s_vn [] 2 ⟨[(2,vi 9)],[]⟩ ?_;obtain rfl:=oi hm;refine q_rt ?_;exact q_rm
      ·refine q_sk ?_;refine s_vn [] 2 ⟨[(2,vi 0)],[]⟩ ?_;obtain rfl:=oi hm;refine q_rt ?_;exact q_rm
     ·obtain⟨v15,h16,hm⟩:=qA hm;rcases bif_c hm with⟨b17,hm⟩|⟨b17,hm⟩
      ·refine q_vn [qk 2 [31] 2 ⟨[(31,va (e_Span a1.Box.X))],[]⟩ (WO a1.Box.X (-600) 600 v15 h16),qf 4 b17] 2 ⟨[(29,vb true)],[]⟩ ?_;exact q_J (true) hm
      ·obtain⟨v18,h19,hm⟩:=qA hm;rcases bif_c hm with⟨b20,hm⟩|⟨b20,hm⟩
       ·refine q_vn [qk 2 [31] 2 ⟨[(31,va (e_Span a1.Box.X))],[]⟩ (WO a1.Box.X (-600) 600 v15 h16),qf 4 b17,qk 7 [34,36] 2 ⟨[(34,vb false),(36,va (e_Span a1.Box.Y))],[]⟩ (WO a1.Box.Y (-600) 600 v18 h19),qf 10 b20] 2 ⟨[(29,vb true)],[]⟩ ?_;exact q_J (true) hm
       ·obtain⟨v21,h22,hm⟩:=qA hm;refine q_vn [qk 2 [31] 2 ⟨[(31,va (e_Span a1.Box.X))],[]⟩ (WO a1.Box.X (-600) 600 v15 h16),qf 4 b17,qk 7 [34,36] 2 ⟨[(34,vb false),(36,va (e_Span a1.Box.Y))],[]⟩ (WO a1.Box.Y (-600) 600 v18 h19),qf 10 b20,qk 13 [40,42] 2 ⟨[(40,vb false),(42,va (e_Span a1.Box.Z))],[]⟩ (WO a1.Box.Z 0 20000 v21 h22)] 2 ⟨[(29,vb (!v21))],[]⟩ ?_;exact q_J (!v21) hm
   ·obtain⟨v5,h6,hm⟩:=qA hm;rcases bif_c hm with⟨b7,hm⟩|⟨b7,hm⟩
    ·refine q_vv [qc 2 [17] 2 (zQ a1.Box.X v5 h6),qf 3 b7] 2 [6] [(15,vb true)] ?_;exact q_J (true) hm
    ·obtain⟨v8,h9,hm⟩:=qA hm;rcases bif_c hm with⟨b10,hm⟩|⟨b10,hm⟩
     ·refine q_vv [qc 2 [17] 2 (zQ a1.Box.X v5 h6),qf 3 b7,qk 6 [19,21] 2 ⟨[(19,vb false),(21,va (e_Span a1.Box.Y))],[]⟩ (zQ a1.Box.Y v8 h9),qf 8 b10] 2 [6] [(15,vb true)] ?_;exact q_J (true) hm
     ·obtain⟨v11,h12,hm⟩:=qA hm;refine q_vv [qc 2 [17] 2 (zQ a1.Box.X v5 h6),qf 3 b7,qk 6 [19,21] 2 ⟨[(19,vb false),(21,va (e_Span a1.Box.Y))],[]⟩ (zQ a1.Box.Y v8 h9),qf 8 b10,qk 11 [24,26] 2 ⟨[(24,vb false),(26,va (e_Span a1.Box.Z))],[]⟩ (zQ a1.Box.Z v11 h12)] 2 [6] [(15,vb v11)] ?_;exact q_J (v11) hm
 ·rcases bif_c hm with⟨b2,hm⟩|⟨b2,hm⟩
  ·refine q_vu [qf 3 b2] 2 [1] [(6,vb true)] [0] [] ?_;exact q_J (true) hm
  ·refine q_vu [qf 3 b2] 2 [1] [(6,vb (decide (a1.Kind>6)))] [0] [] ?_;exact q_J (decide (a1.Kind>6)) hm
def OF (r:Int):V:=vi r
def OK (r:Int):List (Nat×(Nat×O)):=[]
def MJ (a1:List Defect) (x3:Int):St:=
 ⟨[(9,vc (tl qL default a1)),(10,vi ((a1.length:Nat):Int)),(11,vi x3)],[]⟩
def qBh :St:=
 ⟨[],[]⟩
theorem qGr (E:Env 0) (a1:List Defect):∀(n:Nat) (x3:Int) (res:Int⊕Unit),ZC a1 n x3=some res->HL (kx E 21 0) (nd Tryz.f123 116) (zW 0 (λo=>qBh) (λv st=>RetQ Tryz.prog Tryz.f123 (OF v) (OK v) .ret st) res) n (MJ a1 x3):=by
 intro n
 induction n with
 |zero=>
  intro x3 res hm;cases hm
 |succ n ih=>
  intro x3 res hm;refine qK ?_;refine s_va 0 [(12,vb (decide (x3<((a1.length:Nat):Int))))] ?_;refine q_sq ?_;refine q_cm hm (λb4 hm=>?_) (λb4 hm=>?_)
  ·refine q_sk ?_;refine q_sq ?_;refine q_bk 1 ?_;obtain⟨g5,hm⟩:=qE hm;refine s_vu [qi 0 g5] 0 [12] [(4,vp 0 0)] [] [(0,bx 212 [ci ((a1.getD x3.toNat default).Kind),ci ((((a1.getD x3.toNat default).Box).X).A),ci ((((a1.getD x3.toNat default).Box).X).B),ci ((((a1.getD x3.toNat default).Box).Y).A),ci ((((a1.getD x3.toNat default).Box).Y).B),ci ((((a1.getD x3.toNat default).Box).Z).A),ci ((((a1.getD x3.toNat default).Box).Z).B)])] ?_;obtain⟨v6,h7,hm⟩:=qA hm;refine s_vu [qc 1 [15] 1 (qKw (a1.getD x3.toNat default) v6 h7)] 1 [4] [(5,vi v6)] [0] [] ?_;refine s_va 1 [(18,vb (v6 !=0))] ?_
   refine q_cm hm (λb8 hm=>?_) (λb8 hm=>?_)
   ·refine s_vn [] 1 ⟨[(2,vi v6)],[]⟩ ?_;obtain rfl:=oi hm;refine q_rt ?_;refine qU v6 ?_;exact q_rm
   ·refine q_sk ?_;refine q_vv [] 1 [5,11,18] [(11,vi (w64 (x3+1)))] ?_;exact q_hl (MJ a1 (w64 (x3+1))) (ih (w64 (x3+1)) _ hm)
  ·refine q_ex 0 ?_;obtain rfl:=oi hm;exact wA () (by kernel_rfl) (by kernel_rfl)
theorem RE (a1:List Defect) (r:Int) (hm:JX a1=some r):CtX Tryz.prog globs 123 0 0 [.one (tl qL default a1)] [] (OF r) (OK r):=by
 unfold JX at hm;refine q_E Tryz.f123 21 λE=>?_;refine s_vn [] 0 ⟨[(0,vc (tl qL default a1))],[]⟩ ?_;refine q_sq ?_;refine s_va 0 [(8,vb (decide (((a1.length:Nat):Int)>64)))] ?_;refine q_cm hm (λb2 hm=>?_) (λb2 hm=>?_)
 ·refine s_vn [] 0 ⟨[(2,vi 4)],[]⟩ ?_;obtain rfl:=oi hm;refine q_rt ?_;exact q_rm
 ·refine q_sk ?_;refine q_sq ?_;refine s_vn [] 0 ⟨[(9,vc (tl qL default a1)),(10,vi ((a1.length:Nat):Int)),(11,vi 0)],[]⟩ ?_;obtain⟨u11,h10,hm⟩:=qA hm;refine zA (nd Tryz.f123 116) 0 (by kernel_rfl) FUEL (λo=>qBh) (λv st=>RetQ Tryz.prog Tryz.f123 (OF v) (OK v) .ret st) u11 (q_hl (MJ a1 0) (qGr E a1 FUEL 0 u11 h10)) ?_ ?_
  ·rintro v12 rfl st hr;obtain rfl:=oi hm;exact hr
  ·rintro o9 rfl;replace hm:_=some r:=hm;refine s_vn [] 0 ⟨[(2,vi 0)],[]⟩ ?_;obtain rfl:=oi hm;refine q_rt ?_;exact q_rm
def qLl (r:Bool):V:=vb r
def qKv (r:Bool):List (Nat×(Nat×O)):=[]
def qGX (x3:Bool):St:=
 ⟨[(2,vb x3)],[]⟩
theorem VZ (a1:Int) (r:Bool) (hm:PN a1=some r):CtX Tryz.prog globs 129 0 0 [.one (.val (.int .u8 a1))] [] (qLl r) (qKv r):=by
 unfold PN at hm;refine q_E Tryz.f129 9 λE=>?_;refine s_vn [] 0 ⟨[(0,vc (.val (.int .u8 a1)))],[]⟩ ?_;refine q_jn (qGX) (λp=>GC p=some r) ?_ ?_
 ·rintro x3 hm;obtain rfl:=oi hm;refine q_rt ?_;exact q_rm
 ·rcases bif_c hm with⟨b2,hm⟩|⟨b2,hm⟩
  ·refine q_vn [qf 2 b2] 0 ⟨[(2,vb (decide (a1<=122)))],[]⟩ ?_;exact q_J (decide (a1<=122)) hm
  ·refine q_vn [qf 2 b2] 0 ⟨[(2,vb false)],[]⟩ ?_;exact q_J (false) hm
def qLx (r:Bool):V:=vb r
def qKH (r:Bool):List (Nat×(Nat×O)):=[]
def qG6 (x3:Bool):St:=
 ⟨[(2,vb x3)],[]⟩
theorem qCl (a1:Int) (r:Bool) (hm:DF a1=some r):CtX Tryz.prog globs 130 0 0 [.one (.val (.int .u8 a1))] [] (qLx r) (qKH r):=by
 unfold DF at hm;refine q_E Tryz.f130 9 λE=>?_;refine s_vn [] 0 ⟨[(0,vc (.val (.int .u8 a1)))],[]⟩ ?_;refine q_jn (qG6) (λp=>VG p=some r) ?_ ?_
 ·rintro x3 hm;obtain rfl:=oi hm;refine q_rt ?_;exact q_rm
 ·rcases bif_c hm with⟨b2,hm⟩|⟨b2,hm⟩
  ·refine q_vn [qf 2 b2] 0 ⟨[(2,vb (decide (a1<=57)))],[]⟩ ?_;exact q_J (decide (a1<=57)) hm
  ·refine q_vn [qf 2 b2] 0 ⟨[(2,vb false)],[]⟩ ?_;exact q_J (false) hm
def IY (r:Bool):V:=vb r
def OP (r:Bool):List (Nat×(Nat×O)):=[]
def qHO (a1:ByteArray) (x9:Int) (x18:Bool):St:=
 ⟨[(0,vc (cs a1)),(3,vi x9),(39,vb x18)],[]⟩
def MO (a1:ByteArray) (x9:Int):St:=
 ⟨[(0,vc (cs a1)),(3,vi x9)],[]⟩
def qBa :St:=
 ⟨[],[]⟩
def qIa (a1:ByteArray) (x7:Bool):St:=
 ⟨[(0,vc (cs a1)),(18,vb x7)],[]⟩
theorem qHc (E:Env 0) (a1:ByteArray):∀(n:Nat) (x9:Int) (res:Bool⊕Unit),wU a1 n x9=some res->HL (kx E 40 0) (nd Tryz.f72 116) (zW 0 (λo=>qBa) (λv st=>RetQ Tryz.prog Tryz.f72 (IY v) (OP v) .ret st) res) n (MO a1 x9):=by
 intro n
 induction n with
 |zero=>
  intro x9 res hm;cases hm
 |succ n ih=>
  intro x9 res hm;refine qK ?_;refine q_sq ?_;refine s_va 0 [(22,vb (decide (x9<((a1.size:Nat):Int))))] ?_;refine q_cm hm (λb10 hm=>?_) (λb10 hm=>?_)
  ·refine q_sk ?_;refine q_sq ?_;refine q_bk 1 ?_;obtain⟨g11,hm⟩:=qE hm;refine s_vv [qi 2 g11] 0 [22] [(4,vc (.val (.int .u8 (strAt a1 x9.toNat))))] ?_;refine q_jn (qHO a1 x9) (λp=>RZ x9 (wU a1 n) p=some res) ?_ ?_
   ·rintro x18 hm;refine q_cm hm (λb19 hm=>?_) (λb19 hm=>?_)
    ·refine s_vn [] 0 ⟨[(2,vb false)],[]⟩ ?_;obtain rfl:=oi hm;refine q_rt ?_;refine qU false ?_;exact q_rm
    ·refine q_sk ?_;refine q_vv [] 0 [3,39] [(3,vi (w64 (x9+1)))] ?_;exact q_hl (MO a1 (w64 (x9+1))) (ih (w64 (x9+1)) _ hm)
   ·obtain⟨v12,h13,hm⟩:=qA hm;rcases bif_c hm with⟨b14,hm⟩|⟨b14,hm⟩
    ·obtain⟨v15,h16,hm⟩:=qA hm;rcases bif_c hm with⟨b17,hm⟩|⟨b17,hm⟩
     ·refine q_vv [qc 1 [28] 0 (VZ (strAt a1 x9.toNat) v12 h13),qf 3 b14,qk 5 [31,32] 0 ⟨[(31,vb true),(32,vc (.val (.int .u8 (strAt a1 x9.toNat))))],[]⟩ (qCl (strAt a1 x9.toNat) v15 h16),qf 8 b17] 0 [4] [(39,vb ((strAt a1 x9.toNat) !=95))] ?_;exact q_J ((strAt a1 x9.toNat) !=95) hm
     ·refine q_vv [qc 1 [28] 0 (VZ (strAt a1 x9.toNat) v12 h13),qf 3 b14,qk 5 [31,32] 0 ⟨[(31,vb true),(32,vc (.val (.int .u8 (strAt a1 x9.toNat))))],[]⟩ (qCl (strAt a1 x9.toNat) v15 h16),qf 8 b17] 0 [4] [(39,vb false)] ?_;exact q_J (false) hm
    ·refine q_vv [qc 1 [28] 0 (VZ (strAt a1 x9.toNat) v12 h13),qf 3 b14] 0 [4] [(39,vb false)] ?_;exact q_J (false) hm
  ·refine q_ex 0 ?_;obtain rfl:=oi hm;exact wA () (by kernel_rfl) (by kernel_rfl)
theorem qKe (a1:ByteArray) (r:Bool) (hm:NX a1=some r):CtX Tryz.prog globs 72 0 0 [.one (cs a1)] [] (IY r) (OP r):=by
 unfold NX at hm;refine q_E Tryz.f72 40 λE=>?_;refine s_vn [] 0 ⟨[(0,vc (cs a1))],[]⟩ ?_;refine q_sq ?_;refine q_jn (qIa a1) (λp=>PU a1 p=some r) ?_ ?_
 ·rintro x7 hm;refine q_cm hm (λb8 hm=>?_) (λb8 hm=>?_)
  ·refine s_vn [] 0 ⟨[(2,vb false)],[]⟩ ?_;obtain rfl:=oi hm;refine q_rt ?_;exact q_rm
  ·refine q_sk ?_;refine q_sq ?_;refine s_vv [] 0 [18] [(3,vi 1)] ?_;obtain⟨u22,h21,hm⟩:=qA hm;refine zA (nd Tryz.f72 116) 0 (by kernel_rfl) FUEL (λo=>qBa) (λv st=>RetQ Tryz.prog Tryz.f72 (IY v) (OP v) .ret st) u22 (q_hl (MO a1 1) (qHc E a1 FUEL 1 u22 h21)) ?_ ?_
   ·rintro v23 rfl st hr;obtain rfl:=oi hm;exact hr
   ·rintro o20 rfl;replace hm:_=some r:=hm;refine s_vn [] 0 ⟨[(2,vb true)],[]⟩ ?_;obtain rfl:=oi hm;refine q_rt ?_;exact q_rm
 ·rcases bif_c hm with⟨b2,hm⟩|⟨b2,hm⟩
  ·refine q_vv [qf 3 b2] 0 [] [(18,vb true)] ?_;exact q_J (true) hm
  ·rcases bif_c hm with⟨b3,hm⟩|⟨b3,hm⟩
   ·refine q_vv [qf 3 b2,qf 8 b3] 0 [] [(18,vb true)] ?_;exact q_J (true) hm
   ·obtain⟨g4,hm⟩:=qE hm;obtain⟨v5,h6,hm⟩:=qA hm;refine q_vv [qf 3 b2,qf 8 b3,qi 10 g4,qk 11 [13,15] 0 ⟨[(13,vb false),(15,vc (.val (.int .u8 (strAt a1 ((0:Int).toNat)))))],[]⟩ (VZ (strAt a1 ((0:Int).toNat)) v5 h6)] 0 [] [(18,vb (!v5))] ?_;exact q_J (!v5) hm
def OO (r:Int×Bool):V:= .tup [.one (ci r.1),.one (cb r.2)]
def IM (r:Int×Bool):List (Nat×(Nat×O)):=[]
def MH (a1:List Product) (a2:ByteArray) (x3:Int):St:=
 ⟨[(1,vc (cs a2)),(8,vc (tl qC default a1)),(9,vi ((a1.length:Nat):Int)),(10,vi x3)],[]⟩
def qA2 :St:=
 ⟨[],[]⟩
theorem qGW (E:Env 0) (a1:List Product) (a2:ByteArray):∀(n:Nat) (x3:Int) (res:(Int×Bool)⊕Unit),ZG a1 a2 n x3=some res->HL (kx E 21 0) (nd Tryz.f73 52) (zW 0 (λo=>qA2) (λv st=>RetQ Tryz.prog Tryz.f73 (OO v) (IM v) .ret st) res) n (MH a1 a2 x3):=by
 intro n
 induction n with
 |zero=>
  intro x3 res hm;cases hm
 |succ n ih=>
  intro x3 res hm;refine qK ?_;refine s_va 0 [(11,vb (decide (x3<((a1.length:Nat):Int))))] ?_;refine q_sq ?_;refine q_cm hm (λb4 hm=>?_) (λb4 hm=>?_)
  ·refine q_sk ?_;refine q_sq ?_;refine q_bk 1 ?_;obtain⟨g5,hm⟩:=qE hm;refine s_vu [qi 1 g5] 0 [11] [(6,vi x3),(7,vp 0 0)] [] [(0,bx 54 [cs ((a1.getD x3.toNat default).Name),ci ((a1.getD x3.toNat default).Thick),ci ((a1.getD x3.toNat default).Width),ci ((a1.getD x3.toNat default).Allow),ci ((a1.getD x3.toNat default).Wane),tl e_i64 default ((a1.getD x3.toNat default).Lengths),tl e_i64 default ((a1.getD x3.toNat default).Prices)])] ?_;refine s_vu [] 1 [7] [(18,vb (strEq ((a1.getD x3.toNat default).Name) a2))] [0] [] ?_;refine q_cm hm (λb6 hm=>?_) (λb6 hm=>?_)
   ·refine s_vn [] 1 ⟨[(4,vi x3),(5,vb true)],[]⟩ ?_;obtain rfl:=oi hm;refine q_rt ?_;refine qU (x3,true) ?_;exact q_rm
   ·refine q_sk ?_;refine q_vv [] 1 [6,10,18] [(10,vi (w64 (x3+1)))] ?_;exact q_hl (MH a1 a2 (w64 (x3+1))) (ih (w64 (x3+1)) _ hm)
  ·refine q_ex 0 ?_;obtain rfl:=oi hm;exact wA () (by kernel_rfl) (by kernel_rfl)
theorem qKx (a1:List Product) (a2:ByteArray) (r:Int×Bool) (hm:NY a1 a2=some r):CtX Tryz.prog globs 73 0 0 [.one (tl qC default a1),.one (cs a2)] [] (OO r) (IM r):=by
 unfold NY at hm;refine q_E Tryz.f73 21 λE=>?_;refine s_vn [] 0 ⟨[(0,vc (tl qC default a1)),(1,vc (cs a2))],[]⟩ ?_;refine q_sq ?_;refine s_vv [] 0 [0] [(8,vc (tl qC default a1)),(9,vi ((a1.length:Nat):Int)),(10,vi 0)] ?_;obtain⟨u9,h8,hm⟩:=qA hm;refine zA (nd Tryz.f73 52) 0 (by kernel_rfl) FUEL (λo=>qA2) (λv st=>RetQ Tryz.prog Tryz.f73 (OO v) (IM v) .ret st) u9 (q_hl (MH a1 a2 0) (qGW E a1 a2 FUEL 0 u9 h8)) ?_ ?_
 ·rintro v10 rfl st hr;obtain rfl:=oi hm;exact hr
 ·rintro o7 rfl;replace hm:_=some r:=hm;refine s_vn [] 0 ⟨[(4,vi 0),(5,vb false)],[]⟩ ?_;obtain rfl:=oi hm;refine q_rt ?_;exact q_rm
def qMC (r:Int):V:=vi r
def qMB (r:Int):List (Nat×(Nat×O)):=[]
theorem qCv (a1:Int) (a2:Int) (r:Int) (hm:BX a1 a2=some r):CtX Tryz.prog globs 76 0 0 [.one (ci a1),.one (ci a2)] [] (qMC r) (qMB r):=by
 unfold BX at hm;refine q_E Tryz.f76 11 λE=>?_;refine s_vn [] 0 ⟨[(0,vi a1),(1,vi a2)],[]⟩ ?_;refine s_vn [qd 5 dN (show(1000:Int)≠0 by decide)] 0 ⟨[(4,vi (w64 (Int.tdiv (w64 ((w64 (a1*(w64 (1000+a2))))+999)) 1000)))],[]⟩ ?_;obtain rfl:=oi hm;refine q_rt ?_;exact q_rm
def qJB (r:Bool):V:=vb r
def qIP (r:Bool):List (Nat×(Nat×O)):=[]
def qFx (x3:Bool):St:=
 ⟨[(2,vb x3)],[]⟩
theorem yM (a1:Int) (r:Bool) (hm:KA a1=some r):CtX Tryz.prog globs 75 0 0 [.one (ci a1)] [] (qJB r) (qIP r):=by
 unfold KA at hm;refine q_E Tryz.f75 9 λE=>?_;refine s_vn [] 0 ⟨[(0,vi a1)],[]⟩ ?_;refine q_jn (qFx) (λp=>TU p=some r) ?_ ?_
 ·rintro x3 hm;obtain rfl:=oi hm;refine q_rt ?_;exact q_rm
 ·rcases bif_c hm with⟨b2,hm⟩|⟨b2,hm⟩
  ·refine q_vn [qf 2 b2] 0 ⟨[(2,vb (decide (a1<=600)))],[]⟩ ?_;exact q_J (decide (a1<=600)) hm
  ·refine q_vn [qf 2 b2] 0 ⟨[(2,vb false)],[]⟩ ?_;exact q_J (false) hm
def qKV (r:Int×Int):V:= .tup [.one (ci r.1),.one (ci r.2)]
def qLj (r:Int×Int):List (Nat×(Nat×O)):=[]
def qGY (a1:Product) (x9:Bool):St:=
 ⟨[(1,vp 0 0),(23,vb x9)],[(0,bx 54 (qC a1))]⟩
theorem GK (a1:Product) (r:Int×Int) (hm:QE a1=some r):CtX Tryz.prog globs 31 0 0 [.agg (qC a1)] [] (qKV r) (qLj r):=by
 unfold QE at hm;refine q_E Tryz.f31 34 λE=>?_;refine s_vn [] 0 ⟨[(1,vp 0 0)],[(0,bx 54 (qC a1))]⟩ ?_;refine q_sq ?_;refine q_jn (qGY a1) (λp=>WZ a1 p=some r) ?_ ?_
 ·rintro x9 hm;refine q_cm hm (λb10 hm=>?_) (λb10 hm=>?_)
  ·refine s_vn [] 1 ⟨[(2,vi 0),(3,vi 0)],[]⟩ ?_;obtain rfl:=oi hm;refine q_rt ?_;exact q_rm
  ·refine q_sk ?_;obtain⟨v11,h12,hm⟩:=qA hm;obtain⟨v13,h14,hm⟩:=qA hm;refine s_dn [qc 4 [25,27] 1 (qCv a1.Thick a1.Allow v11 h12),qc 9 [30,32] 1 (qCv a1.Width a1.Allow v13 h14)] [0,1,0,4,15,0,32,0,128,511,1023,2047] 1 ⟨[(2,vi v11),(3,vi v13)],[]⟩ ?_;obtain rfl:=oi hm;refine q_rt ?_;exact q_rm
 ·obtain⟨v2,h3,hm⟩:=qA hm;rcases bif_c hm with⟨b4,hm⟩|⟨b4,hm⟩
  ·refine q_vv [qc 2 [5] 1 (yM a1.Thick v2 h3),qf 4 b4] 1 [] [(23,vb true)] ?_;exact q_J (true) hm
  ·obtain⟨v5,h6,hm⟩:=qA hm;rcases bif_c hm with⟨b7,hm⟩|⟨b7,hm⟩
   ·refine q_vv [qc 2 [5] 1 (yM a1.Thick v2 h3),qf 4 b4,qk 7 [8,10] 1 ⟨[(8,vb false),(10,vi a1.Width)],[]⟩ (yM a1.Width v5 h6),qf 10 b7] 1 [] [(23,vb true)] ?_;exact q_J (true) hm
   ·rcases bif_c hm with⟨b8,hm⟩|⟨b8,hm⟩
    ·refine q_vv [qc 2 [5] 1 (yM a1.Thick v2 h3),qf 4 b4,qk 7 [8,10] 1 ⟨[(8,vb false),(10,vi a1.Width)],[]⟩ (yM a1.Width v5 h6),qf 10 b7,qf 15 b8] 1 [] [(23,vb true)] ?_;exact q_J (true) hm
    ·refine q_vv [qc 2 [5] 1 (yM a1.Thick v2 h3),qf 4 b4,qk 7 [8,10] 1 ⟨[(8,vb false),(10,vi a1.Width)],[]⟩ (yM a1.Width v5 h6),qf 10 b7,qf 15 b8] 1 [] [(23,vb (decide (a1.Allow>200)))] ?_;exact q_J (decide (a1.Allow>200)) hm
def yX (r:Int):V:=vi r
def yU (r:Int):List (Nat×(Nat×O)):=[]
def YA (a1:Product) (x18:Int):St:=
 ⟨[(1,vp 0 0),(70,vc (tl e_i64 default a1.Lengths)),(71,vi ((a1.Lengths.length:Nat):Int)),(72,vi x18)],[(0,bx 54 (qC a1))]⟩
def qBq (a1:Product) (x18:Int) (x26:Bool):St:=
 (YA a1 x18).up [] [(94,vb x26)] [] []
def qBn (a1:Product) (x18:Int) (x22:Bool):St:=
 (YA a1 x18).up [] [(5,vi x18),(6,vi (a1.Lengths.getD x18.toNat default)),(82,vb x22)] [] []
def XK (a1:Product) (x18:Int):St:=
 (YA a1 x18).up [] [] [] []
def BK (a1:Product):St:=
 ⟨[(1,vp 0 0)],[(0,bx 54 (qC a1))]⟩
def qBo (a1:Product) (x32:Int) (x36:Bool):St:=
 ⟨[(97,vc (tl e_i64 default a1.Prices)),(98,vi ((a1.Prices.length:Nat):Int)),(99,vi x32),(108,vb x36)],[]⟩
def XH (a1:Product) (x32:Int):St:=
 ⟨[(97,vc (tl e_i64 default a1.Prices)),(98,vi ((a1.Prices.length:Nat):Int)),(99,vi x32)],[]⟩
def BC :St:=
 ⟨[],[]⟩
def qBs (a1:Product) (x10:Bool):St:=
 ⟨[(1,vp 0 0),(46,vb x10)],[(0,bx 54 (qC a1))]⟩
def qBv (a1:Product) (x5:Bool):St:=
 ⟨[(1,vp 0 0),(28,vb x5)],[(0,bx 54 (qC a1))]⟩
theorem qAL (E:Env 0) (a1:Product):∀(n:Nat) (x18:Int) (res:Int⊕Unit),zG a1 n x18=some res->HL (kx E 110 0) (nd Tryz.f74 4084) (zW 0 (λo=>BK a1) (λv st=>RetQ Tryz.prog Tryz.f74 (yX v) (yU v) .ret st) res) n (XK a1 x18):=by
 intro n
 induction n with
 |zero=>
  intro x18 res hm;cases hm
 |succ n ih=>
  intro x18 res hm;refine qK ?_;refine s_va 1 [(73,vb (decide (x18<((a1.Lengths.length:Nat):Int))))] ?_;refine q_sq ?_;refine q_cm hm (λb19 hm=>?_) (λb19 hm=>?_)
  ·refine q_sk ?_;refine q_sq ?_;refine q_bk 1 ?_;obtain⟨g20,hm⟩:=qE hm;refine s_vv [qi 1 g20] 1 [73] [(5,vi x18),(6,vi (a1.Lengths.getD x18.toNat default))] ?_;refine q_sq ?_;refine q_jn (qBn a1 x18) (λp=>WF a1 x18 (zG a1 n) p=some res) ?_ ?_
   ·rintro x22 hm;refine q_cm hm (λb23 hm=>?_) (λb23 hm=>?_)
    ·refine s_vn [] 1 ⟨[(2,vi 9)],[]⟩ ?_;obtain rfl:=oi hm;refine q_rt ?_;refine qU 9 ?_;exact q_rm
    ·refine q_sk ?_;refine q_jn (qBq a1 x18) (λp=>WG x18 (zG a1 n) p=some res) ?_ ?_
     ·rintro x26 hm;refine q_cm hm (λb27 hm=>?_) (λb27 hm=>?_)
      ·refine s_vn [] 1 ⟨[(2,vi 11)],[]⟩ ?_;obtain rfl:=oi hm;refine q_rt ?_;refine qU 11 ?_;exact q_rm
      ·refine q_sk ?_;refine q_vv [] 1 [72,94] [(72,vi (w64 (x18+1)))] ?_;exact q_hl (XK a1 (w64 (x18+1))) (ih (w64 (x18+1)) _ hm)
     ·rcases bif_c hm with⟨b24,hm⟩|⟨b24,hm⟩
      ·obtain⟨g25,hm⟩:=qE hm;refine q_vv [qf 2 b24,qi 8 g25] 1 [5,6,82] [(94,vb (decide ((a1.Lengths.getD x18.toNat default)<=(a1.Lengths.getD (w64 (x18-1)).toNat default))))] ?_;exact q_J (decide ((a1.Lengths.getD x18.toNat default)<=(a1.Lengths.getD (w64 (x18-1)).toNat default))) hm
      ·refine q_vv [qf 2 b24] 1 [5,6,82] [(94,vb false)] ?_;exact q_J (false) hm
   ·rcases bif_c hm with⟨b21,hm⟩|⟨b21,hm⟩
    ·refine q_vv [qf 2 b21] 1 [] [(82,vb true)] ?_;exact q_J (true) hm
    ·refine q_vv [qf 2 b21] 1 [] [(82,vb (decide ((a1.Lengths.getD x18.toNat default)>20000)))] ?_;exact q_J (decide ((a1.Lengths.getD x18.toNat default)>20000)) hm
  ·refine q_ex 0 ?_;obtain rfl:=oi hm;exact wA () (by kernel_rfl) (by kernel_rfl)
theorem qAS (E:Env 0) (a1:Product):∀(n:Nat) (x32:Int) (res:Int⊕Unit),zM a1 n x32=some res->HL (kx E 110 0) (nd Tryz.f74 8180) (zW 2 (λo=>BC) (λv st=>RetQ Tryz.prog Tryz.f74 (yX v) (yU v) .ret st) res) n (XH a1 x32):=by
 intro n
 induction n with
 |zero=>
  intro x32 res hm;cases hm
 |succ n ih=>
  intro x32 res hm;refine qK ?_;refine s_va 1 [(100,vb (decide (x32<((a1.Prices.length:Nat):Int))))] ?_;refine q_sq ?_;refine q_cm hm (λb33 hm=>?_) (λb33 hm=>?_)
  ·refine q_sk ?_;refine q_sq ?_;refine q_bk 3 ?_;obtain⟨g34,hm⟩:=qE hm;refine s_vv [qi 0 g34] 1 [100] [(8,vi (a1.Prices.getD x32.toNat default))] ?_;refine q_jn (qBo a1 x32) (λp=>WI x32 (zM a1 n) p=some res) ?_ ?_
   ·rintro x36 hm;refine q_cm hm (λb37 hm=>?_) (λb37 hm=>?_)
    ·refine s_vn [] 1 ⟨[(2,vi 9)],[]⟩ ?_;obtain rfl:=oi hm;refine q_rt ?_;refine qU 9 ?_;exact q_rm
    ·refine q_sk ?_;refine q_vv [] 1 [99,108] [(99,vi (w64 (x32+1)))] ?_;exact q_hl (XH a1 (w64 (x32+1))) (ih (w64 (x32+1)) _ hm)
   ·rcases bif_c hm with⟨b35,hm⟩|⟨b35,hm⟩
    ·refine q_vv [qf 2 b35] 1 [8] [(108,vb true)] ?_;exact q_J (true) hm
    ·refine q_vv [qf 2 b35] 1 [8] [(108,vb (decide ((a1.Prices.getD x32.toNat default)>1000000)))] ?_;exact q_J (decide ((a1.Prices.getD x32.toNat default)>1000000)) hm
  ·refine q_ex 2 ?_;obtain rfl:=oi hm;exact wA () (by kernel_rfl) (by kernel_rfl)
theorem qCs (a1:Product) (r:Int) (hm:ZQ a1=some r):CtX Tryz.prog globs 74 0 0 [.agg (qC a1)] [] (yX r) (yU r):=by
 unfold ZQ at hm;refine q_E Tryz.f74 110 λE=>?_;refine s_vn [] 0 ⟨[(1,vp 0 0)],[(0,bx 54 (qC a1))]⟩ ?_;refine q_sq ?_;refine q_jn (qBv a1) (λp=>wY a1 p=some r) ?_ ?_
 ·rintro x5 hm;refine q_cm hm (λb6 hm=>?_) (λb6 hm=>?_)
  ·refine s_vn [] 1 ⟨[(2,vi 9)],[]⟩ ?_;obtain rfl:=oi hm;refine q_rt ?_;exact q_rm
  ·refine q_sk ?_;refine q_sq ?_;refine q_jn (qBs a1) (λp=>wX a1 p=some r) ?_ ?_
   ·rintro x10 hm;refine q_cm hm (λb11 hm=>?_) (λb11 hm=>?_)
    ·refine s_vn [] 1 ⟨[(2,vi 9)],[]⟩ ?_;obtain rfl:=oi hm;refine q_rt ?_;exact q_rm
    ·refine q_sk ?_;refine q_sq ?_;obtain⟨v12,h13,hm⟩:=qA hm;refine s_vv [qc 1 [48] 1 (GK a1 v12 h13)] 1 [46] [(4,vi v12.2)] ?_;refine s_vv [] 1 [4] [(53,vb (decide (v12.2>600)))] ?_;refine q_cm hm (λb14 hm=>?_) (λb14 hm=>?_)
     ·refine s_vn [] 1 ⟨[(2,vi 9)],[]⟩ ?_;obtain rfl:=oi hm;refine q_rt ?_;exact q_rm
     ·refine q_sk ?_;refine q_sq ?_;refine s_vv [] 1 [53] [(57,vb (((a1.Lengths.length:Nat):Int)==0))] ?_;refine q_cm hm (λb15 hm=>?_) (λb15 hm=>?_)
      ·refine s_vn [] 1 ⟨[(2,vi 3)],[]⟩ ?_;obtain rfl:=oi hm;refine q_rt ?_;exact q_rm
      ·refine q_sk ?_;refine q_sq ?_;refine s_vv [] 1 [57] [(61,vb (decide (((a1.Lengths.length:Nat):Int)>8)))] ?_;refine q_cm hm (λb16 hm=>?_) (λb16 hm=>?_)
       ·refine s_vn [] 1 ⟨[(2,vi 4)],[]⟩ ?_;obtain rfl:=oi hm;refine q_rt ?_;exact q_rm
       ·refine q_sk ?_;refine q_sq ?_;refine s_vv [] 1 [61] [(68,vb (((a1.Prices.length:Nat):Int) !=((a1.Lengths.length:Nat):Int)))] ?_;refine q_cm hm (λb17 hm=>?_) (λb17 hm=>?_)
        ·refine s_vn [] 1 ⟨[(2,vi 19)],[]⟩ ?_;obtain rfl:=oi hm;refine q_rt ?_;exact q_rm
        ·refine q_sk ?_;refine q_sq ?_;refine s_vv [] 1 [68] [(70,vc (tl e_i64 default a1.Lengths)),(71,vi ((a1.Lengths.length:Nat):Int)),(72,vi 0)] ?_;obtain⟨u30,h29,hm⟩:=qA hm;refine zA (nd Tryz.f74 4084) 0 (by kernel_rfl) FUEL (λo=>BK a1) (λv st=>RetQ Tryz.prog Tryz.f74 (yX v) (yU v) .ret st) u30 (q_hl (XK a1 0) (qAL E a1 FUEL 0 u30 h29)) ?_ ?_
         ·rintro v31 rfl st hr;obtain rfl:=oi hm;exact hr
         ·rintro o28 rfl;replace hm:_=some r:=hm;refine q_sq ?_;refine s_vn [] 1 ⟨[(97,vc (tl e_i64 default a1.Prices)),(98,vi ((a1.Prices.length:Nat):Int)),(99,vi 0)],[]⟩ ?_;obtain⟨u40,h39,hm⟩:=qA hm;refine zA (nd Tryz.f74 8180) 2 (by kernel_rfl) FUEL (λo=>BC) (λv st=>RetQ Tryz.prog Tryz.f74 (yX v) (yU v) .ret st) u40 (q_hl (XH a1 0) (qAS E a1 FUEL 0 u40 h39)) ?_ ?_
          ·rintro v41 rfl st hr;obtain rfl:=oi hm;exact hr
          ·rintro o38 rfl;replace hm:_=some r:=hm;refine s_vn [] 1 ⟨[(2,vi 0)],[]⟩ ?_;obtain rfl:=oi hm;refine q_rt ?_;exact q_rm
   ·rcases bif_c hm with⟨b7,hm⟩|⟨b7,hm⟩
    ·refine q_vv [qf 3 b7] 1 [28] [(46,vb true)] ?_;exact q_J (true) hm
    ·rcases bif_c hm with⟨b8,hm⟩|⟨b8,hm⟩
     ·refine q_vv [qf 3 b7,qf 8 b8] 1 [28] [(46,vb true)] ?_;exact q_J (true) hm
     ·rcases bif_c hm with⟨b9,hm⟩|⟨b9,hm⟩
      ·refine q_vv [qf 3 b7,qf 8 b8,qf 13 b9] 1 [28] [(46,vb true)] ?_;exact q_J (true) hm
      ·refine q_vv [qf 3 b7,qf 8 b8,qf 13 b9] 1 [28] [(46,vb (decide (a1.Wane>1000)))] ?_;exact q_J (decide (a1.Wane>1000)) hm
 ·rcases bif_c hm with⟨b2,hm⟩|⟨b2,hm⟩
  ·refine q_vv [qf 3 b2] 1 [] [(28,vb true)] ?_;exact q_J (true) hm
  ·rcases bif_c hm with⟨b3,hm⟩|⟨b3,hm⟩
   ·refine q_vv [qf 3 b2,qf 8 b3] 1 [] [(28,vb true)] ?_;exact q_J (true) hm
   ·rcases bif_c hm with⟨b4,hm⟩|⟨b4,hm⟩
    ·refine q_vv [qf 3 b2,qf 8 b3,qf 15 b4] 1 [] [(28,vb true)] ?_;exact q_J (true) hm
    ·refine q_vv [qf 3 b2,qf 8 b3,qf 15 b4] 1 [] [(28,vb (decide (a1.Width>600)))] ?_;exact q_J (decide (a1.Width>600)) hm
end Saw
end Go.SL

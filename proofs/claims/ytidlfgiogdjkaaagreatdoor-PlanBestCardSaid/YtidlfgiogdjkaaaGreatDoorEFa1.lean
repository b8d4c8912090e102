import Derived.Test.YtidlfgiogdjkaaaGreatDoorEBase
set_option linter.unusedVariables false
set_option linter.unusedSimpArgs false
namespace Go.SL
namespace Saw
open Go.Proofs
set_option maxHeartbeats 4000000
set_option maxRecDepth 100000
def qPu (r:Rect):V:=va (qE r)
def qO7 (r:Rect):List (Nat×(Nat×O)):=[]
theorem qAJ (a1:Rect) (a2:Int) (a3:Int) (r:Rect) (hm:GT a1 a2 a3=some r):CtX Tryz.prog globs 88 0 0 [.agg (qE a1),.one (ci a2),.one (ci a3)] [] (qPu r) (qO7 r):=by
 unfold GT at hm;refine q_E Tryz.f88 21 λE=>?_;refine s_vn [] 0 ⟨[(1,vi a2),(2,vi a3),(3,vp 0 0),(6,vp 1 0)],[(0,bx 33 (qE a1)),(1,bx 33 [ci 0,ci 0,ci 0,ci 0])]⟩ ?_;refine s_vn [] 2 ⟨[(6,vp 1 0)],[(1,bx 33 [ci a1.X.A,ci a1.X.B,ci (w64 (a1.Y.A+a2)),ci (w64 (a1.Y.A+a3))])]⟩ ?_;obtain rfl:=oi hm;refine q_rt ?_;exact q_rm
def qA7 (a1:List Node) (a2:List (List Node)) (r:(List (List Node))×(List (List Node))):V:=vo 0 0 1 r.2.length
def plan_collect_s1_o (a1:List Node) (a2:List (List Node)) (r:(List (List Node))×(List (List Node))):List (Nat×(Nat×O)):=[(0,ro 0 44 1 r.2.length (rf (qH e_Node) r.2))]
theorem qGl (a1:List Node) (a2:List (List Node)) (r:(List (List Node))×(List (List Node))) (hm:BR a1 a2=some r):CtX Tryz.prog globs 89 1 0 [.one (.own 0 0 1 a2.length),.one (tl e_Node default a1)] [(0,ro 0 44 1 a2.length (rf (qH e_Node) a2))] (qA7 a1 a2 r) (plan_collect_s1_o a1 a2 r):=by
 unfold BR at hm;refine q_E Tryz.f89 9 λE=>?_;refine s_vn [] 1 ⟨[(0,vo 0 0 1 a2.length),(1,vc (tl e_Node default a1))],[(0,ro 0 44 1 a2.length (rf (qH e_Node) a2))]⟩ ?_;obtain⟨g3,hm⟩:=qG hm
 refine s_vn [qd 2 (drw 1 0 (rf (qH e_Node) ([a1]:List (List Node)))) (litP (qH e_Node) default 1 (λ_=>rfl) ([a1]:List (List Node)) 1 rfl),qd 3 (drw 0 1 (rf (qH e_Node) (a2++([a1]:List (List Node))))) (apP (qH e_Node) default a2 ([a1]:List (List Node)) a2.length 1 1 24 (1<=1) (Nat.le_refl _) rfl rfl (λ_=>rfl) (zI g3))] 1 ⟨[(4,vo 0 1 1 (a2.length+1))],[(0,ro 1 44 1 (a2.length+1) (rf (qH e_Node) (a2++([a1]:List (List Node)))))]⟩ ?_
 refine q_fn [.len 0 ((a2++([a1]:List (List Node))).length)] ⟨[(4,vo 0 1 1 ((a2++([a1]:List (List Node))).length))],[(0,ro 1 44 1 ((a2++([a1]:List (List Node))).length) (rf (qH e_Node) (a2++([a1]:List (List Node)))))]⟩ (o1 (And.intro (Eq.symm (show(a2++([a1]:List (List Node))).length=(a2.length+1) from(len_app rfl rfl))) (Eq.symm (show(a2++([a1]:List (List Node))).length=(a2.length+1) from(len_app rfl rfl))))) ?_;obtain rfl:=oi hm;refine q_rt ?_;exact q_rm
def qHp (r:Bool):V:=vb r
def qHJ (r:Bool):List (Nat×(Nat×O)):=[]
def qEC (x3:Bool):St:=
 ⟨[(2,vb x3)],[]⟩
theorem qGz (a1:Span) (r:Bool) (hm:RS a1=some r):CtX Tryz.prog globs 203 0 0 [.agg (e_Span a1)] [] (qHp r) (qHJ r):=by
 unfold RS at hm;refine q_E Tryz.f203 17 λE=>?_;refine s_vn [] 0 ⟨[(1,vp 0 0)],[(0,bx 31 (e_Span a1))]⟩ ?_;refine q_jn (qEC) (λp=>RL p=some r) ?_ ?_
 ·rintro x3 hm;obtain rfl:=oi hm;refine q_rt ?_;exact q_rm
 ·rcases bif_c hm with⟨b2,hm⟩|⟨b2,hm⟩
  ·refine q_vn [qf 6 b2] 1 ⟨[(2,vb (decide ((imax a1.A a1.B)<=600)))],[]⟩ ?_;exact q_J (decide ((imax a1.A a1.B)<=600)) hm
  ·refine q_vn [qf 6 b2] 1 ⟨[(2,vb false)],[]⟩ ?_;exact q_J (false) hm
def qHE (r:Bool):V:=vb r
def qHu (r:Bool):List (Nat×(Nat×O)):=[]
theorem ZA (a1:Span) (r:Bool) (hm:ZL a1=some r):CtX Tryz.prog globs 143 0 0 [.agg (e_Span a1)] [] (qHE r) (qHu r):=by
 unfold ZL at hm;refine q_E Tryz.f143 8 λE=>?_;refine s_vn [] 0 ⟨[(1,vp 0 0)],[(0,bx 31 (e_Span a1))]⟩ ?_;refine s_vn [] 1 ⟨[(2,vb (decide (a1.A≥a1.B)))],[]⟩ ?_;obtain rfl:=oi hm;refine q_rt ?_;exact q_rm
def RG (r:Int):V:=vi r
def RY (r:Int):List (Nat×(Nat×O)):=[]
def FC (a1:qK) (x6:Int):St:=
 ⟨[(1,vp 0 0),(3,vi ((a1.Rows.length:Nat):Int)),(24,vc (tl e_Span default a1.Rows)),(25,vi ((a1.Rows.length:Nat):Int)),(26,vi x6)],[(0,bx 70 (zY a1))]⟩
def qAq (a1:qK):St:=
 ⟨[(1,vp 0 0),(3,vi ((a1.Rows.length:Nat):Int))],[(0,bx 70 (zY a1))]⟩
def qGE (a1:qK) (x27:Int) (x33:Bool):St:=
 ⟨[(54,vc (tl e_Span default a1.Rows)),(55,vi ((a1.Rows.length:Nat):Int)),(56,vi x27),(66,vb x33)],[]⟩
def NY (a1:qK) (x27:Int):St:=
 ⟨[(54,vc (tl e_Span default a1.Rows)),(55,vi ((a1.Rows.length:Nat):Int)),(56,vi x27)],[]⟩
def qAj :St:=
 ⟨[],[]⟩
def qGy (a1:qK) (x25:Bool):St:=
 ⟨[(1,vp 0 0),(52,vb x25)],[(0,bx 70 (zY a1))]⟩
def qF0 (a1:qK) (x4:Bool):St:=
 ⟨[(1,vp 0 0),(3,vi ((a1.Rows.length:Nat):Int)),(22,vb x4)],[(0,bx 70 (zY a1))]⟩
theorem qFk (E:Env 0) (a1:qK):∀(n:Nat) (x6:Int) (res:Int⊕Unit),QQ a1 n x6=some res->HL (kx E 68 0) (nd Tryz.f170 500) (wI 0 (λo=>qAq a1) (λv st=>RetQ Tryz.prog Tryz.f170 (RG v) (RY v) .ret st) res) n (FC a1 x6):=by
 intro n
 induction n with
 |zero=>
  intro x6 res hm;cases hm
 |succ n ih=>
  intro x6 res hm;refine qM ?_;refine s_va 1 [(27,vb (decide (x6<((a1.Rows.length:Nat):Int))))] ?_;refine q_sq ?_;refine q_cm hm (λb7 hm=>?_) (λb7 hm=>?_)
  ·refine q_sk ?_;refine q_sq ?_;refine q_bk 1 ?_;obtain⟨g8,hm⟩:=qG hm;refine s_vu [qi 0 g8] 1 [27] [(5,vp 1 0)] [] [(1,bx 31 [ci ((a1.Rows.getD x6.toNat default).A),ci ((a1.Rows.getD x6.toNat default).B)])] ?_;obtain⟨v9,h10,hm⟩:=qA hm;refine s_vu [qc 1 [30] 2 (qGz (a1.Rows.getD x6.toNat default) v9 h10)] 2 [5] [(32,vb (!v9))] [1] [] ?_;refine q_cm hm (λb11 hm=>?_) (λb11 hm=>?_)
   ·refine s_vn [] 2 ⟨[(2,vi 9)],[]⟩ ?_;obtain rfl:=oi hm;refine q_rt ?_;refine qY 9 ?_;exact q_rm
   ·refine q_sk ?_;refine q_vv [] 2 [26,32] [(26,vi (w64 (x6+1)))] ?_;exact q_hl (FC a1 (w64 (x6+1))) (ih (w64 (x6+1)) _ hm)
  ·refine q_ex 0 ?_;obtain rfl:=oi hm;exact wR () (by kernel_rfl) (by kernel_rfl)
theorem qE9 (E:Env 0) (a1:qK):∀(n:Nat) (x27:Int) (res:Int⊕Unit),jF a1 n x27=some res->HL (kx E 68 0) (nd Tryz.f170 4084) (wI 2 (λo=>qAj) (λv st=>RetQ Tryz.prog Tryz.f170 (RG v) (RY v) .ret st) res) n (NY a1 x27):=by
 intro n
 induction n with
 |zero=>
  intro x27 res hm;cases hm
 |succ n ih=>
  intro x27 res hm;refine qM ?_;refine s_va 1 [(57,vb (decide (x27<((a1.Rows.length:Nat):Int))))] ?_;refine q_sq ?_;refine q_cm hm (λb28 hm=>?_) (λb28 hm=>?_)
  ·refine q_sk ?_;refine q_sq ?_;refine q_bk 3 ?_;obtain⟨g29,hm⟩:=qG hm;refine s_vu [qi 0 g29] 1 [57] [(7,vp 1 0)] [] [(1,bx 31 [ci ((a1.Rows.getD x27.toNat default).A),ci ((a1.Rows.getD x27.toNat default).B)])] ?_;refine q_jn (qGE a1 x27) (λp=>DC x27 (jF a1 n) p=some res) ?_ ?_
   ·rintro x33 hm;refine q_cm hm (λb34 hm=>?_) (λb34 hm=>?_)
    ·refine s_vn [] 2 ⟨[(2,vi 19)],[]⟩ ?_;obtain rfl:=oi hm;refine q_rt ?_;refine qY 19 ?_;exact q_rm
    ·refine q_sk ?_;refine q_vv [] 2 [56,66] [(56,vi (w64 (x27+1)))] ?_;exact q_hl (NY a1 (w64 (x27+1))) (ih (w64 (x27+1)) _ hm)
   ·obtain⟨v30,h31,hm⟩:=qA hm;rcases bif_c hm with⟨b32,hm⟩|⟨b32,hm⟩
    ·refine q_vu [qc 1 [60] 2 (ZA (a1.Rows.getD x27.toNat default) v30 h31),qf 2 b32] 2 [7] [(66,vb (!((((a1.Rows.getD x27.toNat default).A)==0)&&((((a1.Rows.getD x27.toNat default).B)==0)&&true))))] [1] [] ?_;exact q_J (!((((a1.Rows.getD x27.toNat default).A)==0)&&((((a1.Rows.getD x27.toNat default).B)==0)&&true))) hm
    ·refine q_vu [qc 1 [60] 2 (ZA (a1.Rows.getD x27.toNat default) v30 h31),qf 2 b32] 2 [7] [(66,vb false)] [1] [] ?_;exact q_J (false) hm
  ·refine q_ex 2 ?_;obtain rfl:=oi hm;exact wR () (by kernel_rfl) (by kernel_rfl)
theorem qBD (a1:qK) (r:Int) (hm:PQ a1=some r):CtX Tryz.prog globs 170 0 0 [.agg (zY a1)] [] (RG r) (RY r):=by
 unfold PQ at hm;refine q_E Tryz.f170 68 λE=>?_;refine s_vn [] 0 ⟨[(1,vp 0 0)],[(0,bx 70 (zY a1))]⟩ ?_;refine s_va 1 [(3,vi ((a1.Rows.length:Nat):Int))] ?_;refine q_sq ?_;refine s_va 1 [(12,vb (decide (((a1.Rows.length:Nat):Int)>120)))] ?_;refine q_cm hm (λb2 hm=>?_) (λb2 hm=>?_)
 ·refine s_vn [] 1 ⟨[(2,vi 4)],[]⟩ ?_;obtain rfl:=oi hm;refine q_rt ?_;exact q_rm
 ·refine q_sk ?_;refine q_sq ?_;refine q_jn (qF0 a1) (λp=>DE a1 p=some r) ?_ ?_
  ·rintro x4 hm;refine q_cm hm (λb5 hm=>?_) (λb5 hm=>?_)
   ·refine s_vn [] 1 ⟨[(2,vi 9)],[]⟩ ?_;obtain rfl:=oi hm;refine q_rt ?_;exact q_rm
   ·refine q_sk ?_;refine q_sq ?_;refine s_vv [] 1 [22] [(24,vc (tl e_Span default a1.Rows)),(25,vi ((a1.Rows.length:Nat):Int)),(26,vi 0)] ?_;obtain⟨u14,h13,hm⟩:=qA hm;refine zQ (nd Tryz.f170 500) 0 (by kernel_rfl) FUEL (λo=>qAq a1) (λv st=>RetQ Tryz.prog Tryz.f170 (RG v) (RY v) .ret st) u14 (q_hl (FC a1 0) (qFk E a1 FUEL 0 u14 h13)) ?_ ?_
    ·rintro v15 rfl st hr;obtain rfl:=oi hm;exact hr
    ·rintro o12 rfl;replace hm:_=some r:=hm;refine q_sq ?_;refine s_va 1 [(35,vb (((a1.Rows.length:Nat):Int)==0))] ?_;refine q_cm hm (λb16 hm=>?_) (λb16 hm=>?_)
     ·refine q_sq ?_;refine s_vn [] 1 ⟨[(38,vb (a1.Low !=0))],[]⟩ ?_;refine q_cm hm (λb17 hm=>?_) (λb17 hm=>?_)
      ·refine s_vn [] 1 ⟨[(2,vi 19)],[]⟩ ?_;obtain rfl:=oi hm;refine q_rt ?_;exact q_rm
      ·refine q_sk ?_;refine s_vn [] 1 ⟨[(2,vi 0)],[]⟩ ?_;obtain rfl:=oi hm;refine q_rt ?_;exact q_rm
     ·refine q_sk ?_;refine q_sq ?_;refine q_jn (qGy a1) (λp=>GL a1 p=some r) ?_ ?_
      ·rintro x25 hm;refine q_cm hm (λb26 hm=>?_) (λb26 hm=>?_)
       ·refine s_vn [] 1 ⟨[(2,vi 19)],[]⟩ ?_;obtain rfl:=oi hm;refine q_rt ?_;exact q_rm
       ·refine q_sk ?_;refine q_sq ?_;refine s_vn [] 1 ⟨[(54,vc (tl e_Span default a1.Rows)),(55,vi ((a1.Rows.length:Nat):Int)),(56,vi 0)],[]⟩ ?_;obtain⟨u37,h36,hm⟩:=qA hm;refine zQ (nd Tryz.f170 4084) 2 (by kernel_rfl) FUEL (λo=>qAj) (λv st=>RetQ Tryz.prog Tryz.f170 (RG v) (RY v) .ret st) u37 (q_hl (NY a1 0) (qE9 E a1 FUEL 0 u37 h36)) ?_ ?_
        ·rintro v38 rfl st hr;obtain rfl:=oi hm;exact hr
        ·rintro o35 rfl;replace hm:_=some r:=hm;refine s_vn [] 1 ⟨[(2,vi 0)],[]⟩ ?_;obtain rfl:=oi hm;refine q_rt ?_;exact q_rm
      ·obtain⟨g18,hm⟩:=qG hm;obtain⟨v19,h20,hm⟩:=qA hm;rcases bif_c hm with⟨b21,hm⟩|⟨b21,hm⟩
       ·refine q_vv [qi 2 g18,qc 4 [42] 1 (ZA (a1.Rows.getD (0:Int).toNat default) v19 h20),qf 5 b21] 1 [3,35] [(52,vb true)] ?_;exact q_J (true) hm
       ·obtain⟨g22,hm⟩:=qG hm;obtain⟨v23,h24,hm⟩:=qA hm;refine q_vv [qi 2 g18,qc 4 [42] 1 (ZA (a1.Rows.getD (0:Int).toNat default) v19 h20),qf 5 b21,qi 10 g22,qk 12 [44,50] 1 ⟨[(44,vb false),(50,va [ci ((a1.Rows.getD (w64 (((a1.Rows.length:Nat):Int)-1)).toNat default).A),ci ((a1.Rows.getD (w64 (((a1.Rows.length:Nat):Int)-1)).toNat default).B)])],[]⟩ (ZA (a1.Rows.getD (w64 (((a1.Rows.length:Nat):Int)-1)).toNat default) v23 h24)] 1 [3,35] [(52,vb v23)] ?_;exact q_J (v23) hm
  ·rcases bif_c hm with⟨b3,hm⟩|⟨b3,hm⟩
   ·refine q_vv [qf 3 b3] 1 [12] [(22,vb true)] ?_;exact q_J (true) hm
   ·refine q_vv [qf 3 b3] 1 [12] [(22,vb (decide (a1.Low>(w64 (60-((a1.Rows.length:Nat):Int))))))] ?_;exact q_J (decide (a1.Low>(w64 (60-((a1.Rows.length:Nat):Int))))) hm
def qAD (r:Int):V:=vi r
def qAH (r:Int):List (Nat×(Nat×O)):=[]
def qIt (a1:List qB) (x4:Int) (x5:Int) (x13:Bool):St:=
 ⟨[(3,vi x4),(5,vp 0 0),(13,vc (tl qI default a1)),(14,vi ((a1.length:Nat):Int)),(15,vi x5),(39,vb x13)],[(0,bx 72 [ci ((a1.getD x5.toNat default).Len),ci (((a1.getD x5.toNat default).Sec).Low),tl e_Span default (((a1.getD x5.toNat default).Sec).Rows)])]⟩
def SH (a1:List qB) (x4:Int) (x5:Int):St:=
 ⟨[(3,vi x4),(13,vc (tl qI default a1)),(14,vi ((a1.length:Nat):Int)),(15,vi x5)],[]⟩
def qB4 :St:=
 ⟨[],[]⟩
theorem qHj (E:Env 0) (a1:List qB):∀(n:Nat) (x4:Int) (x5:Int) (res:Int⊕Unit),yO a1 n x4 x5=some res->HL (kx E 45 0) (nd Tryz.f122 500) (wI 0 (λo=>qB4) (λv st=>RetQ Tryz.prog Tryz.f122 (qAD v) (qAH v) .ret st) res) n (SH a1 x4 x5):=by
 intro n
 induction n with
 |zero=>
  intro x4 x5 res hm;cases hm
 |succ n ih=>
  intro x4 x5 res hm;refine qM ?_;refine s_va 0 [(16,vb (decide (x5<((a1.length:Nat):Int))))] ?_;refine q_sq ?_;refine q_cm hm (λb6 hm=>?_) (λb6 hm=>?_)
  ·refine q_sk ?_;refine q_sq ?_;refine q_bk 1 ?_;obtain⟨g7,hm⟩:=qG hm;refine s_vu [qi 0 g7] 0 [16] [(5,vp 0 0)] [] [(0,bx 72 [ci ((a1.getD x5.toNat default).Len),ci (((a1.getD x5.toNat default).Sec).Low),tl e_Span default (((a1.getD x5.toNat default).Sec).Rows)])] ?_;refine q_sq ?_;obtain⟨v8,h9,hm⟩:=qA hm;refine s_vv [qc 2 [20] 1 (qBD ((a1.getD x5.toNat default).Sec) v8 h9)] 1 [] [(6,vi v8)] ?_;refine s_va 1 [(23,vb (v8 !=0))] ?_;refine q_cm hm (λb10 hm=>?_) (λb10 hm=>?_)
   ·refine s_vn [] 1 ⟨[(2,vi v8)],[]⟩ ?_;obtain rfl:=oi hm;refine q_rt ?_;refine qY v8 ?_;exact q_rm
   ·refine q_sk ?_;refine q_sq ?_;refine s_vv [] 1 [6,23] [(29,vb ((((((a1.getD x5.toNat default).Sec).Rows).length:Nat):Int)==0))] ?_;refine q_cm hm (λb11 hm=>?_) (λb11 hm=>?_)
    ·refine s_vn [] 1 ⟨[(2,vi 18)],[]⟩ ?_;obtain rfl:=oi hm;refine q_rt ?_;refine qY 18 ?_;exact q_rm
    ·refine q_sk ?_;refine q_sq ?_;refine q_jn (qIt a1 x4 x5) (λp=>LR a1 x4 x5 (yO a1 n) p=some res) ?_ ?_
     ·rintro x13 hm;refine q_cm hm (λb14 hm=>?_) (λb14 hm=>?_)
      ·refine s_vn [] 1 ⟨[(2,vi 9)],[]⟩ ?_;obtain rfl:=oi hm;refine q_rt ?_;refine qY 9 ?_;exact q_rm
      ·refine q_sk ?_;refine q_vu [] 1 [3,5,39] [(3,vi (w64 (x4+((a1.getD x5.toNat default).Len))))] [0] [] ?_;refine q_vv [] 1 [15] [(15,vi (w64 (x5+1)))] ?_;exact q_hl (SH a1 (w64 (x4+((a1.getD x5.toNat default).Len))) (w64 (x5+1))) (ih (w64 (x4+((a1.getD x5.toNat default).Len))) (w64 (x5+1)) _ hm)
     ·rcases bif_c hm with⟨b12,hm⟩|⟨b12,hm⟩
      ·refine q_vv [qf 3 b12] 1 [29] [(39,vb true)] ?_;exact q_J (true) hm
      ·refine q_vv [qf 3 b12] 1 [29] [(39,vb (decide (((a1.getD x5.toNat default).Len)>(w64 (20000-x4)))))] ?_;exact q_J (decide (((a1.getD x5.toNat default).Len)>(w64 (20000-x4)))) hm
  ·refine q_ex 0 ?_;obtain rfl:=oi hm;exact wR () (by kernel_rfl) (by kernel_rfl)
theorem QU (a1:List qB) (r:Int) (hm:JS a1=some r):CtX Tryz.prog globs 122 0 0 [.one (tl qI default a1)] [] (qAD r) (qAH r):=by
 unfold JS at hm;refine q_E Tryz.f122 45 λE=>?_;refine s_vn [] 0 ⟨[(0,vc (tl qI default a1))],[]⟩ ?_;refine q_sq ?_;refine s_va 0 [(9,vb (((a1.length:Nat):Int)==0))] ?_;refine q_cm hm (λb2 hm=>?_) (λb2 hm=>?_)
 ·refine s_vn [] 0 ⟨[(2,vi 3)],[]⟩ ?_;obtain rfl:=oi hm;refine q_rt ?_;exact q_rm
 ·refine q_sk ?_;refine q_sq ?_;refine s_vv [] 0 [9] [(12,vb (decide (((a1.length:Nat):Int)>24)))] ?_;refine q_cm hm (λb3 hm=>?_) (λb3 hm=>?_)
  ·refine s_vn [] 0 ⟨[(2,vi 4)],[]⟩ ?_;obtain rfl:=oi hm;refine q_rt ?_;exact q_rm
  ·refine q_sk ?_;refine s_vv [] 0 [12] [(3,vi 0)] ?_;refine q_sq ?_;refine s_vv [] 0 [0] [(13,vc (tl qI default a1)),(14,vi ((a1.length:Nat):Int)),(15,vi 0)] ?_;obtain⟨u17,h16,hm⟩:=qA hm;refine zQ (nd Tryz.f122 500) 0 (by kernel_rfl) FUEL (λo=>qB4) (λv st=>RetQ Tryz.prog Tryz.f122 (qAD v) (qAH v) .ret st) u17 (q_hl (SH a1 0 0) (qHj E a1 FUEL 0 0 u17 h16)) ?_ ?_
   ·rintro v18 rfl st hr;obtain rfl:=oi hm;exact hr
   ·rintro o15 rfl;replace hm:_=some r:=hm;refine s_vn [] 0 ⟨[(2,vi 0)],[]⟩ ?_;obtain rfl:=oi hm;refine q_rt ?_;exact q_rm
def qJz (r:Bool):V:=vb r
def qJL (r:Bool):List (Nat×(Nat×O)):=[]
def qGt (x5:Bool):St:=
 ⟨[(6,vb x5)],[]⟩
theorem JE (a1:Span) (a2:Int) (a3:Int) (r:Bool) (hm:YZ a1 a2 a3=some r):CtX Tryz.prog globs 205 0 0 [.agg (e_Span a1),.one (ci a2),.one (ci a3)] [] (qJz r) (qJL r):=by
 unfold YZ at hm;refine q_E Tryz.f205 23 λE=>?_;refine s_vn [] 0 ⟨[(1,vi a2),(2,vi a3),(3,vp 0 0)],[(0,bx 31 (e_Span a1))]⟩ ?_;refine q_jn (qGt) (λp=>GZ p=some r) ?_ ?_
 ·rintro x5 hm;obtain rfl:=oi hm;refine q_rt ?_;exact q_rm
 ·rcases bif_c hm with⟨b4,hm⟩|⟨b4,hm⟩
  ·refine q_vn [qf 7 b4] 1 ⟨[(6,vb (decide ((imax a1.A a1.B)<=a3)))],[]⟩ ?_;exact q_J (decide ((imax a1.A a1.B)<=a3)) hm
  ·refine q_vn [qf 7 b4] 1 ⟨[(6,vb false)],[]⟩ ?_;exact q_J (false) hm
def qIl (r:Bool):V:=vb r
def qIJ (r:Bool):List (Nat×(Nat×O)):=[]
theorem zV (a1:Span) (r:Bool) (hm:yP a1=some r):CtX Tryz.prog globs 204 0 0 [.agg (e_Span a1)] [] (qIl r) (qIJ r):=by
 unfold yP at hm;refine q_E Tryz.f204 8 λE=>?_;refine s_vn [] 0 ⟨[(1,vp 0 0)],[(0,bx 31 (e_Span a1))]⟩ ?_;refine s_vn [] 1 ⟨[(2,vb (decide (a1.A≥a1.B)))],[]⟩ ?_;obtain rfl:=oi hm;refine q_rt ?_;exact q_rm
def qLm (r:Int):V:=vi r
def qLA (r:Int):List (Nat×(Nat×O)):=[]
def qHP (x23:Bool):St:=
 ⟨[(29,vb x23)],[]⟩
def qHA (a1:Defect) (x13:Bool):St:=
 ⟨[(3,vp 1 0),(15,vb x13)],[(1,bx 128 (ZV a1.Box))]⟩
def qHl (a1:Defect) (x3:Bool):St:=
 ⟨[(3,vp 1 0),(6,vb x3)],[(1,bx 128 (ZV a1.Box))]⟩
theorem qKz (a1:Defect) (r:Int) (hm:NN a1=some r):CtX Tryz.prog globs 171 0 0 [.agg (qJ a1)] [] (qLm r) (qLA r):=by
 unfold NN at hm;refine q_E Tryz.f171 46 λE=>?_;refine s_vn [] 0 ⟨[(1,vp 0 0)],[(0,bx 212 (qJ a1))]⟩ ?_;refine s_vu [] 1 [] [(3,vp 1 0)] [] [(1,bx 128 (ZV a1.Box))] ?_;refine q_sq ?_;refine q_bk 0 ?_;refine q_jn (qHl a1) (λp=>BU a1 p=some r) ?_ ?_
 ·rintro x3 hm;refine q_cm hm (λb4 hm=>?_) (λb4 hm=>?_)
  ·refine s_vn [] 2 ⟨[(2,vi 10)],[]⟩ ?_;obtain rfl:=oi hm;refine q_rt ?_;exact q_rm
  ·refine q_jn (qHA a1) (λp=>PX a1 p=some r) ?_ ?_
   ·rintro x13 hm;refine q_cm hm (λb14 hm=>?_) (λb14 hm=>?_)
    ·refine s_vn [] 2 ⟨[(2,vi 19)],[]⟩ ?_;obtain rfl:=oi hm;refine q_rt ?_;exact q_rm
    ·refine q_jn (qHP) (λp=>RF p=some r) ?_ ?_
     ·rintro x23 hm;refine q_cm hm (λb24 hm=>?_) (λb24 hm=>?_)
      ·refine s_vn [] 2 ⟨[(2,vi 9)],[]⟩ ?_;obtain rfl:=oi hm;refine q_rt ?_;exact q_rm
      ·refine q_sk ?_;refine s_vn [] 2 ⟨[(2,vi 0)],[]⟩ ?_;obtain rfl:=oi hm;refine q_rt ?_;exact q_rm
     ·obtain⟨v15,h16,hm⟩:=qA hm;rcases bif_c hm with⟨b17,hm⟩|⟨b17,hm⟩
      ·refine q_vn [qk 2 [31] 2 ⟨[(31,va (e_Span a1.Box.X))],[]⟩ (JE a1.Box.X (-600) 600 v15 h16),qf 4 b17] 2 ⟨[(29,vb true)],[]⟩ ?_;exact q_J (true) hm
      ·obtain⟨v18,h19,hm⟩:=qA hm;rcases bif_c hm with⟨b20,hm⟩|⟨b20,hm⟩
       ·refine q_vn [qk 2 [31] 2 ⟨[(31,va (e_Span a1.Box.X))],[]⟩ (JE a1.Box.X (-600) 600 v15 h16),qf 4 b17,qk 7 [34,36] 2 ⟨[(34,vb false),(36,va (e_Span a1.Box.Y))],[]⟩ (JE a1.Box.Y (-600) 600 v18 h19),qf 10 b20] 2 ⟨[(29,vb true)],[]⟩ ?_;exact q_J (true) hm
       ·obtain⟨v21,h22,hm⟩:=qA hm;refine q_vn [qk 2 [31] 2 ⟨[(31,va (e_Span a1.Box.X))],[]⟩ (JE a1.Box.X (-600) 600 v15 h16),qf 4 b17,qk 7 [34,36] 2 ⟨[(34,vb false),(36,va (e_Span a1.Box.Y))],[]⟩ (JE a1.Box.Y (-600) 600 v18 h19),qf 10 b20,qk 13 [40,42] 2 ⟨[(40,vb false),(42,va (e_Span a1.Box.Z))],[]⟩ (JE a1.Box.Z 0 20000 v21 h22)] 2 ⟨[(29,vb (!v21))],[]⟩ ?_;exact q_J (!v21) hm
   ·obtain⟨v5,h6,hm⟩:=qA hm;rcases bif_c hm with⟨b7,hm⟩|⟨b7,hm⟩
    ·refine q_vv [qc 2 [17] 2 (zV a1.Box.X v5 h6),qf 3 b7] 2 [6] [(15,vb true)] ?_;exact q_J (true) hm
    ·obtain⟨v8,h9,hm⟩:=qA hm;rcases bif_c hm with⟨b10,hm⟩|⟨b10,hm⟩
     ·refine q_vv [qc 2 [17] 2 (zV a1.Box.X v5 h6),qf 3 b7,qk 6 [19,21] 2 ⟨[(19,vb false),(21,va (e_Span a1.Box.Y))],[]⟩ (zV a1.Box.Y v8 h9),qf 8 b10] 2 [6] [(15,vb true)] ?_;exact q_J (true) hm
     ·obtain⟨v11,h12,hm⟩:=qA hm;refine q_vv [qc 2 [17] 2 (zV a1.Box.X v5 h6),qf 3 b7,qk 6 [19,21] 2 ⟨[(19,vb false),(21,va (e_Span a1.Box.Y))],[]⟩ (zV a1.Box.Y v8 h9),qf 8 b10,qk 11 [24,26] 2 ⟨[(24,vb false),(26,va (e_Span a1.Box.Z))],[]⟩ (zV a1.Box.Z v11 h12)] 2 [6] [(15,vb v11)] ?_;exact q_J (v11) hm
 ·rcases bif_c hm with⟨b2,hm⟩|⟨b2,hm⟩
  ·refine q_vu [qf 3 b2] 2 [1] [(6,vb true)] [0] [] ?_;exact q_J (true) hm
  ·refine q_vu [qf 3 b2] 2 [1] [(6,vb (decide (a1.Kind>6)))] [0] [] ?_;exact q_J (decide (a1.Kind>6)) hm
def IM (r:Int):V:=vi r
def OJ (r:Int):List (Nat×(Nat×O)):=[]
def MG (a1:List Defect) (x3:Int):St:=
 ⟨[(9,vc (tl qJ default a1)),(10,vi ((a1.length:Nat):Int)),(11,vi x3)],[]⟩
def qAV :St:=
 ⟨[],[]⟩
theorem qFX (E:Env 0) (a1:List Defect):∀(n:Nat) (x3:Int) (res:Int⊕Unit),ZJ a1 n x3=some res->HL (kx E 21 0) (nd Tryz.f123 116) (wI 0 (λo=>qAV) (λv st=>RetQ Tryz.prog Tryz.f123 (IM v) (OJ v) .ret st) res) n (MG a1 x3):=by
 intro n
 induction n with
 |zero=>
  intro x3 res hm;cases hm
 |succ n ih=>
  intro x3 res hm;refine qM ?_;refine s_va 0 [(12,vb (decide (x3<((a1.length:Nat):Int))))] ?_;refine q_sq ?_;refine q_cm hm (λb4 hm=>?_) (λb4 hm=>?_)
  ·refine q_sk ?_;refine q_sq ?_;refine q_bk 1 ?_;obtain⟨g5,hm⟩:=qG hm;refine s_vu [qi 0 g5] 0 [12] [(4,vp 0 0)] [] [(0,bx 212 [ci ((a1.getD x3.toNat default).Kind),ci ((((a1.getD x3.toNat default).Box).X).A),ci ((((a1.getD x3.toNat default).Box).X).B),ci ((((a1.getD x3.toNat default).Box).Y).A),ci ((((a1.getD x3.toNat default).Box).Y).B),ci ((((a1.getD x3.toNat default).Box).Z).A),ci ((((a1.getD x3.toNat default).Box).Z).B)])] ?_;obtain⟨v6,h7,hm⟩:=qA hm;refine s_vu [qc 1 [15] 1 (qKz (a1.getD x3.toNat default) v6 h7)] 1 [4] [(5,vi v6)] [0] [] ?_;refine s_va 1 [(18,vb (v6 !=0))] ?_
   refine q_cm hm (λb8 hm=>?_) (λb8 hm=>?_)
   ·refine s_vn [] 1 ⟨[(2,vi v6)],[]⟩ ?_;obtain rfl:=oi hm;refine q_rt ?_;refine qY v6 ?_;exact q_rm
   ·refine q_sk ?_;refine q_vv [] 1 [5,11,18] [(11,vi (w64 (x3+1)))] ?_;exact q_hl (MG a1 (w64 (x3+1))) (ih (w64 (x3+1)) _ hm)
  ·refine q_ex 0 ?_;obtain rfl:=oi hm;exact wR () (by kernel_rfl) (by kernel_rfl)
theorem YT (a1:List Defect) (r:Int) (hm:YC a1=some r):CtX Tryz.prog globs 123 0 0 [.one (tl qJ default a1)] [] (IM r) (OJ r):=by
 unfold YC at hm;refine q_E Tryz.f123 21 λE=>?_;refine s_vn [] 0 ⟨[(0,vc (tl qJ default a1))],[]⟩ ?_;refine q_sq ?_;refine s_va 0 [(8,vb (decide (((a1.length:Nat):Int)>64)))] ?_;refine q_cm hm (λb2 hm=>?_) (λb2 hm=>?_)
 ·refine s_vn [] 0 ⟨[(2,vi 4)],[]⟩ ?_;obtain rfl:=oi hm;refine q_rt ?_;exact q_rm
 ·refine q_sk ?_;refine q_sq ?_;refine s_vn [] 0 ⟨[(9,vc (tl qJ default a1)),(10,vi ((a1.length:Nat):Int)),(11,vi 0)],[]⟩ ?_;obtain⟨u11,h10,hm⟩:=qA hm;refine zQ (nd Tryz.f123 116) 0 (by kernel_rfl) FUEL (λo=>qAV) (λv st=>RetQ Tryz.prog Tryz.f123 (IM v) (OJ v) .ret st) u11 (q_hl (MG a1 0) (qFX E a1 FUEL 0 u11 h10)) ?_ ?_
  ·rintro v12 rfl st hr;obtain rfl:=oi hm;exact hr
  ·rintro o9 rfl;replace hm:_=some r:=hm;refine s_vn [] 0 ⟨[(2,vi 0)],[]⟩ ?_;obtain rfl:=oi hm;refine q_rt ?_;exact q_rm
def qKf (r:Bool):V:=vb r
def qKq (r:Bool):List (Nat×(Nat×O)):=[]
def qFx (x3:Bool):St:=
 ⟨[(2,vb x3)],[]⟩
theorem GF (a1:Int) (r:Bool) (hm:PM a1=some r):CtX Tryz.prog globs 129 0 0 [.one (.val (.int .u8 a1))] [] (qKf r) (qKq r):=by
 unfold PM at hm;refine q_E Tryz.f129 9 λE=>?_;refine s_vn [] 0 ⟨[(0,vc (.val (.int .u8 a1)))],[]⟩ ?_;refine q_jn (qFx) (λp=>GQ p=some r) ?_ ?_
 ·rintro x3 hm;obtain rfl:=oi hm;refine q_rt ?_;exact q_rm
 ·rcases bif_c hm with⟨b2,hm⟩|⟨b2,hm⟩
  ·refine q_vn [qf 2 b2] 0 ⟨[(2,vb (decide (a1<=122)))],[]⟩ ?_;exact q_J (decide (a1<=122)) hm
  ·refine q_vn [qf 2 b2] 0 ⟨[(2,vb false)],[]⟩ ?_;exact q_J (false) hm
def qK0 (r:Bool):V:=vb r
def qK4 (r:Bool):List (Nat×(Nat×O)):=[]
def qGi (x3:Bool):St:=
 ⟨[(2,vb x3)],[]⟩
theorem qBT (a1:Int) (r:Bool) (hm:DK a1=some r):CtX Tryz.prog globs 130 0 0 [.one (.val (.int .u8 a1))] [] (qK0 r) (qK4 r):=by
 unfold DK at hm;refine q_E Tryz.f130 9 λE=>?_;refine s_vn [] 0 ⟨[(0,vc (.val (.int .u8 a1)))],[]⟩ ?_;refine q_jn (qGi) (λp=>DH p=some r) ?_ ?_
 ·rintro x3 hm;obtain rfl:=oi hm;refine q_rt ?_;exact q_rm
 ·rcases bif_c hm with⟨b2,hm⟩|⟨b2,hm⟩
  ·refine q_vn [qf 2 b2] 0 ⟨[(2,vb (decide (a1<=57)))],[]⟩ ?_;exact q_J (decide (a1<=57)) hm
  ·refine q_vn [qf 2 b2] 0 ⟨[(2,vb false)],[]⟩ ?_;exact q_J (false) hm
def OR (r:Bool):V:=vb r
def IS (r:Bool):List (Nat×(Nat×O)):=[]
def qHz (a1:ByteArray) (x9:Int) (x18:Bool):St:=
 ⟨[(0,vc (cs a1)),(3,vi x9),(39,vb x18)],[]⟩
def MP (a1:ByteArray) (x9:Int):St:=
 ⟨[(0,vc (cs a1)),(3,vi x9)],[]⟩
def qA5 :St:=
 ⟨[],[]⟩
def qHn (a1:ByteArray) (x7:Bool):St:=
 ⟨[(0,vc (cs a1)),(18,vb x7)],[]⟩
theorem qFZ (E:Env 0) (a1:ByteArray):∀(n:Nat) (x9:Int) (res:Bool⊕Unit),jB a1 n x9=some res->HL (kx E 40 0) (nd Tryz.f72 116) (wI 0 (λo=>qA5) (λv st=>RetQ Tryz.prog Tryz.f72 (OR v) (IS v) .ret st) res) n (MP a1 x9):=by
 intro n
 induction n with
 |zero=>
  intro x9 res hm;cases hm
 |succ n ih=>
  intro x9 res hm;refine qM ?_;refine q_sq ?_;refine s_va 0 [(22,vb (decide (x9<((a1.size:Nat):Int))))] ?_;refine q_cm hm (λb10 hm=>?_) (λb10 hm=>?_)
  ·refine q_sk ?_;refine q_sq ?_;refine q_bk 1 ?_;obtain⟨g11,hm⟩:=qG hm;refine s_vv [qi 2 g11] 0 [22] [(4,vc (.val (.int .u8 (strAt a1 x9.toNat))))] ?_;refine q_jn (qHz a1 x9) (λp=>RR x9 (jB a1 n) p=some res) ?_ ?_
   ·rintro x18 hm;refine q_cm hm (λb19 hm=>?_) (λb19 hm=>?_)
    ·refine s_vn [] 0 ⟨[(2,vb false)],[]⟩ ?_;obtain rfl:=oi hm;refine q_rt ?_;refine qY false ?_;exact q_rm
    ·refine q_sk ?_;refine q_vv [] 0 [3,39] [(3,vi (w64 (x9+1)))] ?_;exact q_hl (MP a1 (w64 (x9+1))) (ih (w64 (x9+1)) _ hm)
   ·obtain⟨v12,h13,hm⟩:=qA hm;rcases bif_c hm with⟨b14,hm⟩|⟨b14,hm⟩
    ·obtain⟨v15,h16,hm⟩:=qA hm;rcases bif_c hm with⟨b17,hm⟩|⟨b17,hm⟩
     ·refine q_vv [qc 1 [28] 0 (GF (strAt a1 x9.toNat) v12 h13),qf 3 b14,qk 5 [31,32] 0 ⟨[(31,vb true),(32,vc (.val (.int .u8 (strAt a1 x9.toNat))))],[]⟩ (qBT (strAt a1 x9.toNat) v15 h16),qf 8 b17] 0 [4] [(39,vb ((strAt a1 x9.toNat) !=95))] ?_;exact q_J ((strAt a1 x9.toNat) !=95) hm
     ·refine q_vv [qc 1 [28] 0 (GF (strAt a1 x9.toNat) v12 h13),qf 3 b14,qk 5 [31,32] 0 ⟨[(31,vb true),(32,vc (.val (.int .u8 (strAt a1 x9.toNat))))],[]⟩ (qBT (strAt a1 x9.toNat) v15 h16),qf 8 b17] 0 [4] [(39,vb false)] ?_;exact q_J (false) hm
    ·refine q_vv [qc 1 [28] 0 (GF (strAt a1 x9.toNat) v12 h13),qf 3 b14] 0 [4] [(39,vb false)] ?_;exact q_J (false) hm
  ·refine q_ex 0 ?_;obtain rfl:=oi hm;exact wR () (by kernel_rfl) (by kernel_rfl)
theorem qKm (a1:ByteArray) (r:Bool) (hm:NB a1=some r):CtX Tryz.prog globs 72 0 0 [.one (cs a1)] [] (OR r) (IS r):=by
 unfold NB at hm;refine q_E Tryz.f72 40 λE=>?_;refine s_vn [] 0 ⟨[(0,vc (cs a1))],[]⟩ ?_;refine q_sq ?_;refine q_jn (qHn a1) (λp=>RX a1 p=some r) ?_ ?_
 ·rintro x7 hm;refine q_cm hm (λb8 hm=>?_) (λb8 hm=>?_)
  ·refine s_vn [] 0 ⟨[(2,vb false)],[]⟩ ?_;obtain rfl:=oi hm;refine q_rt ?_;exact q_rm
  ·refine q_sk ?_;refine q_sq ?_;refine s_vv [] 0 [18] [(3,vi 1)] ?_;obtain⟨u22,h21,hm⟩:=qA hm;refine zQ (nd Tryz.f72 116) 0 (by kernel_rfl) FUEL (λo=>qA5) (λv st=>RetQ Tryz.prog Tryz.f72 (OR v) (IS v) .ret st) u22 (q_hl (MP a1 1) (qFZ E a1 FUEL 1 u22 h21)) ?_ ?_
   ·rintro v23 rfl st hr;obtain rfl:=oi hm;exact hr
   ·rintro o20 rfl;replace hm:_=some r:=hm;refine s_vn [] 0 ⟨[(2,vb true)],[]⟩ ?_;obtain rfl:=oi hm;refine q_rt ?_;exact q_rm
 ·rcases bif_c hm with⟨b2,hm⟩|⟨b2,hm⟩
  ·refine q_vv [qf 3 b2] 0 [] [(18,vb true)] ?_;exact q_J (true) hm
  ·rcases bif_c hm with⟨b3,hm⟩|⟨b3,hm⟩
   ·refine q_vv [qf 3 b2,qf 8 b3] 0 [] [(18,vb true)] ?_;exact q_J (true) hm
   ·obtain⟨g4,hm⟩:=qG hm;obtain⟨v5,h6,hm⟩:=qA hm;refine q_vv [qf 3 b2,qf 8 b3,qi 10 g4,qk 11 [13,15] 0 ⟨[(13,vb false),(15,vc (.val (.int .u8 (strAt a1 ((0:Int).toNat)))))],[]⟩ (GF (strAt a1 ((0:Int).toNat)) v5 h6)] 0 [] [(18,vb (!v5))] ?_;exact q_J (!v5) hm
def CA (r:Int×Bool):V:= .tup [.one (ci r.1),.one (cb r.2)]
def OS (r:Int×Bool):List (Nat×(Nat×O)):=[]
def MF (a1:List Product) (a2:ByteArray) (x3:Int):St:=
 ⟨[(1,vc (cs a2)),(8,vc (tl qC default a1)),(9,vi ((a1.length:Nat):Int)),(10,vi x3)],[]⟩
def qAW :St:=
 ⟨[],[]⟩
theorem qGP (E:Env 0) (a1:List Product) (a2:ByteArray):∀(n:Nat) (x3:Int) (res:(Int×Bool)⊕Unit),ZG a1 a2 n x3=some res->HL (kx E 21 0) (nd Tryz.f73 52) (wI 0 (λo=>qAW) (λv st=>RetQ Tryz.prog Tryz.f73 (CA v) (OS v) .ret st) res) n (MF a1 a2 x3):=by
 intro n
 induction n with
 |zero=>
  intro x3 res hm;cases hm
 |succ n ih=>
  intro x3 res hm;refine qM ?_;refine s_va 0 [(11,vb (decide (x3<((a1.length:Nat):Int))))] ?_;refine q_sq ?_;refine q_cm hm (λb4 hm=>?_) (λb4 hm=>?_)
  ·refine q_sk ?_;refine q_sq ?_;refine q_bk 1 ?_;obtain⟨g5,hm⟩:=qG hm;refine s_vu [qi 1 g5] 0 [11] [(6,vi x3),(7,vp 0 0)] [] [(0,bx 54 [cs ((a1.getD x3.toNat default).Name),ci ((a1.getD x3.toNat default).Thick),ci ((a1.getD x3.toNat default).Width),ci ((a1.getD x3.toNat default).Allow),ci ((a1.getD x3.toNat default).Wane),tl e_i64 default ((a1.getD x3.toNat default).Lengths),tl e_i64 default ((a1.getD x3.toNat default).Prices)])] ?_;refine s_vu [] 1 [7] [(18,vb (strEq ((a1.getD x3.toNat default).Name) a2))] [0] [] ?_;refine q_cm hm (λb6 hm=>?_) (λb6 hm=>?_)
   ·refine s_vn [] 1 ⟨[(4,vi x3),(5,vb true)],[]⟩ ?_;obtain rfl:=oi hm;refine q_rt ?_;refine qY (x3,true) ?_;exact q_rm
   ·refine q_sk ?_;refine q_vv [] 1 [6,10,18] [(10,vi (w64 (x3+1)))] ?_;exact q_hl (MF a1 a2 (w64 (x3+1))) (ih (w64 (x3+1)) _ hm)
  ·refine q_ex 0 ?_;obtain rfl:=oi hm;exact wR () (by kernel_rfl) (by kernel_rfl)
theorem qKa (a1:List Product) (a2:ByteArray) (r:Int×Bool) (hm:FT a1 a2=some r):CtX Tryz.prog globs 73 0 0 [.one (tl qC default a1),.one (cs a2)] [] (CA r) (OS r):=by
 unfold FT at hm;refine q_E Tryz.f73 21 λE=>?_;refine s_vn [] 0 ⟨[(0,vc (tl qC default a1)),(1,vc (cs a2))],[]⟩ ?_;refine q_sq ?_;refine s_vv [] 0 [0] [(8,vc (tl qC default a1)),(9,vi ((a1.length:Nat):Int)),(10,vi 0)] ?_;obtain⟨u9,h8,hm⟩:=qA hm;refine zQ (nd Tryz.f73 52) 0 (by kernel_rfl) FUEL (λo=>qAW) (λv st=>RetQ Tryz.prog Tryz.f73 (CA v) (OS v) .ret st) u9 (q_hl (MF a1 a2 0) (qGP E a1 a2 FUEL 0 u9 h8)) ?_ ?_
 ·rintro v10 rfl st hr;obtain rfl:=oi hm;exact hr
 ·rintro o7 rfl;replace hm:_=some r:=hm;refine s_vn [] 0 ⟨[(4,vi 0),(5,vb false)],[]⟩ ?_;obtain rfl:=oi hm;refine q_rt ?_;exact q_rm
def qL6 (r:Int):V:=vi r
def qK9 (r:Int):List (Nat×(Nat×O)):=[]
theorem qCH (a1:Int) (a2:Int) (r:Int) (hm:NK a1 a2=some r):CtX Tryz.prog globs 76 0 0 [.one (ci a1),.one (ci a2)] [] (qL6 r) (qK9 r):=by
 unfold NK at hm;refine q_E Tryz.f76 11 λE=>?_;refine s_vn [] 0 ⟨[(0,vi a1),(1,vi a2)],[]⟩ ?_;refine s_vn [qd 5 dN (show(1000:Int)≠0 by decide)] 0 ⟨[(4,vi (w64 (Int.tdiv (w64 ((w64 (a1*(w64 (1000+a2))))+999)) 1000)))],[]⟩ ?_;obtain rfl:=oi hm;refine q_rt ?_;exact q_rm
def qIU (r:Bool):V:=vb r
def qIS (r:Bool):List (Nat×(Nat×O)):=[]
def qFd (x3:Bool):St:=
 ⟨[(2,vb x3)],[]⟩
theorem yV (a1:Int) (r:Bool) (hm:XZ a1=some r):CtX Tryz.prog globs 75 0 0 [.one (ci a1)] [] (qIU r) (qIS r):=by
 unfold XZ at hm;refine q_E Tryz.f75 9 λE=>?_;refine s_vn [] 0 ⟨[(0,vi a1)],[]⟩ ?_;refine q_jn (qFd) (λp=>TN p=some r) ?_ ?_
 ·rintro x3 hm;obtain rfl:=oi hm;refine q_rt ?_;exact q_rm
 ·rcases bif_c hm with⟨b2,hm⟩|⟨b2,hm⟩
  ·refine q_vn [qf 2 b2] 0 ⟨[(2,vb (decide (a1<=600)))],[]⟩ ?_;exact q_J (decide (a1<=600)) hm
  ·refine q_vn [qf 2 b2] 0 ⟨[(2,vb false)],[]⟩ ?_;exact q_J (false) hm
def qJN (r:Int×Int):V:= .tup [.one (ci r.1),.one (ci r.2)]
def qJI (r:Int×Int):List (Nat×(Nat×O)):=[]
def qFU (a1:Product) (x9:Bool):St:=
 ⟨[(1,vp 0 0),(23,vb x9)],[(0,bx 54 (qC a1))]⟩
theorem KJ (a1:Product) (r:Int×Int) (hm:QP a1=some r):CtX Tryz.prog globs 31 0 0 [.agg (qC a1)] [] (qJN r) (qJI r):=by
 unfold QP at hm;refine q_E Tryz.f31 34 λE=>?_;refine s_vn [] 0 ⟨[(1,vp 0 0)],[(0,bx 54 (qC a1))]⟩ ?_;refine q_sq ?_;refine q_jn (qFU a1) (λp=>WW a1 p=some r) ?_ ?_
 ·rintro x9 hm;refine q_cm hm (λb10 hm=>?_) (λb10 hm=>?_)
  ·refine s_vn [] 1 ⟨[(2,vi 0),(3,vi 0)],[]⟩ ?_;obtain rfl:=oi hm;refine q_rt ?_;exact q_rm
  ·refine q_sk ?_;obtain⟨v11,h12,hm⟩:=qA hm;obtain⟨v13,h14,hm⟩:=qA hm;refine s_dn [qc 4 [25,27] 1 (qCH a1.Thick a1.Allow v11 h12),qc 9 [30,32] 1 (qCH a1.Width a1.Allow v13 h14)] [0,1,0,4,15,0,32,0,128,511,1023,2047] 1 ⟨[(2,vi v11),(3,vi v13)],[]⟩ ?_;obtain rfl:=oi hm;refine q_rt ?_;exact q_rm
 ·obtain⟨v2,h3,hm⟩:=qA hm;rcases bif_c hm with⟨b4,hm⟩|⟨b4,hm⟩
  ·refine q_vv [qc 2 [5] 1 (yV a1.Thick v2 h3),qf 4 b4] 1 [] [(23,vb true)] ?_;exact q_J (true) hm
  ·obtain⟨v5,h6,hm⟩:=qA hm;rcases bif_c hm with⟨b7,hm⟩|⟨b7,hm⟩
   ·refine q_vv [qc 2 [5] 1 (yV a1.Thick v2 h3),qf 4 b4,qk 7 [8,10] 1 ⟨[(8,vb false),(10,vi a1.Width)],[]⟩ (yV a1.Width v5 h6),qf 10 b7] 1 [] [(23,vb true)] ?_;exact q_J (true) hm
   ·rcases bif_c hm with⟨b8,hm⟩|⟨b8,hm⟩
    ·refine q_vv [qc 2 [5] 1 (yV a1.Thick v2 h3),qf 4 b4,qk 7 [8,10] 1 ⟨[(8,vb false),(10,vi a1.Width)],[]⟩ (yV a1.Width v5 h6),qf 10 b7,qf 15 b8] 1 [] [(23,vb true)] ?_;exact q_J (true) hm
    ·refine q_vv [qc 2 [5] 1 (yV a1.Thick v2 h3),qf 4 b4,qk 7 [8,10] 1 ⟨[(8,vb false),(10,vi a1.Width)],[]⟩ (yV a1.Width v5 h6),qf 10 b7,qf 15 b8] 1 [] [(23,vb (decide (a1.Allow>200)))] ?_;exact q_J (decide (a1.Allow>200)) hm
def QH (r:Int):V:=vi r
def QI (r:Int):List (Nat×(Nat×O)):=[]
def YF (a1:Product) (x18:Int):St:=
 ⟨[(1,vp 0 0),(70,vc (tl e_i64 default a1.Lengths)),(71,vi ((a1.Lengths.length:Nat):Int)),(72,vi x18)],[(0,bx 54 (qC a1))]⟩
def qBh (a1:Product) (x18:Int) (x26:Bool):St:=
 (YF a1 x18).up [] [(94,vb x26)] [] []
def qBn (a1:Product) (x18:Int) (x22:Bool):St:=
 (YF a1 x18).up [] [(5,vi x18),(6,vi (a1.Lengths.getD x18.toNat default)),(82,vb x22)] [] []
def XK (a1:Product) (x18:Int):St:=
 (YF a1 x18).up [] [] [] []
def BY (a1:Product):St:=
 ⟨[(1,vp 0 0)],[(0,bx 54 (qC a1))]⟩
def qBu (a1:Product) (x32:Int) (x36:Bool):St:=
 ⟨[(97,vc (tl e_i64 default a1.Prices)),(98,vi ((a1.Prices.length:Nat):Int)),(99,vi x32),(108,vb x36)],[]⟩
def XG (a1:Product) (x32:Int):St:=
 ⟨[(97,vc (tl e_i64 default a1.Prices)),(98,vi ((a1.Prices.length:Nat):Int)),(99,vi x32)],[]⟩
def BP :St:=
 ⟨[],[]⟩
def qBr (a1:Product) (x10:Bool):St:=
 ⟨[(1,vp 0 0),(46,vb x10)],[(0,bx 54 (qC a1))]⟩
def qBs (a1:Product) (x5:Bool):St:=
 ⟨[(1,vp 0 0),(28,vb x5)],[(0,bx 54 (qC a1))]⟩
theorem qAM (E:Env 0) (a1:Product):∀(n:Nat) (x18:Int) (res:Int⊕Unit),zJ a1 n x18=some res->HL (kx E 110 0) (nd Tryz.f74 4084) (wI 0 (λo=>BY a1) (λv st=>RetQ Tryz.prog Tryz.f74 (QH v) (QI v) .ret st) res) n (XK a1 x18):=by
 intro n
 induction n with
 |zero=>
  intro x18 res hm;cases hm
 |succ n ih=>
  intro x18 res hm;refine qM ?_;refine s_va 1 [(73,vb (decide (x18<((a1.Lengths.length:Nat):Int))))] ?_;refine q_sq ?_;refine q_cm hm (λb19 hm=>?_) (λb19 hm=>?_)
  ·refine q_sk ?_;refine q_sq ?_;refine q_bk 1 ?_;obtain⟨g20,hm⟩:=qG hm;refine s_vv [qi 1 g20] 1 [73] [(5,vi x18),(6,vi (a1.Lengths.getD x18.toNat default))] ?_;refine q_sq ?_;refine q_jn (qBn a1 x18) (λp=>WH a1 x18 (zJ a1 n) p=some res) ?_ ?_
   ·rintro x22 hm;refine q_cm hm (λb23 hm=>?_) (λb23 hm=>?_)
    ·refine s_vn [] 1 ⟨[(2,vi 9)],[]⟩ ?_;obtain rfl:=oi hm;refine q_rt ?_;refine qY 9 ?_;exact q_rm
    ·refine q_sk ?_;refine q_jn (qBh a1 x18) (λp=>WK x18 (zJ a1 n) p=some res) ?_ ?_
     ·rintro x26 hm;refine q_cm hm (λb27 hm=>?_) (λb27 hm=>?_)
      ·refine s_vn [] 1 ⟨[(2,vi 11)],[]⟩ ?_;obtain rfl:=oi hm;refine q_rt ?_;refine qY 11 ?_;exact q_rm
      ·refine q_sk ?_;refine q_vv [] 1 [72,94] [(72,vi (w64 (x18+1)))] ?_;exact q_hl (XK a1 (w64 (x18+1))) (ih (w64 (x18+1)) _ hm)
     ·rcases bif_c hm with⟨b24,hm⟩|⟨b24,hm⟩
      ·obtain⟨g25,hm⟩:=qG hm;refine q_vv [qf 2 b24,qi 8 g25] 1 [5,6,82] [(94,vb (decide ((a1.Lengths.getD x18.toNat default)<=(a1.Lengths.getD (w64 (x18-1)).toNat default))))] ?_;exact q_J (decide ((a1.Lengths.getD x18.toNat default)<=(a1.Lengths.getD (w64 (x18-1)).toNat default))) hm
      ·refine q_vv [qf 2 b24] 1 [5,6,82] [(94,vb false)] ?_;exact q_J (false) hm
   ·rcases bif_c hm with⟨b21,hm⟩|⟨b21,hm⟩
    ·refine q_vv [qf 2 b21] 1 [] [(82,vb true)] ?_;exact q_J (true) hm
    ·refine q_vv [qf 2 b21] 1 [] [(82,vb (decide ((a1.Lengths.getD x18.toNat default)>20000)))] ?_;exact q_J (decide ((a1.Lengths.getD x18.toNat default)>20000)) hm
  ·refine q_ex 0 ?_;obtain rfl:=oi hm;exact wR () (by kernel_rfl) (by kernel_rfl)
theorem qAG (E:Env 0) (a1:Product):∀(n:Nat) (x32:Int) (res:Int⊕Unit),zT a1 n x32=some res->HL (kx E 110 0) (nd Tryz.f74 8180) (wI 2 (λo=>BP) (λv st=>RetQ Tryz.prog Tryz.f74 (QH v) (QI v) .ret st) res) n (XG a1 x32):=by
 intro n
 induction n with
 |zero=>
  intro x32 res hm;cases hm
 |succ n ih=>
  intro x32 res hm;refine qM ?_;refine s_va 1 [(100,vb (decide (x32<((a1.Prices.length:Nat):Int))))] ?_;refine q_sq ?_;refine q_cm hm (λb33 hm=>?_) (λb33 hm=>?_)
  ·refine q_sk ?_;refine q_sq ?_;refine q_bk 3 ?_;obtain⟨g34,hm⟩:=qG hm;refine s_vv [qi 0 g34] 1 [100] [(8,vi (a1.Prices.getD x32.toNat default))] ?_;refine q_jn (qBu a1 x32) (λp=>WJ x32 (zT a1 n) p=some res) ?_ ?_
   ·rintro x36 hm;refine q_cm hm (λb37 hm=>?_) (λb37 hm=>?_)
    ·refine s_vn [] 1 ⟨[(2,vi 9)],[]⟩ ?_;obtain rfl:=oi hm;refine q_rt ?_;refine qY 9 ?_;exact q_rm
    ·refine q_sk ?_;refine q_vv [] 1 [99,108] [(99,vi (w64 (x32+1)))] ?_;exact q_hl (XG a1 (w64 (x32+1))) (ih (w64 (x32+1)) _ hm)
   ·rcases bif_c hm with⟨b35,hm⟩|⟨b35,hm⟩
    ·refine q_vv [qf 2 b35] 1 [8] [(108,vb true)] ?_;exact q_J (true) hm
    ·refine q_vv [qf 2 b35] 1 [8] [(108,vb (decide ((a1.Prices.getD x32.toNat default)>1000000)))] ?_;exact q_J (decide ((a1.Prices.getD x32.toNat default)>1000000)) hm
  ·refine q_ex 2 ?_;obtain rfl:=oi hm;exact wR () (by kernel_rfl) (by kernel_rfl)
theorem qCc (a1:Product) (r:Int) (hm:ZY a1=some r):CtX Tryz.prog globs 74 0 0 [.agg (qC a1)] [] (QH r) (QI r):=by
 unfold ZY at hm;refine q_E Tryz.f74 110 λE=>?_;refine s_vn [] 0 ⟨[(1,vp 0 0)],[(0,bx 54 (qC a1))]⟩ ?_;refine q_sq ?_;refine q_jn (qBs a1) (λp=>jC a1 p=some r) ?_ ?_
 ·rintro x5 hm;refine q_cm hm (λb6 hm=>?_) (λb6 hm=>?_)
  ·refine s_vn [] 1 ⟨[(2,vi 9)],[]⟩ ?_;obtain rfl:=oi hm;refine q_rt ?_;exact q_rm
  ·refine q_sk ?_;refine q_sq ?_;refine q_jn (qBr a1) (λp=>jD a1 p=some r) ?_ ?_
   ·rintro x10 hm;refine q_cm hm (λb11 hm=>?_) (λb11 hm=>?_)
    ·refine s_vn [] 1 ⟨[(2,vi 9)],[]⟩ ?_;obtain rfl:=oi hm;refine q_rt ?_;exact q_rm
    ·refine q_sk ?_;refine q_sq ?_;obtain⟨v12,h13,hm⟩:=qA hm;refine s_vv [qc 1 [48] 1 (KJ a1 v12 h13)] 1 [46] [(4,vi v12.2)] ?_;refine s_vv [] 1 [4] [(53,vb (decide (v12.2>600)))] ?_;refine q_cm hm (λb14 hm=>?_) (λb14 hm=>?_)
     ·refine s_vn [] 1 ⟨[(2,vi 9)],[]⟩ ?_;obtain rfl:=oi hm;refine q_rt ?_;exact q_rm
     ·refine q_sk ?_;refine q_sq ?_;refine s_vv [] 1 [53] [(57,vb (((a1.Lengths.length:Nat):Int)==0))] ?_;refine q_cm hm (λb15 hm=>?_) (λb15 hm=>?_)
      ·refine s_vn [] 1 ⟨[(2,vi 3)],[]⟩ ?_;obtain rfl:=oi hm;refine q_rt ?_;exact q_rm
      ·refine q_sk ?_;refine q_sq ?_;refine s_vv [] 1 [57] [(61,vb (decide (((a1.Lengths.length:Nat):Int)>8)))] ?_;refine q_cm hm (λb16 hm=>?_) (λb16 hm=>?_)
       ·refine s_vn [] 1 ⟨[(2,vi 4)],[]⟩ ?_;obtain rfl:=oi hm;refine q_rt ?_;exact q_rm
       ·refine q_sk ?_;refine q_sq ?_;refine s_vv [] 1 [61] [(68,vb (((a1.Prices.length:Nat):Int) !=((a1.Lengths.length:Nat):Int)))] ?_;refine q_cm hm (λb17 hm=>?_) (λb17 hm=>?_)
        ·refine s_vn [] 1 ⟨[(2,vi 19)],[]⟩ ?_;obtain rfl:=oi hm;refine q_rt ?_;exact q_rm
        ·refine q_sk ?_;refine q_sq ?_;refine s_vv [] 1 [68] [(70,vc (tl e_i64 default a1.Lengths)),(71,vi ((a1.Lengths.length:Nat):Int)),(72,vi 0)] ?_;obtain⟨u30,h29,hm⟩:=qA hm;refine zQ (nd Tryz.f74 4084) 0 (by kernel_rfl) FUEL (λo=>BY a1) (λv st=>RetQ Tryz.prog Tryz.f74 (QH v) (QI v) .ret st) u30 (q_hl (XK a1 0) (qAM E a1 FUEL 0 u30 h29)) ?_ ?_
         ·rintro v31 rfl st hr;obtain rfl:=oi hm;exact hr
         ·rintro o28 rfl;replace hm:_=some r:=hm;refine q_sq ?_;refine s_vn [] 1 ⟨[(97,vc (tl e_i64 default a1.Prices)),(98,vi ((a1.Prices.length:Nat):Int)),(99,vi 0)],[]⟩ ?_;obtain⟨u40,h39,hm⟩:=qA hm;refine zQ (nd Tryz.f74 8180) 2 (by kernel_rfl) FUEL (λo=>BP) (λv st=>RetQ Tryz.prog Tryz.f74 (QH v) (QI v) .ret st) u40 (q_hl (XG a1 0) (qAG E a1 FUEL 0 u40 h39)) ?_ ?_
          ·rintro v41 rfl st hr;obtain rfl:=oi hm;exact hr
          ·rintro o38 rfl;replace hm:_=some r:=hm;refine s_vn [] 1 ⟨[(2,vi 0)],[]⟩ ?_;obtain rfl:=oi hm;refine q_rt ?_;exact q_rm
   ·rcases bif_c hm with⟨b7,hm⟩|⟨b7,hm⟩
    ·refine q_vv [qf 3 b7] 1 [28] [(46,vb true)] ?_;exact q_J (true) hm
    ·rcases bif_c hm with⟨b8,hm⟩|⟨b8,hm⟩
     ·refine q_vv [qf 3 b7,qf 8 b8] 1 [28] [(46,vb true)] ?_;exact q_J (true) hm
     ·rcases bif_c hm with⟨b9,hm⟩|⟨b9,hm⟩
      ·refine q_vv [qf 3 b7,qf 8 b8,qf 13 b9] 1 [28] [(46,vb true)] ?_;exact q_J (true) hm
      ·refine q_vv [qf 3 b7,qf 8 b8,qf 13 b9] 1 [28] [(46,vb (decide (a1.Wane>1000)))] ?_;exact q_J (decide (a1.Wane>1000)) hm
 ·rcases bif_c hm with⟨b2,hm⟩|⟨b2,hm⟩
  ·refine q_vv [qf 3 b2] 1 [] [(28,vb true)] ?_;exact q_J (true) hm
  ·rcases bif_c hm with⟨b3,hm⟩|⟨b3,hm⟩
   ·refine q_vv [qf 3 b2,qf 8 b3] 1 [] [(28,vb true)] ?_;exact q_J (true) hm
   ·rcases bif_c hm with⟨b4,hm⟩|⟨b4,hm⟩
    ·refine q_vv [qf 3 b2,qf 8 b3,qf 15 b4] 1 [] [(28,vb true)] ?_;exact q_J (true) hm
    ·refine q_vv [qf 3 b2,qf 8 b3,qf 15 b4] 1 [] [(28,vb (decide (a1.Width>600)))] ?_;exact q_J (decide (a1.Width>600)) hm
end Saw
end Go.SL

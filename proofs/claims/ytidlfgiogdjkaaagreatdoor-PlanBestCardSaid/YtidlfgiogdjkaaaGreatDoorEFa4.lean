import Derived.Test.YtidlfgiogdjkaaaGreatDoorEBase
import Derived.Test.YtidlfgiogdjkaaaGreatDoorEFa3
import Derived.Test.YtidlfgiogdjkaaaGreatDoorEFa2
import Derived.Test.YtidlfgiogdjkaaaGreatDoorEFa1
set_option linter.unusedVariables false
set_option linter.unusedSimpArgs false
namespace Go.SL
namespace Saw
open Go.Proofs
set_option maxHeartbeats 4000000
set_option maxRecDepth 100000
def qNf (r:Int):V:=vi r
def qND (r:Int):List (Nat×(Nat×O)):=[]
theorem VA (a1:List qB) (a2:Rect) (a3:Span) (r:Int) (hm:JP a1 a2 a3=some r):CtX Tryz.prog globs 210 0 0 [.one (tl qI default a1),.agg (qE a2),.agg (e_Span a3)] [] (qNf r) (qND r):=by
 unfold JP at hm;refine q_E Tryz.f210 15 λE=>?_;refine s_vn [] 0 ⟨[(0,vc (tl qI default a1)),(4,vp 0 0),(5,vp 1 0)],[(0,bx 33 (qE a2)),(1,bx 31 (e_Span a3))]⟩ ?_;obtain⟨v4,h5,hm⟩:=qA hm;refine s_vn [qc 7 [7,13] 2 (YJ a1 (Box.mk a2.X a2.Y a3) v4 h5)] 2 ⟨[(6,vi v4)],[]⟩ ?_;obtain rfl:=oi hm;refine q_rt ?_;exact q_rm
def qQg (r:Int):V:=vi r
def qQC (r:Int):List (Nat×(Nat×O)):=[]
theorem qN5 (a1:List qB) (a2:List Defect) (a3:Product) (a4:Rect) (a5:Saw) (a6:Rates) (r:Int) (hm:qAC a1 a2 a3 a4 a5 a6=some r):CtX Tryz.prog globs 209 0 0 [.one (tl qI default a1),.one (tl qJ default a2),.agg (qC a3),.agg (qE a4),.agg (zB a5),.agg (zS a6)] [] (qQg r) (qQC r):=by
 unfold qAC at hm;refine q_E Tryz.f209 89 λE=>?_;refine s_vn [] 0 ⟨[(0,vc (tl qI default a1)),(1,vc (tl qJ default a2)),(8,vp 0 0),(9,vp 1 0),(10,vp 2 0),(11,vp 3 0)],[(0,bx 54 (qC a3)),(1,bx 33 (qE a4)),(2,bx 38 (zB a5)),(3,bx 40 (zS a6))]⟩ ?_;obtain⟨v7,h8,hm⟩:=qA hm;refine s_vu [qc 8 [21,22,23,24,26,28] 4 (qE0 a1 a2 a3 a4 a5.Step a6.Fine v7 h8)] 4 [1,8] [(13,vp 4 0),(14,vi v7.2.1),(15,vb v7.2.2)] [0] [(4,bx 31 (e_Span v7.1))] ?_;refine q_sq ?_;refine s_vv [] 5 [15] [(34,vb (!v7.2.2))] ?_;refine q_cm hm (λb9 hm=>?_) (λb9 hm=>?_)
 ·refine s_vn [] 5 ⟨[(12,vi (-1))],[]⟩ ?_;obtain rfl:=oi hm;refine q_rt ?_;exact q_rm
 ·refine q_sk ?_;obtain⟨v10,h11,hm⟩:=qA hm;refine s_vv [qc 1 [35] 5 (YK a1 v10 h11)] 5 [34] [(16,vi v10)] ?_;obtain⟨v12,h13,hm⟩:=qA hm;refine s_vv [qc 4 [37,38,40] 5 (VA a1 a4 (Span.mk 0 v10) v12 h13)] 5 [] [(17,vi v12)] ?_;obtain⟨v14,h15,hm⟩:=qA hm;refine s_vv [qc 3 [42,43,44] 5 (VA a1 a4 v7.1 v14 h15)] 5 [] [(18,vi v14)] ?_;obtain⟨v16,h17,hm⟩:=qA hm;refine s_vv [qc 11 [46,47,56] 5 (VA a1 a4 (Span.mk (imax 0 (w64 (v7.1.A-a5.Trim))) v7.1.A) v16 h17)] 5 [] [(19,vi v16)] ?_;obtain⟨v18,h19,hm⟩:=qA hm
  refine s_vu [qc 13 [59,60,70] 5 (VA a1 a4 (Span.mk v7.1.B (imin (w64 (v7.1.B+a5.Trim)) v10)) v18 h19)] 5 [0,9,10,13,16,19] [(19,vi (w64 (v16+v18)))] [1,2,4] [] ?_;refine s_vn [] 5 ⟨[(12,vi (w64 ((w64 ((w64 (1000000*v7.2.1))+(w64 (a6.Dust*(w64 (v16+v18))))))+(w64 (a6.Chip*(w64 ((w64 (v12-v14))-(w64 (v16+v18)))))))))],[]⟩ ?_;obtain rfl:=oi hm;refine q_rt ?_;exact q_rm
def qBW (r:Int):V:=vi r
def qBF (r:Int):List (Nat×(Nat×O)):=[]
def qK6 (a4:Rect) (x22:Int) (x26:Bool):St:=
 ⟨[(68,va (qE a4)),(69,vi x22),(77,vb x26)],[]⟩
def AO (a4:Rect) (x22:Int):St:=
 ⟨[(68,va (qE a4)),(69,vi x22)],[]⟩
def qCr :St:=
 ⟨[],[]⟩
def qKj (a4:Rect) (x20:Bool):St:=
 ⟨[(9,vp 0 0),(55,vb x20)],[(0,bx 33 (qE a4))]⟩
theorem qIi (E:Env 0) (a4:Rect):∀(n:Nat) (x22:Int) (res:Int⊕Unit),QL a4 n x22=some res->HL (kx E 79 0) (nd Tryz.f208 2036) (wI 0 (λo=>qCr) (λv st=>RetQ Tryz.prog Tryz.f208 (qBW v) (qBF v) .ret st) res) n (AO a4 x22):=by
 intro n
 induction n with
 |zero=>
  intro x22 res hm;cases hm
 |succ n ih=>
  intro x22 res hm;refine qM ?_;refine s_va 3 [(70,vb (decide (x22<4)))] ?_;refine q_sq ?_;refine q_cm hm (λb23 hm=>?_) (λb23 hm=>?_)
  ·refine q_sk ?_;refine q_sq ?_;refine q_bk 1 ?_;obtain⟨g24,hm⟩:=qG hm;refine s_vv [qi 0 g24] 3 [70] [(18,vi (([a4.X.A,a4.X.B,a4.Y.A,a4.Y.B]:List Int).getD x22.toNat 0))] ?_;refine q_jn (qK6 a4 x22) (λp=>HZ x22 (QL a4 n) p=some res) ?_ ?_
   ·rintro x26 hm;refine q_cm hm (λb27 hm=>?_) (λb27 hm=>?_)
    ·refine s_vn [] 3 ⟨[(12,vi 9)],[]⟩ ?_;obtain rfl:=oi hm;refine q_rt ?_;refine qY 9 ?_;exact q_rm
    ·refine q_sk ?_;refine q_vv [] 3 [69,77] [(69,vi (w64 (x22+1)))] ?_;exact q_hl (AO a4 (w64 (x22+1))) (ih (w64 (x22+1)) _ hm)
   ·rcases bif_c hm with⟨b25,hm⟩|⟨b25,hm⟩
    ·refine q_vv [qf 2 b25] 3 [18] [(77,vb true)] ?_;exact q_J (true) hm
    ·refine q_vv [qf 2 b25] 3 [18] [(77,vb (decide ((([a4.X.A,a4.X.B,a4.Y.A,a4.Y.B]:List Int).getD x22.toNat 0)>600)))] ?_;exact q_J (decide ((([a4.X.A,a4.X.B,a4.Y.A,a4.Y.B]:List Int).getD x22.toNat 0)>600)) hm
  ·refine q_ex 0 ?_;obtain rfl:=oi hm;exact wR () (by kernel_rfl) (by kernel_rfl)
theorem qNB (a1:List qB) (a2:List Defect) (a3:List Product) (a4:Rect) (a5:Saw) (a6:Rates) (r:Int) (hm:AE a1 a2 a3 a4 a5 a6=some r):CtX Tryz.prog globs 208 0 0 [.one (tl qI default a1),.one (tl qJ default a2),.one (tl qC default a3),.agg (qE a4),.agg (zB a5),.agg (zS a6)] [] (qBW r) (qBF r):=by
 unfold AE at hm;refine q_E Tryz.f208 79 λE=>?_;refine s_vn [] 0 ⟨[(0,vc (tl qI default a1)),(1,vc (tl qJ default a2)),(2,vc (tl qC default a3)),(9,vp 0 0),(10,vp 1 0),(11,vp 2 0)],[(0,bx 33 (qE a4)),(1,bx 38 (zB a5)),(2,bx 40 (zS a6))]⟩ ?_;refine q_sq ?_;obtain⟨v7,h8,hm⟩:=qA hm;refine s_vv [qc 1 [19] 3 (QU a1 v7 h8)] 3 [0] [(13,vi v7)] ?_;refine s_va 3 [(22,vb (v7 !=0))] ?_;refine q_cm hm (λb9 hm=>?_) (λb9 hm=>?_)
 ·refine s_vn [] 3 ⟨[(12,vi v7)],[]⟩ ?_;obtain rfl:=oi hm;refine q_rt ?_;exact q_rm
 ·refine q_sk ?_;refine q_sq ?_;obtain⟨v10,h11,hm⟩:=qA hm;refine s_vv [qc 1 [24] 3 (YT a2 v10 h11)] 3 [1,13,22] [(14,vi v10)] ?_;refine s_va 3 [(27,vb (v10 !=0))] ?_;refine q_cm hm (λb12 hm=>?_) (λb12 hm=>?_)
  ·refine s_vn [] 3 ⟨[(12,vi v10)],[]⟩ ?_;obtain rfl:=oi hm;refine q_rt ?_;exact q_rm
  ·refine q_sk ?_;refine q_sq ?_;obtain⟨v13,h14,hm⟩:=qA hm;refine s_vv [qc 1 [29] 3 (wN a3 v13 h14)] 3 [2,14,27] [(15,vi v13)] ?_;refine s_va 3 [(32,vb (v13 !=0))] ?_;refine q_cm hm (λb15 hm=>?_) (λb15 hm=>?_)
   ·refine s_vn [] 3 ⟨[(12,vi v13)],[]⟩ ?_;obtain rfl:=oi hm;refine q_rt ?_;exact q_rm
   ·refine q_sk ?_;refine q_sq ?_;obtain⟨v16,h17,hm⟩:=qA hm;refine s_vu [qc 2 [34,35] 3 (VN a5 a6 v16 h17)] 3 [10,11,15,32] [(16,vi v16)] [1,2] [] ?_;refine s_va 3 [(38,vb (v16 !=0))] ?_;refine q_cm hm (λb18 hm=>?_) (λb18 hm=>?_)
    ·refine s_vn [] 3 ⟨[(12,vi v16)],[]⟩ ?_;obtain rfl:=oi hm;refine q_rt ?_;exact q_rm
    ·refine q_sk ?_;refine q_sq ?_;refine q_jn (qKj a4) (λp=>HT a4 p=some r) ?_ ?_
     ·rintro x20 hm;refine q_cm hm (λb21 hm=>?_) (λb21 hm=>?_)
      ·refine s_vn [] 3 ⟨[(12,vi 19)],[]⟩ ?_;obtain rfl:=oi hm;refine q_rt ?_;exact q_rm
      ·refine q_sk ?_;refine q_sq ?_;refine s_vn [] 3 ⟨[(68,va (qE a4)),(69,vi 0)],[]⟩ ?_;obtain⟨u30,h29,hm⟩:=qA hm;refine zQ (nd Tryz.f208 2036) 0 (by kernel_rfl) FUEL (λo=>qCr) (λv st=>RetQ Tryz.prog Tryz.f208 (qBW v) (qBF v) .ret st) u30 (q_hl (AO a4 0) (qIi E a4 FUEL 0 u30 h29)) ?_ ?_
       ·rintro v31 rfl st hr;obtain rfl:=oi hm;exact hr
       ·rintro o28 rfl;replace hm:_=some r:=hm;refine s_vn [] 3 ⟨[(12,vi 0)],[]⟩ ?_;obtain rfl:=oi hm;refine q_rt ?_;exact q_rm
     ·rcases bif_c hm with⟨b19,hm⟩|⟨b19,hm⟩
      ·refine q_vv [qf 7 b19] 3 [16,38] [(55,vb true)] ?_;exact q_J (true) hm
      ·refine q_vv [qf 7 b19] 3 [16,38] [(55,vb (decide (a4.Y.A≥a4.Y.B)))] ?_;exact q_J (decide (a4.Y.A≥a4.Y.B)) hm
def qPF (r:(List Int)×(List Int)):V:= .tup [.one (.own 0 0 1 r.1.length),.one (.own 1 0 1 r.2.length)]
def qPe (r:(List Int)×(List Int)):List (Nat×(Nat×O)):=[(0,ro 0 3 1 r.1.length (rf e_i64 r.1)),(1,ro 0 3 1 r.2.length (rf e_i64 r.2))]
def qCw (a1:List Product) (a2:Int) (x8:Int) (l19:List Int) (l19n:Nat) (l20:List Int) (l20n:Nat):St:=
 ⟨[(1,vi a2),(6,vo 0 0 1 l19n),(7,vo 1 0 1 l20n),(15,vc (tl qC default a1)),(16,vi ((a1.length:Nat):Int)),(17,vi x8)],[(0,ro 0 3 1 l19n (rf e_i64 l19)),(1,ro 0 3 1 l20n (rf e_i64 l20))]⟩
def qCx (a1:List Product) (a2:Int) (l7:List Int) (x8:Int) (l17:List Int) (l17n:Nat):St:=
 ⟨[(1,vi a2),(6,vo 0 0 1 l17n),(7,vo 1 0 1 l7.length),(8,vi x8),(15,vc (tl qC default a1)),(16,vi ((a1.length:Nat):Int)),(17,vi x8)],[(0,ro 0 3 1 l17n (rf e_i64 l17)),(1,ro 0 3 1 l7.length (rf e_i64 l7))]⟩
def AV (a1:List Product) (a2:Int) (l6:List Int) (l6n:Nat) (l7:List Int) (l7n:Nat) (x8:Int):St:=
 ⟨[(1,vi a2),(6,vo 0 0 1 l6n),(7,vo 1 0 1 l7n),(15,vc (tl qC default a1)),(16,vi ((a1.length:Nat):Int)),(17,vi x8)],[(0,ro 0 3 1 l6n (rf e_i64 l6)),(1,ro 0 3 1 l7n (rf e_i64 l7))]⟩
def qCF (l21:List Int) (l22:List Int):St:=
 ⟨[(6,vo 0 0 1 l21.length),(7,vo 1 0 1 l22.length)],[(0,ro 0 3 1 l21.length (rf e_i64 l21)),(1,ro 0 3 1 l22.length (rf e_i64 l22))]⟩
theorem qIg (E:Env 0) (a1:List Product) (a2:Int):∀(n:Nat) (l6:List Int) (l6n:Nat) (l7:List Int) (l7n:Nat) (x8:Int) (res:(List Int)×(List Int)),l6.length=l6n->l7.length=l7n->jK a1 a2 n l6 l7 x8=some res->HL (kx E 49 0) (nd Tryz.f109 244) (zU 0 (λo=>qCF o.1 o.2) res) n (AV a1 a2 l6 l6n l7 l7n x8):=by
 intro n
 induction n with
 |zero=>
  intro l6 l6n l7 l7n x8 res hl0 hl1 hm;cases hm
 |succ n ih=>
  intro l6 l6n l7 l7n x8 res hl0 hl1 hm;subst hl0;subst hl1;refine qM ?_;refine s_va 2 [(18,vb (decide (x8<((a1.length:Nat):Int))))] ?_;refine q_sq ?_;refine q_cm hm (λb9 hm=>?_) (λb9 hm=>?_)
  ·refine q_sk ?_;refine q_jn (ι:=(List Int)×Nat×(List Int)×Nat) (λp=>qCw a1 a2 x8 p.1 p.2.1 p.2.2.1 p.2.2.2) (λp=>p.1.length=p.2.1/\p.2.2.1.length=p.2.2.2/\HU x8 (jK a1 a2 n) p.1 p.2.2.1=some res) ?_ ?_
   ·rintro⟨l19,l19n,l20,l20n⟩ ⟨el19,el20,hm⟩;replace el19:l19.length=l19n:=el19;subst el19;replace el20:l20.length=l20n:=el20;subst el20;show H _ (qCw a1 a2 x8 l19 l19.length l20 l20.length) _ _;refine q_vv [] 5 [17] [(17,vi (w64 (x8+1)))] ?_;exact q_hl (AV a1 a2 l19 l19.length l20 l20.length (w64 (x8+1))) (ih l19 l19.length l20 l20.length (w64 (x8+1)) _ rfl rfl hm)
   ·refine q_bk 1 ?_;obtain⟨g10,hm⟩:=qG hm;refine s_vu [qi 1 g10] 2 [18] [(8,vi x8),(9,vp 2 0)] [] [(2,bx 54 [cs ((a1.getD x8.toNat default).Name),ci ((a1.getD x8.toNat default).Thick),ci ((a1.getD x8.toNat default).Width),ci ((a1.getD x8.toNat default).Allow),ci ((a1.getD x8.toNat default).Wane),tl e_i64 default ((a1.getD x8.toNat default).Lengths),tl e_i64 default ((a1.getD x8.toNat default).Prices)])] ?_;obtain⟨v11,h12,hm⟩:=qA hm;refine s_vu [qc 1 [23] 3 (KJ (a1.getD x8.toNat default) v11 h12)] 3 [9] [(10,vi v11.1),(11,vi v11.2)] [2] [] ?_
    refine q_jn (ι:=(List Int)×Nat) (λp=>qCx a1 a2 l7 x8 p.1 p.2) (λp=>p.1.length=p.2/\HX l7 x8 (jK a1 a2 n) p.1=some res) ?_ ?_
    ·rintro⟨l17,l17n⟩ ⟨el17,hm⟩;replace el17:l17.length=l17n:=el17;subst el17;show H _ (qCx a1 a2 l7 x8 l17 l17.length) _ _;obtain⟨g18,hm⟩:=qG hm;refine q_vu [qd 2 (drw 4 0 (rf e_i64 ([x8]:List Int))) (litP e_i64 default 1 (λ_=>rfl) ([x8]:List Int) 1 rfl),qd 3 (drw 1 1 (rf e_i64 (l7++([x8]:List Int)))) (apP e_i64 default l7 ([x8]:List Int) l7.length 1 1 8 (1<=1) (Nat.le_refl _) rfl rfl (λ_=>rfl) (zI g18))] 4 [7,8] [(7,vo 1 1 1 (l7.length+1))] [1] [(1,ro 1 3 1 (l7.length+1) (rf e_i64 (l7++([x8]:List Int))))] ?_
     exact q_J (l17,l17.length,(l7++([x8]:List Int)),(l7.length+1)) ⟨rfl,(len_app rfl rfl),hm⟩
    ·refine s_va 3 [(27,vi a2)] ?_;refine q_bk 2 ?_;refine s_va 3 [(28,vb (a2==v11.1))] ?_;refine q_cm hm (λb13 hm=>?_) (λb13 hm=>?_)
     ·obtain⟨g14,hm⟩:=qG hm;refine q_vu [qd 2 (drw 3 0 (rf e_i64 ([v11.2]:List Int))) (litP e_i64 default 1 (λ_=>rfl) ([v11.2]:List Int) 1 rfl),qd 3 (drw 0 1 (rf e_i64 (l6++([v11.2]:List Int)))) (apP e_i64 default l6 ([v11.2]:List Int) l6.length 1 1 8 (1<=1) (Nat.le_refl _) rfl rfl (λ_=>rfl) (zI g14))] 3 [6,10,11,27,28] [(6,vo 0 1 1 (l6.length+1))] [0] [(0,ro 1 3 1 (l6.length+1) (rf e_i64 (l6++([v11.2]:List Int))))] ?_;exact q_J ((l6++([v11.2]:List Int)),(l6.length+1)) ⟨(len_app rfl rfl),hm⟩
     ·refine s_vv [] 3 [11,27,28] [(35,vb (a2==v11.2))] ?_;refine q_cm hm (λb15 hm=>?_) (λb15 hm=>?_)
      ·obtain⟨g16,hm⟩:=qG hm;refine q_vu [qd 2 (drw 3 0 (rf e_i64 ([v11.1]:List Int))) (litP e_i64 default 1 (λ_=>rfl) ([v11.1]:List Int) 1 rfl),qd 3 (drw 0 1 (rf e_i64 (l6++([v11.1]:List Int)))) (apP e_i64 default l6 ([v11.1]:List Int) l6.length 1 1 8 (1<=1) (Nat.le_refl _) rfl rfl (λ_=>rfl) (zI g16))] 3 [6,10,35] [(6,vo 0 1 1 (l6.length+1))] [0] [(0,ro 1 3 1 (l6.length+1) (rf e_i64 (l6++([v11.1]:List Int))))] ?_;exact q_J ((l6++([v11.1]:List Int)),(l6.length+1)) ⟨(len_app rfl rfl),hm⟩
      ·refine q_ex 1 ?_;exact q_J (l6,l6.length,l7,l7.length) ⟨rfl,rfl,hm⟩
  ·refine q_ex 0 ?_;obtain rfl:=oi hm;exact wH (by kernel_rfl) (by kernel_rfl)
theorem qAF (a1:List Product) (a2:Int) (r:(List Int)×(List Int)) (hm:GD a1 a2=some r):CtX Tryz.prog globs 109 0 0 [.one (tl qC default a1),.one (ci a2)] [] (qPF r) (qPe r):=by
 unfold GD at hm;refine q_E Tryz.f109 49 λE=>?_;refine s_vn [] 0 ⟨[(0,vc (tl qC default a1)),(1,vi a2)],[]⟩ ?_;refine q_sq ?_;obtain⟨v3,h4,hm⟩:=qA hm;refine s_vv [qc 1 [12] 0 (wN a1 v3 h4)] 0 [] [(14,vb (v3 !=0))] ?_;refine q_cm hm (λb5 hm=>?_) (λb5 hm=>?_)
 ·refine s_vn [] 0 ⟨[(4,vc (.emp)),(5,vc (.emp))],[]⟩ ?_;refine q_fu [.own 4 0 3 1 (rf e_i64 ([]:List Int))] [4] [(4,vo 0 0 1 0)] [] [(0,ro 0 3 1 0 (rf e_i64 ([]:List Int)))] o0 ?_;refine q_fu [.own 5 1 3 1 (rf e_i64 ([]:List Int))] [5] [(5,vo 1 0 1 0)] [] [(1,ro 0 3 1 0 (rf e_i64 ([]:List Int)))] o0 ?_;refine q_fu [.len 0 (([]:List Int).length)] [4] [(4,vo 0 0 1 (([]:List Int).length))] [0] [(0,ro 0 3 1 (([]:List Int).length) (rf e_i64 ([]:List Int)))] (o1 (And.intro (show 0=([]:List Int).length from rfl) (show 0=([]:List Int).length from rfl))) ?_
  refine q_fu [.len 1 (([]:List Int).length)] [5] [(5,vo 1 0 1 (([]:List Int).length))] [1] [(1,ro 0 3 1 (([]:List Int).length) (rf e_i64 ([]:List Int)))] (o1 (And.intro (show 0=([]:List Int).length from rfl) (show 0=([]:List Int).length from rfl))) ?_;obtain rfl:=oi hm;refine q_rt ?_;exact q_rm
 ·refine q_sk ?_;refine s_vv [] 0 [14] [(6,vc (.emp)),(7,vc (.emp))] ?_;refine q_sq ?_;refine s_vv [] 0 [0] [(15,vc (tl qC default a1)),(16,vi ((a1.length:Nat):Int)),(17,vi 0)] ?_;refine q_fu [.own 6 0 3 1 (rf e_i64 ([]:List Int))] [6] [(6,vo 0 0 1 0)] [] [(0,ro 0 3 1 0 (rf e_i64 ([]:List Int)))] o0 ?_;refine q_fu [.own 7 1 3 1 (rf e_i64 ([]:List Int))] [7] [(7,vo 1 0 1 0)] [] [(1,ro 0 3 1 0 (rf e_i64 ([]:List Int)))] o0 ?_;obtain⟨o23,h24,hm⟩:=qA hm
  refine zN (nd Tryz.f109 244) 0 (by kernel_rfl) FUEL (λo=>qCF o.1 o.2) o23 (q_hl (AV a1 a2 ([]:List Int) 0 ([]:List Int) 0 0) (qIg E a1 a2 FUEL ([]:List Int) 0 ([]:List Int) 0 0 o23 rfl rfl h24)) ?_;refine s_vv [] 2 [6,7] [(4,vo 0 0 1 o23.1.length),(5,vo 1 0 1 o23.2.length)] ?_;obtain rfl:=oi hm;refine q_rt ?_;exact q_rm
def qP4 (r:Line×Int):V:= .tup [.agg [ci r.1.Len,ci r.1.Kerf,ci r.1.Pitch,.own 0 0 1 r.1.Sizes.length,.own 1 0 1 r.1.Gain.length,.own 2 0 1 r.1.Chip.length,.own 3 0 1 r.1.Dust.length],.one (ci r.2)]
def qQk (r:Line×Int):List (Nat×(Nat×O)):=[(0,ro 0 3 1 r.1.Sizes.length (rf e_i64 r.1.Sizes)),(1,ro 0 28 1 r.1.Gain.length (rf (qH e_i64) r.1.Gain)),(2,ro 0 3 1 r.1.Chip.length (rf e_i64 r.1.Chip)),(3,ro 0 3 1 r.1.Dust.length (rf e_i64 r.1.Dust))]
def GG (a1:List qB) (a2:List Defect) (a3:List Product) (a4:Rect) (a5:Saw) (a6:Rates) (v10:(List Int)×(List Int)) (x12:Int) (l13:List (List Int)):St:=
 ⟨[(0,vc (tl qI default a1)),(1,vc (tl qJ default a2)),(2,vc (tl qC default a3)),(9,vp 0 0),(10,vp 1 0),(11,vp 2 0),(12,vp 3 0),(15,vi (w64 (a4.X.B-a4.X.A))),(17,vo 5 0 1 v10.2.length),(18,vp 6 0),(62,vo 4 0 1 v10.1.length),(63,vi ((v10.1.length:Nat):Int)),(64,vi x12)],[(0,bx 33 (qE a4)),(1,bx 38 (zB a5)),(2,bx 40 (zS a6)),(3,bx 84 [ci 0,ci 0,ci 0,.emp,.emp,.emp,.emp]),(4,ro 0 3 1 v10.1.length (rf e_i64 v10.1)),(5,ro 0 3 1 v10.2.length (rf e_i64 v10.2)),(6,bx 84 [ci (w64 (a4.X.B-a4.X.A)),ci a5.Kerf,ci 1,.own 4 0 1 v10.1.length,.own 7 0 1 l13.length,.emp,.emp]),(7,ro 0 28 1 l13.length (rf (qH e_i64) l13))]⟩
def SK (v10:(List Int)×(List Int)):St:=
 ⟨[(12,vp 3 0),(18,vp 6 0)],[(3,bx 84 [ci 0,ci 0,ci 0,.emp,.emp,.emp,.emp]),(4,ro 0 3 1 v10.1.length (rf e_i64 v10.1))]⟩
def qLD (a1:List qB) (a2:List Defect) (a3:List Product) (a4:Rect) (a5:Saw) (a6:Rates) (v10:(List Int)×(List Int)) (x12:Int) (l13:List (List Int)) (l16:List Int) (x17:Int) (x27:Int):St:=
 (GG a1 a2 a3 a4 a5 a6 v10 x12 l13).up [] [(19,vi x12),(20,vi (v10.1.getD x12.toNat default)),(21,vo 8 0 1 l16.length),(22,vi x17),(23,vi x27)] [] [(8,ro 0 3 1 l16.length (rf e_i64 l16))]
def ON (a1:List qB) (a2:List Defect) (a3:List Product) (a4:Rect) (a5:Saw) (a6:Rates) (v10:(List Int)×(List Int)) (x12:Int) (l13:List (List Int)) (l16:List Int) (l16n:Nat) (x17:Int):St:=
 (GG a1 a2 a3 a4 a5 a6 v10 x12 l13).up [] [(19,vi x12),(20,vi (v10.1.getD x12.toNat default)),(21,vo 8 0 1 l16n),(22,vi x17)] [] [(8,ro 0 3 1 l16n (rf e_i64 l16))]
def qDL (a1:List qB) (a2:List Defect) (a3:List Product) (a4:Rect) (a5:Saw) (a6:Rates) (v10:(List Int)×(List Int)) (x12:Int) (l13:List (List Int)) (l29:List Int):St:=
 (GG a1 a2 a3 a4 a5 a6 v10 x12 l13).up [] [(21,vo 8 0 1 l29.length)] [] [(8,ro 0 3 1 l29.length (rf e_i64 l29))]
def OP (a1:List qB) (a2:List Defect) (a3:List Product) (a4:Rect) (a5:Saw) (a6:Rates) (v10:(List Int)×(List Int)) (x12:Int) (l13:List (List Int)) (l13n:Nat):St:=
 (GG a1 a2 a3 a4 a5 a6 v10 x12 l13).up [] [] [6,7] [(6,bx 84 [ci (w64 (a4.X.B-a4.X.A)),ci a5.Kerf,ci 1,.own 4 0 1 v10.1.length,.own 7 0 1 l13n,.emp,.emp]),(7,ro 0 28 1 l13n (rf (qH e_i64) l13))]
def qDp (a1:List qB) (a4:Rect) (a5:Saw) (a6:Rates) (v10:(List Int)×(List Int)) (l33:List (List Int)):St:=
 (SK v10).up [] [(0,vc (tl qI default a1)),(9,vp 0 0),(11,vp 2 0),(15,vi (w64 (a4.X.B-a4.X.A)))] [] [(0,bx 33 (qE a4)),(2,bx 40 (zS a6)),(6,bx 84 [ci (w64 (a4.X.B-a4.X.A)),ci a5.Kerf,ci 1,.own 4 0 1 v10.1.length,.own 7 0 1 l33.length,.emp,.emp]),(7,ro 0 28 1 l33.length (rf (qH e_i64) l33))]
def OB (a1:List qB) (a4:Rect) (a5:Saw) (a6:Rates) (v10:(List Int)×(List Int)) (o34:(List (List Int))) (v36:Int) (x38:Int) (l39:List Int) (l39n:Nat) (l40:List Int) (l40n:Nat):St:=
 (SK v10).up [] [(0,vc (tl qI default a1)),(9,vp 0 0),(11,vp 2 0),(24,vp 8 0),(113,vi (w64 (a4.X.B-a4.X.A))),(114,vi x38)] [] [(0,bx 33 (qE a4)),(2,bx 40 (zS a6)),(6,bx 84 [ci (w64 (a4.X.B-a4.X.A)),ci a5.Kerf,ci 1,.own 4 0 1 v10.1.length,.own 7 0 1 o34.length,.own 9 0 1 l39n,.own 10 0 1 l40n]),(7,ro 0 28 1 o34.length (rf (qH e_i64) o34)),(8,bx 31 [ci 0,ci v36]),(9,ro 0 3 1 l39n (rf e_i64 l39)),(10,ro 0 3 1 l40n (rf e_i64 l40))]
def qDF (a4:Rect) (a5:Saw) (v10:(List Int)×(List Int)) (o34:(List (List Int))) (l48:List Int) (l49:List Int):St:=
 (SK v10).up [] [] [] [(6,bx 84 [ci (w64 (a4.X.B-a4.X.A)),ci a5.Kerf,ci 1,.own 4 0 1 v10.1.length,.own 7 0 1 o34.length,.own 9 0 1 l48.length,.own 10 0 1 l49.length]),(7,ro 0 28 1 o34.length (rf (qH e_i64) o34)),(9,ro 0 3 1 l48.length (rf e_i64 l48)),(10,ro 0 3 1 l49.length (rf e_i64 l49))]
theorem qKi (E:Env 0) (a1:List qB) (a2:List Defect) (a3:List Product) (a4:Rect) (a5:Saw) (a6:Rates) (v10:(List Int)×(List Int)) (x12:Int) (l13:List (List Int)):∀(n:Nat) (l16:List Int) (l16n:Nat) (x17:Int) (res:(List Int)),l16.length=l16n->ZO a1 a2 a3 a4 a5 a6 v10 x12 n l16 x17=some res->HL (kx E 145 0) (nd Tryz.f186 1037108) (zU 2 (λo=>qDL a1 a2 a3 a4 a5 a6 v10 x12 l13 o) res) n (ON a1 a2 a3 a4 a5 a6 v10 x12 l13 l16 l16n x17):=by
 intro n
 induction n with
 |zero=>
  intro l16 l16n x17 res hl0 hm;cases hm
 |succ n ih=>
  intro l16 l16n x17 res hl0 hm;subst hl0;refine qM ?_;refine q_sq ?_;refine s_va 9 [(73,vb (decide ((w64 (x17+(v10.1.getD x12.toNat default)))<=(w64 (a4.X.B-a4.X.A)))))] ?_;refine q_cm hm (λb18 hm=>?_) (λb18 hm=>?_)
  ·refine q_sk ?_;refine q_sq ?_;refine q_bk 3 ?_;refine s_vv [] 9 [73] [(23,vi (-1))] ?_;refine q_jn (qLD a1 a2 a3 a4 a5 a6 v10 x12 l13 l16 x17) (λp=>IC l16 x17 (ZO a1 a2 a3 a4 a5 a6 v10 x12 n) p=some res) ?_ ?_
   ·rintro x27 hm;obtain⟨g28,hm⟩:=qG hm;refine q_vu [qd 2 (drw 9 0 (rf e_i64 ([x27]:List Int))) (litP e_i64 default 1 (λ_=>rfl) ([x27]:List Int) 1 rfl),qd 3 (drw 8 1 (rf e_i64 (l16++([x27]:List Int)))) (apP e_i64 default l16 ([x27]:List Int) l16.length 1 1 8 (1<=1) (Nat.le_refl _) rfl rfl (λ_=>rfl) (zI g28))] 9 [21,23] [(21,vo 8 1 1 (l16.length+1))] [8] [(8,ro 1 3 1 (l16.length+1) (rf e_i64 (l16++([x27]:List Int))))] ?_;refine q_vv [] 10 [22] [(22,vi (w64 (x17+1)))] ?_
    exact q_hl (ON a1 a2 a3 a4 a5 a6 v10 x12 l13 (l16++([x27]:List Int)) (l16.length+1) (w64 (x17+1))) (ih (l16++([x27]:List Int)) (l16.length+1) (w64 (x17+1)) _ (len_app rfl rfl) hm)
   ·obtain⟨g19,hm⟩:=qG hm;refine s_vv [qd 3 dN (CN g19)] 9 [] [(80,vb ((Int.tmod x17 a5.Pitch)==0))] ?_;refine q_cm hm (λb20 hm=>?_) (λb20 hm=>?_)
    ·obtain⟨g21,hm⟩:=qG hm;obtain⟨g22,hm⟩:=qG hm;obtain⟨v23,h24,hm⟩:=qA hm;obtain⟨v25,h26,hm⟩:=qA hm;refine q_du [qi 5 g21,qd 6 dN (toNat_lt (inb_of g21)),qi 7 g22,qc 14 [90,91,94] 9 (qBE a4 x17 (w64 (x17+(v10.1.getD x12.toNat default))) v23 h24),qc 17 [81,82,89,95,96,97] 9 (qN5 a1 a2 (a3.getD (v10.2.getD x12.toNat default).toNat default) v23 a5 a6 v25 h26)] [0,0,0,0,0,24,56,124,252,0,0,0,0,6144,15872,0,0,131071,262143] 9 [23,80] [(23,vi v25)] [] [] ?_;exact q_J (v25) hm
    ·refine q_sk ?_;exact q_J ((-1)) hm
  ·refine q_ex 2 ?_;obtain rfl:=oi hm;exact wH (by kernel_rfl) (by kernel_rfl)
theorem qJD (E:Env 0) (a1:List qB) (a2:List Defect) (a3:List Product) (a4:Rect) (a5:Saw) (a6:Rates) (v10:(List Int)×(List Int)):∀(n:Nat) (x12:Int) (l13:List (List Int)) (l13n:Nat) (res:(List (List Int))),l13.length=l13n->PC a1 a2 a3 a4 a5 a6 v10 n x12 l13=some res->HL (kx E 145 0) (nd Tryz.f186 1012) (zU 0 (λo=>qDp a1 a4 a5 a6 v10 o) res) n (OP a1 a2 a3 a4 a5 a6 v10 x12 l13 l13n):=by
 intro n
 induction n with
 |zero=>
  intro x12 l13 l13n res hl0 hm;cases hm
 |succ n ih=>
  intro x12 l13 l13n res hl0 hm;subst hl0;refine qM ?_;refine s_va 8 [(65,vb (decide (x12<((v10.1.length:Nat):Int))))] ?_;refine q_sq ?_;refine q_cm hm (λb14 hm=>?_) (λb14 hm=>?_)
  ·refine q_sk ?_;refine q_sq ?_;refine q_bk 1 ?_;obtain⟨g15,hm⟩:=qG hm;refine s_vv [qi 1 g15,qd 2 dN (toNat_lt (inb_of g15))] 8 [65] [(19,vi x12),(20,vi (v10.1.getD x12.toNat default))] ?_;refine s_va 8 [(21,vc (.emp))] ?_;refine q_sq ?_;refine s_va 8 [(22,vi 0)] ?_;refine q_fu [.own 21 8 3 1 (rf e_i64 ([]:List Int))] [21] [(21,vo 8 0 1 0)] [] [(8,ro 0 3 1 0 (rf e_i64 ([]:List Int)))] o0 ?_;obtain⟨o30,h31,hm⟩:=qA hm
   refine zN (nd Tryz.f186 1037108) 2 (by kernel_rfl) FUEL (λo=>qDL a1 a2 a3 a4 a5 a6 v10 x12 l13 o) o30 (q_hl (ON a1 a2 a3 a4 a5 a6 v10 x12 l13 ([]:List Int) 0 0) (qKi E a1 a2 a3 a4 a5 a6 v10 x12 l13 FUEL ([]:List Int) 0 0 o30 rfl h31)) ?_;obtain⟨g32,hm⟩:=qG hm
   refine q_vu [qd 3 (dpr [.frz 8] (drw 9 0 (rf (qH e_i64) ([o30]:List (List Int))))) (And.intro (Nat.le_refl o30.length) (Nat.le_refl o30.length)),qd 3 dN (litP (qH e_i64) default 1 (λ_=>rfl) ([o30]:List (List Int)) 1 rfl),qd 4 (drw 7 1 (rf (qH e_i64) (l13++([o30]:List (List Int))))) (apP (qH e_i64) default l13 ([o30]:List (List Int)) l13.length 1 1 24 (1<=1) (Nat.le_refl _) rfl rfl (λ_=>rfl) (zI g32))] 9 [21] [] [6,7,8] [(6,bx 84 [ci (w64 (a4.X.B-a4.X.A)),ci a5.Kerf,ci 1,.own 4 0 1 v10.1.length,.own 7 1 1 (l13.length+1),.emp,.emp]),(7,ro 1 28 1 (l13.length+1) (rf (qH e_i64) (l13++([o30]:List (List Int)))))] ?_
   refine q_vv [] 10 [64] [(64,vi (w64 (x12+1)))] ?_;exact q_hl (OP a1 a2 a3 a4 a5 a6 v10 (w64 (x12+1)) (l13++([o30]:List (List Int))) (l13.length+1)) (ih (w64 (x12+1)) (l13++([o30]:List (List Int))) (l13.length+1) _ (len_app rfl rfl) hm)
  ·refine q_ex 0 ?_;obtain rfl:=oi hm;exact wH (by kernel_rfl) (by kernel_rfl)
theorem qK5 (E:Env 0) (a1:List qB) (a4:Rect) (a5:Saw) (a6:Rates) (v10:(List Int)×(List Int)) (o34:(List (List Int))) (v36:Int):∀(n:Nat) (x38:Int) (l39:List Int) (l39n:Nat) (l40:List Int) (l40n:Nat) (res:(List Int)×(List Int)),l39.length=l39n->l40.length=l40n->KW a1 a4 a6 v36 n x38 l39 l40=some res->HL (kx E 145 0) (nd Tryz.f186 4084) (zU 4 (λo=>qDF a4 a5 v10 o34 o.1 o.2) res) n (OB a1 a4 a5 a6 v10 o34 v36 x38 l39 l39n l40 l40n):=by
 intro n
 induction n with
 |zero=>
  intro x38 l39 l39n l40 l40n res hl0 hl1 hm;cases hm
 |succ n ih=>
  intro x38 l39 l39n l40 l40n res hl0 hl1 hm;subst hl0;subst hl1;refine qM ?_;refine s_va 11 [(115,vb (decide (x38<(w64 (a4.X.B-a4.X.A)))))] ?_;refine q_sq ?_;refine q_cm hm (λb41 hm=>?_) (λb41 hm=>?_)
  ·refine q_sk ?_;refine q_sq ?_;refine q_bk 5 ?_;refine s_vv [] 11 [115] [(25,vi x38)] ?_;obtain⟨v42,h43,hm⟩:=qA hm;obtain⟨v44,h45,hm⟩:=qA hm;refine s_du [qc 5 [118,119,121] 11 (qBE a4 x38 (w64 (x38+1)) v42 h43),qc 7 [117,122,123] 11 (VA a1 v42 (Span.mk 0 v36) v44 h45)] [0,0,0,0,8,30,0,127,255] 11 [25] [(26,vi v44)] [] [] ?_;obtain⟨g46,hm⟩:=qG hm
   refine s_vu [qd 6 (drw 11 0 (rf e_i64 ([w64 (a6.Chip*v44)]:List Int))) (litP e_i64 default 1 (λ_=>rfl) ([w64 (a6.Chip*v44)]:List Int) 1 rfl),qd 7 (drw 9 1 (rf e_i64 (l39++([w64 (a6.Chip*v44)]:List Int)))) (apP e_i64 default l39 ([w64 (a6.Chip*v44)]:List Int) l39.length 1 1 8 (1<=1) (Nat.le_refl _) rfl rfl (λ_=>rfl) (zI g46))] 11 [] [] [6,9] [(6,bx 84 [ci (w64 (a4.X.B-a4.X.A)),ci a5.Kerf,ci 1,.own 4 0 1 v10.1.length,.own 7 0 1 o34.length,.own 9 1 1 (l39.length+1),.own 10 0 1 l40.length]),(9,ro 1 3 1 (l39.length+1) (rf e_i64 (l39++([w64 (a6.Chip*v44)]:List Int))))] ?_
   obtain⟨g47,hm⟩:=qG hm
   refine q_vu [qd 6 (drw 12 0 (rf e_i64 ([w64 (a6.Dust*v44)]:List Int))) (litP e_i64 default 1 (λ_=>rfl) ([w64 (a6.Dust*v44)]:List Int) 1 rfl),qd 7 (drw 10 1 (rf e_i64 (l40++([w64 (a6.Dust*v44)]:List Int)))) (apP e_i64 default l40 ([w64 (a6.Dust*v44)]:List Int) l40.length 1 1 8 (1<=1) (Nat.le_refl _) rfl rfl (λ_=>rfl) (zI g47))] 12 [26] [] [6,10] [(6,bx 84 [ci (w64 (a4.X.B-a4.X.A)),ci a5.Kerf,ci 1,.own 4 0 1 v10.1.length,.own 7 0 1 o34.length,.own 9 1 1 (l39.length+1),.own 10 1 1 (l40.length+1)]),(10,ro 1 3 1 (l40.length+1) (rf e_i64 (l40++([w64 (a6.Dust*v44)]:List Int))))] ?_
   refine q_vv [] 13 [114] [(114,vi (w64 (x38+1)))] ?_;exact q_hl (OB a1 a4 a5 a6 v10 o34 v36 (w64 (x38+1)) (l39++([w64 (a6.Chip*v44)]:List Int)) (l39.length+1) (l40++([w64 (a6.Dust*v44)]:List Int)) (l40.length+1)) (ih (w64 (x38+1)) (l39++([w64 (a6.Chip*v44)]:List Int)) (l39.length+1) (l40++([w64 (a6.Dust*v44)]:List Int)) (l40.length+1) _ (len_app rfl rfl) (len_app rfl rfl) hm)
  ·refine q_ex 4 ?_;obtain rfl:=oi hm;exact wH (by kernel_rfl) (by kernel_rfl)
theorem qPA (a1:List qB) (a2:List Defect) (a3:List Product) (a4:Rect) (a5:Saw) (a6:Rates) (r:Line×Int) (hm:qAB a1 a2 a3 a4 a5 a6=some r):CtX Tryz.prog globs 186 0 0 [.one (tl qI default a1),.one (tl qJ default a2),.one (tl qC default a3),.agg (qE a4),.agg (zB a5),.agg (zS a6)] [] (qP4 r) (qQk r):=by
 unfold qAB at hm;refine q_E Tryz.f186 145 λE=>?_;refine s_vn [] 0 ⟨[(0,vc (tl qI default a1)),(1,vc (tl qJ default a2)),(2,vc (tl qC default a3)),(9,vp 0 0),(10,vp 1 0),(11,vp 2 0),(12,vp 3 0)],[(0,bx 33 (qE a4)),(1,bx 38 (zB a5)),(2,bx 40 (zS a6)),(3,bx 84 [ci 0,ci 0,ci 0,.emp,.emp,.emp,.emp])]⟩ ?_;refine q_sq ?_;obtain⟨v7,h8,hm⟩:=qA hm;refine s_vv [qc 6 [27,28,29,30,31,32] 4 (qNB a1 a2 a3 a4 a5 a6 v7 h8)] 4 [] [(14,vi v7)] ?_;refine s_va 4 [(35,vb (v7 !=0))] ?_;refine q_cm hm (λb9 hm=>?_) (λb9 hm=>?_)
 ·refine s_vu [] 4 [0,1,2,9,10,11,14,35] [(13,vi v7)] [0,1,2] [] ?_;refine q_fu [.ownB 3 3 4 3 1 (rf e_i64 ([]:List Int))] [] [] [3] [(3,bx 84 [ci 0,ci 0,ci 0,.own 4 0 1 0,.emp,.emp,.emp]),(4,ro 0 3 1 0 (rf e_i64 ([]:List Int)))] o0 ?_;refine q_fu [.ownB 3 4 5 28 1 (rf (qH e_i64) ([]:List (List Int)))] [] [] [3] [(3,bx 84 [ci 0,ci 0,ci 0,.own 4 0 1 0,.own 5 0 1 0,.emp,.emp]),(5,ro 0 28 1 0 (rf (qH e_i64) ([]:List (List Int))))] o0 ?_
  refine q_fu [.ownB 3 5 6 3 1 (rf e_i64 ([]:List Int))] [] [] [3] [(3,bx 84 [ci 0,ci 0,ci 0,.own 4 0 1 0,.own 5 0 1 0,.own 6 0 1 0,.emp]),(6,ro 0 3 1 0 (rf e_i64 ([]:List Int)))] o0 ?_;refine q_fu [.ownB 3 6 7 3 1 (rf e_i64 ([]:List Int))] [] [] [3] [(3,bx 84 [ci 0,ci 0,ci 0,.own 4 0 1 0,.own 5 0 1 0,.own 6 0 1 0,.own 7 0 1 0]),(7,ro 0 3 1 0 (rf e_i64 ([]:List Int)))] o0 ?_
  refine q_fu [.len 4 (([]:List Int).length)] [] [] [3,4] [(3,bx 84 [ci 0,ci 0,ci 0,.own 4 0 1 (([]:List Int).length),.own 5 0 1 0,.own 6 0 1 0,.own 7 0 1 0]),(4,ro 0 3 1 (([]:List Int).length) (rf e_i64 ([]:List Int)))] (o1 (And.intro (show 0=([]:List Int).length from rfl) (show 0=([]:List Int).length from rfl))) ?_
  refine q_fu [.len 5 (([]:List (List Int)).length)] [] [] [3,5] [(3,bx 84 [ci 0,ci 0,ci 0,.own 4 0 1 (([]:List Int).length),.own 5 0 1 (([]:List (List Int)).length),.own 6 0 1 0,.own 7 0 1 0]),(5,ro 0 28 1 (([]:List (List Int)).length) (rf (qH e_i64) ([]:List (List Int))))] (o1 (And.intro (show 0=([]:List (List Int)).length from rfl) (show 0=([]:List (List Int)).length from rfl))) ?_
  refine q_fu [.len 6 (([]:List Int).length)] [] [] [3,6] [(3,bx 84 [ci 0,ci 0,ci 0,.own 4 0 1 (([]:List Int).length),.own 5 0 1 (([]:List (List Int)).length),.own 6 0 1 (([]:List Int).length),.own 7 0 1 0]),(6,ro 0 3 1 (([]:List Int).length) (rf e_i64 ([]:List Int)))] (o1 (And.intro (show 0=([]:List Int).length from rfl) (show 0=([]:List Int).length from rfl))) ?_
  refine q_fu [.len 7 (([]:List Int).length)] [] [] [3,7] [(3,bx 84 [ci 0,ci 0,ci 0,.own 4 0 1 (([]:List Int).length),.own 5 0 1 (([]:List (List Int)).length),.own 6 0 1 (([]:List Int).length),.own 7 0 1 (([]:List Int).length)]),(7,ro 0 3 1 (([]:List Int).length) (rf e_i64 ([]:List Int)))] (o1 (And.intro (show 0=([]:List Int).length from rfl) (show 0=([]:List Int).length from rfl))) ?_;obtain rfl:=oi hm;refine qT 4 0 (by kernel_rfl) ?_;refine qT 5 1 (by kernel_rfl) ?_;refine qT 6 2 (by kernel_rfl) ?_;refine qT 7 3 (by kernel_rfl) ?_;refine q_rt ?_;exact q_rm
 ·refine q_sk ?_;refine s_vv [] 4 [14,35] [(15,vi (w64 (a4.X.B-a4.X.A)))] ?_;obtain⟨v10,h11,hm⟩:=qA hm;refine s_vu [qc 8 [46,53] 4 (qAF a3 (w64 (a4.Y.B-a4.Y.A)) v10 h11)] 4 [] [(16,vo 4 0 1 v10.1.length),(17,vo 5 0 1 v10.2.length)] [] [(4,ro 0 3 1 v10.1.length (rf e_i64 v10.1)),(5,ro 0 3 1 v10.2.length (rf e_i64 v10.2))] ?_;refine s_vu [] 6 [] [(18,vp 6 0)] [] [(6,bx 84 [ci (w64 (a4.X.B-a4.X.A)),ci a5.Kerf,ci 1,.own 4 0 1 v10.1.length,.emp,.emp,.emp])] ?_;refine q_sq ?_;refine s_vv [] 7 [16] [(62,vo 4 0 1 v10.1.length),(63,vi ((v10.1.length:Nat):Int)),(64,vi 0)] ?_
  refine q_fu [.ownB 6 4 7 28 1 (rf (qH e_i64) ([]:List (List Int)))] [] [] [6] [(6,bx 84 [ci (w64 (a4.X.B-a4.X.A)),ci a5.Kerf,ci 1,.own 4 0 1 v10.1.length,.own 7 0 1 0,.emp,.emp]),(7,ro 0 28 1 0 (rf (qH e_i64) ([]:List (List Int))))] o0 ?_;obtain⟨o34,h35,hm⟩:=qA hm;refine zN (nd Tryz.f186 1012) 0 (by kernel_rfl) FUEL (λo=>qDp a1 a4 a5 a6 v10 o) o34 (q_hl (OP a1 a2 a3 a4 a5 a6 v10 0 ([]:List (List Int)) 0) (qJD E a1 a2 a3 a4 a5 a6 v10 FUEL 0 ([]:List (List Int)) 0 o34 rfl h35)) ?_;obtain⟨v36,h37,hm⟩:=qA hm
  refine s_vu [qc 1 [110] 8 (YK a1 v36 h37)] 8 [] [(24,vp 8 0)] [] [(8,bx 31 [ci 0,ci v36])] ?_;refine q_sq ?_;refine s_vv [] 9 [15] [(113,vi (w64 (a4.X.B-a4.X.A))),(114,vi 0)] ?_;refine q_fu [.ownB 6 5 9 3 1 (rf e_i64 ([]:List Int))] [] [] [6] [(6,bx 84 [ci (w64 (a4.X.B-a4.X.A)),ci a5.Kerf,ci 1,.own 4 0 1 v10.1.length,.own 7 0 1 o34.length,.own 9 0 1 0,.emp]),(9,ro 0 3 1 0 (rf e_i64 ([]:List Int)))] o0 ?_
  refine q_fu [.ownB 6 6 10 3 1 (rf e_i64 ([]:List Int))] [] [] [6] [(6,bx 84 [ci (w64 (a4.X.B-a4.X.A)),ci a5.Kerf,ci 1,.own 4 0 1 v10.1.length,.own 7 0 1 o34.length,.own 9 0 1 0,.own 10 0 1 0]),(10,ro 0 3 1 0 (rf e_i64 ([]:List Int)))] o0 ?_;obtain⟨o50,h51,hm⟩:=qA hm;refine zN (nd Tryz.f186 4084) 4 (by kernel_rfl) FUEL (λo=>qDF a4 a5 v10 o34 o.1 o.2) o50 (q_hl (OB a1 a4 a5 a6 v10 o34 v36 0 ([]:List Int) 0 ([]:List Int) 0) (qK5 E a1 a4 a5 a6 v10 o34 v36 FUEL 0 ([]:List Int) 0 ([]:List Int) 0 o50 rfl rfl h51)) ?_
  refine s_vu [] 11 [18] [(13,vi 0)] [3,6] [(3,bx 84 [ci (w64 (a4.X.B-a4.X.A)),ci a5.Kerf,ci 1,.own 4 0 1 v10.1.length,.own 7 0 1 o34.length,.own 9 0 1 o50.1.length,.own 10 0 1 o50.2.length])] ?_;obtain rfl:=oi hm;refine qT 4 0 (by kernel_rfl) ?_;refine qT 7 1 (by kernel_rfl) ?_;refine qT 9 2 (by kernel_rfl) ?_;refine qT 10 3 (by kernel_rfl) ?_;refine q_rt ?_;exact q_rm
def qJl (r:Int):V:=vi r
def qIC (r:Int):List (Nat×(Nat×O)):=[]
theorem qAR (a1:Line) (a2:Int) (r:Int) (hm:KE a1 a2=some r):CtX Tryz.prog globs 152 0 0 [.agg (yA a1),.one (ci a2)] [] (qJl r) (qIC r):=by
 unfold KE at hm;refine q_E Tryz.f152 16 λE=>?_;refine s_vn [] 0 ⟨[(1,vi a2),(2,vp 0 0)],[(0,bx 84 (yA a1))]⟩ ?_;refine q_sq ?_;refine s_va 1 [(8,vb (a2==a1.Len))] ?_;refine q_cm hm (λb3 hm=>?_) (λb3 hm=>?_)
 ·refine s_vn [] 1 ⟨[(4,vi (-1))],[]⟩ ?_;obtain rfl:=oi hm;refine q_rt ?_;exact q_rm
 ·refine q_sk ?_;refine s_vn [] 1 ⟨[(4,vi (imin (w64 (a2+a1.Kerf)) a1.Len))],[]⟩ ?_;obtain rfl:=oi hm;refine q_rt ?_;exact q_rm
def qIp (r:Int):V:=vi r
def qIn (r:Int):List (Nat×(Nat×O)):=[]
theorem qHG (a1:Line) (a2:Int) (r:Int) (hm:LO a1 a2=some r):CtX Tryz.prog globs 192 0 0 [.agg (yA a1),.one (ci a2)] [] (qIp r) (qIn r):=by
 unfold LO at hm;refine q_E Tryz.f192 11 λE=>?_;refine s_vn [] 0 ⟨[(1,vi a2),(2,vp 0 0)],[(0,bx 84 (yA a1))]⟩ ?_;refine s_vn [] 1 ⟨[(4,vi (imax 0 (w64 ((w64 (a1.Len-a2))+1))))],[]⟩ ?_;obtain rfl:=oi hm;refine q_rt ?_;exact q_rm
def FW (r:Int):V:=vi r
def NF (r:Int):List (Nat×(Nat×O)):=[]
def qDz (a1:Line) (x10:Int) (x14:Bool):St:=
 ⟨[(38,vc (tl e_i64 default a1.Sizes)),(39,vi ((a1.Sizes.length:Nat):Int)),(40,vi x10),(49,vb x14)],[]⟩
def TY (a1:Line) (x10:Int):St:=
 ⟨[(38,vc (tl e_i64 default a1.Sizes)),(39,vi ((a1.Sizes.length:Nat):Int)),(40,vi x10)],[]⟩
def EE :St:=
 ⟨[],[]⟩
def qDV (a1:Line) (x7:Bool):St:=
 ⟨[(1,vp 0 0),(32,vb x7)],[(0,bx 84 (yA a1))]⟩
theorem qDj (E:Env 0) (a1:Line):∀(n:Nat) (x10:Int) (res:Int⊕Unit),wT a1 n x10=some res->HL (kx E 51 0) (nd Tryz.f191 244) (wI 0 (λo=>EE) (λv st=>RetQ Tryz.prog Tryz.f191 (FW v) (NF v) .ret st) res) n (TY a1 x10):=by
 intro n
 induction n with
 |zero=>
  intro x10 res hm;cases hm
 |succ n ih=>
  intro x10 res hm;refine qM ?_;refine s_va 1 [(41,vb (decide (x10<((a1.Sizes.length:Nat):Int))))] ?_;refine q_sq ?_;refine q_cm hm (λb11 hm=>?_) (λb11 hm=>?_)
  ·refine q_sk ?_;refine q_sq ?_;refine q_bk 1 ?_;obtain⟨g12,hm⟩:=qG hm;refine s_vv [qi 0 g12] 1 [41] [(4,vi (a1.Sizes.getD x10.toNat default))] ?_;refine q_jn (qDz a1 x10) (λp=>PF x10 (wT a1 n) p=some res) ?_ ?_
   ·rintro x14 hm;refine q_cm hm (λb15 hm=>?_) (λb15 hm=>?_)
    ·refine s_vn [] 1 ⟨[(2,vi 9)],[]⟩ ?_;obtain rfl:=oi hm;refine q_rt ?_;refine qY 9 ?_;exact q_rm
    ·refine q_sk ?_;refine q_vv [] 1 [40,49] [(40,vi (w64 (x10+1)))] ?_;exact q_hl (TY a1 (w64 (x10+1))) (ih (w64 (x10+1)) _ hm)
   ·rcases bif_c hm with⟨b13,hm⟩|⟨b13,hm⟩
    ·refine q_vv [qf 2 b13] 1 [4] [(49,vb true)] ?_;exact q_J (true) hm
    ·refine q_vv [qf 2 b13] 1 [4] [(49,vb (decide ((a1.Sizes.getD x10.toNat default)>2000)))] ?_;exact q_J (decide ((a1.Sizes.getD x10.toNat default)>2000)) hm
  ·refine q_ex 0 ?_;obtain rfl:=oi hm;exact wR () (by kernel_rfl) (by kernel_rfl)
theorem qFg (a1:Line) (r:Int) (hm:KT a1=some r):CtX Tryz.prog globs 191 0 0 [.agg (yA a1)] [] (FW r) (NF r):=by
 unfold KT at hm;refine q_E Tryz.f191 51 λE=>?_;refine s_vn [] 0 ⟨[(1,vp 0 0)],[(0,bx 84 (yA a1))]⟩ ?_;refine q_sq ?_;refine q_jn (qDV a1) (λp=>wU a1 p=some r) ?_ ?_
 ·rintro x7 hm;refine q_cm hm (λb8 hm=>?_) (λb8 hm=>?_)
  ·refine s_vn [] 1 ⟨[(2,vi 9)],[]⟩ ?_;obtain rfl:=oi hm;refine q_rt ?_;exact q_rm
  ·refine q_sk ?_;refine q_sq ?_;refine s_vv [] 1 [32] [(36,vb (decide (((a1.Sizes.length:Nat):Int)>32)))] ?_;refine q_cm hm (λb9 hm=>?_) (λb9 hm=>?_)
   ·refine s_vn [] 1 ⟨[(2,vi 4)],[]⟩ ?_;obtain rfl:=oi hm;refine q_rt ?_;exact q_rm
   ·refine q_sk ?_;refine q_sq ?_;refine s_vn [] 1 ⟨[(38,vc (tl e_i64 default a1.Sizes)),(39,vi ((a1.Sizes.length:Nat):Int)),(40,vi 0)],[]⟩ ?_;obtain⟨u18,h17,hm⟩:=qA hm;refine zQ (nd Tryz.f191 244) 0 (by kernel_rfl) FUEL (λo=>EE) (λv st=>RetQ Tryz.prog Tryz.f191 (FW v) (NF v) .ret st) u18 (q_hl (TY a1 0) (qDj E a1 FUEL 0 u18 h17)) ?_ ?_
    ·rintro v19 rfl st hr;obtain rfl:=oi hm;exact hr
    ·rintro o16 rfl;replace hm:_=some r:=hm;refine s_vn [] 1 ⟨[(2,vi 0)],[]⟩ ?_;obtain rfl:=oi hm;refine q_rt ?_;exact q_rm
 ·rcases bif_c hm with⟨b2,hm⟩|⟨b2,hm⟩
  ·refine q_vv [qf 3 b2] 1 [] [(32,vb true)] ?_;exact q_J (true) hm
  ·rcases bif_c hm with⟨b3,hm⟩|⟨b3,hm⟩
   ·refine q_vv [qf 3 b2,qf 8 b3] 1 [] [(32,vb true)] ?_;exact q_J (true) hm
   ·rcases bif_c hm with⟨b4,hm⟩|⟨b4,hm⟩
    ·refine q_vv [qf 3 b2,qf 8 b3,qf 13 b4] 1 [] [(32,vb true)] ?_;exact q_J (true) hm
    ·rcases bif_c hm with⟨b5,hm⟩|⟨b5,hm⟩
     ·refine q_vv [qf 3 b2,qf 8 b3,qf 13 b4,qf 18 b5] 1 [] [(32,vb true)] ?_;exact q_J (true) hm
     ·rcases bif_c hm with⟨b6,hm⟩|⟨b6,hm⟩
      ·refine q_vv [qf 3 b2,qf 8 b3,qf 13 b4,qf 18 b5,qf 23 b6] 1 [] [(32,vb true)] ?_;exact q_J (true) hm
      ·refine q_vv [qf 3 b2,qf 8 b3,qf 13 b4,qf 18 b5,qf 23 b6] 1 [] [(32,vb (decide (a1.Pitch>2000)))] ?_;exact q_J (decide (a1.Pitch>2000)) hm
def YN (r:Bool):V:=vb r
def QE (r:Bool):List (Nat×(Nat×O)):=[]
theorem qKE (r:Bool):yT (QE r):=by
 intro i k o h;unfold QE at h;cases h
def AL (a1:List (List Int)) (x2:Int) (x5:Int):St:=
 ⟨[(7,vc (tl (qH e_i64) default a1)),(8,vi ((a1.length:Nat):Int)),(9,vi x2),(13,vc (tl e_i64 default (a1.getD x2.toNat default))),(14,vi (((a1.getD x2.toNat default).length:Nat):Int)),(15,vi x5)],[]⟩
def qFD (a1:List (List Int)) (x2:Int) (x5:Int) (x9:Bool):St:=
 (AL a1 x2 x5).up [] [(24,vb x9)] [] []
def NA (a1:List (List Int)) (x2:Int) (x5:Int):St:=
 (AL a1 x2 x5).up [] [] [] []
def CZ (a1:List (List Int)) (x2:Int):St:=
 ⟨[(7,vc (tl (qH e_i64) default a1)),(8,vi ((a1.length:Nat):Int)),(9,vi x2)],[]⟩
def FG (a1:List (List Int)) (x2:Int):St:=
 ⟨[(7,vc (tl (qH e_i64) default a1)),(8,vi ((a1.length:Nat):Int)),(9,vi x2)],[]⟩
def qAu :St:=
 ⟨[],[]⟩
theorem qFj (E:Env 0) (a1:List (List Int)) (x2:Int):∀(n:Nat) (x5:Int) (res:Bool⊕Unit),jY a1 x2 n x5=some res->HL (kx E 27 0) (nd Tryz.f193 13516) (wI 2 (λo=>CZ a1 x2) (λv st=>RetQ Tryz.prog Tryz.f193 (YN v) (QE v) .ret st) res) n (NA a1 x2 x5):=by
 intro n
 induction n with
 |zero=>
  intro x5 res hm;cases hm
 |succ n ih=>
  intro x5 res hm;refine qM ?_;refine s_va 0 [(16,vb (decide (x5<(((a1.getD x2.toNat default).length:Nat):Int))))] ?_;refine q_sq ?_;refine q_cm hm (λb6 hm=>?_) (λb6 hm=>?_)
  ·refine q_sk ?_;refine q_sq ?_;refine q_bk 3 ?_;obtain⟨g7,hm⟩:=qG hm;refine s_vv [qi 0 g7] 0 [16] [(6,vi ((a1.getD x2.toNat default).getD x5.toNat default))] ?_;refine q_jn (qFD a1 x2 x5) (λp=>DG x5 (jY a1 x2 n) p=some res) ?_ ?_
   ·rintro x9 hm;refine q_cm hm (λb10 hm=>?_) (λb10 hm=>?_)
    ·refine s_vn [] 0 ⟨[(2,vb false)],[]⟩ ?_;obtain rfl:=oi hm;refine q_rt ?_;refine qY false ?_;exact q_rm
    ·refine q_sk ?_;refine q_vv [] 0 [15,24] [(15,vi (w64 (x5+1)))] ?_;exact q_hl (NA a1 x2 (w64 (x5+1))) (ih (w64 (x5+1)) _ hm)
   ·rcases bif_c hm with⟨b8,hm⟩|⟨b8,hm⟩
    ·refine q_vv [qf 2 b8] 0 [6] [(24,vb true)] ?_;exact q_J (true) hm
    ·refine q_vv [qf 2 b8] 0 [6] [(24,vb (decide (((a1.getD x2.toNat default).getD x5.toNat default)>1125899906842624)))] ?_;exact q_J (decide (((a1.getD x2.toNat default).getD x5.toNat default)>1125899906842624)) hm
  ·refine q_ex 2 ?_;obtain rfl:=oi hm;exact wR () (by kernel_rfl) (by kernel_rfl)
theorem qFh (E:Env 0) (a1:List (List Int)):∀(n:Nat) (x2:Int) (res:Bool⊕Unit),JB a1 n x2=some res->HL (kx E 27 0) (nd Tryz.f193 52) (wI 0 (λo=>qAu) (λv st=>RetQ Tryz.prog Tryz.f193 (YN v) (QE v) .ret st) res) n (FG a1 x2):=by
 intro n
 induction n with
 |zero=>
  intro x2 res hm;cases hm
 |succ n ih=>
  intro x2 res hm;refine qM ?_;refine s_va 0 [(10,vb (decide (x2<((a1.length:Nat):Int))))] ?_;refine q_sq ?_;refine q_cm hm (λb3 hm=>?_) (λb3 hm=>?_)
  ·refine q_sk ?_;refine q_sq ?_;refine q_bk 1 ?_;obtain⟨g4,hm⟩:=qG hm;refine s_vv [qi 0 g4] 0 [10] [(4,vc (tl e_i64 default (a1.getD x2.toNat default)))] ?_;refine s_vv [] 0 [4] [(13,vc (tl e_i64 default (a1.getD x2.toNat default))),(14,vi (((a1.getD x2.toNat default).length:Nat):Int)),(15,vi 0)] ?_;obtain⟨u13,h12,hm⟩:=qA hm;refine zQ (nd Tryz.f193 13516) 2 (by kernel_rfl) FUEL (λo=>CZ a1 x2) (λv st=>RetQ Tryz.prog Tryz.f193 (YN v) (QE v) .ret st) u13 (q_hl (NA a1 x2 0) (qFj E a1 x2 FUEL 0 u13 h12)) ?_ ?_
   ·rintro v14 rfl st hr;obtain rfl:=oi hm;exact qY v14 hr
   ·rintro o11 rfl;replace hm:_=some res:=hm;refine q_vv [] 0 [9] [(9,vi (w64 (x2+1)))] ?_;exact q_hl (FG a1 (w64 (x2+1))) (ih (w64 (x2+1)) _ hm)
  ·refine q_ex 0 ?_;obtain rfl:=oi hm;exact wR () (by kernel_rfl) (by kernel_rfl)
theorem SP (a1:List (List Int)) (r:Bool) (hm:PR a1=some r):CtX Tryz.prog globs 193 0 0 [.one (tl (qH e_i64) default a1)] [] (YN r) (QE r):=by
 unfold PR at hm;refine q_E Tryz.f193 27 λE=>?_;refine s_vn [] 0 ⟨[(0,vc (tl (qH e_i64) default a1))],[]⟩ ?_;refine q_sq ?_;refine s_vn [] 0 ⟨[(7,vc (tl (qH e_i64) default a1)),(8,vi ((a1.length:Nat):Int)),(9,vi 0)],[]⟩ ?_;obtain⟨u17,h16,hm⟩:=qA hm;refine zQ (nd Tryz.f193 52) 0 (by kernel_rfl) FUEL (λo=>qAu) (λv st=>RetQ Tryz.prog Tryz.f193 (YN v) (QE v) .ret st) u17 (q_hl (FG a1 0) (qFh E a1 FUEL 0 u17 h16)) ?_ ?_
 ·rintro v18 rfl st hr;obtain rfl:=oi hm;exact hr
 ·rintro o15 rfl;replace hm:_=some r:=hm;refine s_vn [] 0 ⟨[(2,vb true)],[]⟩ ?_;obtain rfl:=oi hm;refine q_rt ?_;exact q_rm
end Saw
end Go.SL

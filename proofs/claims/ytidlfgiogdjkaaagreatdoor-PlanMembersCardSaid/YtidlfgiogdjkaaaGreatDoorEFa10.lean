import Derived.Test.YtidlfgiogdjkaaaGreatDoorEBase
import Derived.Test.YtidlfgiogdjkaaaGreatDoorEFa9
set_option linter.unusedVariables false
set_option linter.unusedSimpArgs false
namespace Go.SL
namespace Saw
open Go.Proofs
set_option maxHeartbeats 4000000
set_option maxRecDepth 100000
def qAJ (r:(List Ref24_part)×Bool):V:= .tup [.one (.own 0 0 4 r.1.length),.one (cb r.2)]
def qAT (r:(List Ref24_part)×Bool):List (Nat×(Nat×O)):=[(0,ro 0 110 4 r.1.length (rf qM r.1))]
def qIY (l5:List Ref24_part) (x15:Bool):St:=
 ⟨[(8,vo 1 0 4 l5.length),(9,vb x15)],[(1,ro 0 110 4 l5.length (rf qM l5))]⟩
def qJp (a1:List Node) (a2:Span) (a3:Int) (a4:Int) (l5:List Ref24_part) (x6:Int) (x7:Int) (x8:Bool) (x22:Bool):St:=
 ⟨[(0,vc (tl e_Node default a1)),(2,vi a3),(3,vi a4),(5,vp 0 0),(10,vo 1 0 4 l5.length),(11,vi x6),(12,vi x7),(13,vb x8),(14,vp 2 0),(77,vb x22)],[(0,bx 31 (e_Span a2)),(1,ro 0 110 4 l5.length (rf qM l5)),(2,bx 65 [ci ((a1.getD x6.toNat default).Kind),ci ((a1.getD x6.toNat default).At)])]⟩
def GS (a1:List Node) (a2:Span) (a3:Int) (a4:Int) (l5:List Ref24_part) (l5n:Nat) (x6:Int) (x7:Int) (x8:Bool):St:=
 ⟨[(0,vc (tl e_Node default a1)),(2,vi a3),(3,vi a4),(5,vp 0 0),(10,vo 1 0 4 l5n),(11,vi x6),(12,vi x7),(13,vb x8)],[(0,bx 31 (e_Span a2)),(1,ro 0 110 4 l5n (rf qM l5))]⟩
def qBT :St:=
 ⟨[],[]⟩
theorem qHB (E:Env 0) (a1:List Node) (a2:Span) (a3:Int) (a4:Int):∀(n:Nat) (l5:List Ref24_part) (l5n:Nat) (x6:Int) (x7:Int) (x8:Bool) (res:((List Ref24_part)×Bool)⊕Unit),l5.length=l5n->zN a1 a2 a3 a4 n l5 x6 x7 x8=some res->HL (kx E 119 0) (nd Tryz.f57 120) (zW 0 (λo=>qBT) (λv st=>RetQ Tryz.prog Tryz.f57 (qAJ v) (qAT v) .ret st) res) n (GS a1 a2 a3 a4 l5 l5n x6 x7 x8):=by
 intro n
 induction n with
 |zero=>
  intro l5 l5n x6 x7 x8 res hl0 hm;cases hm
 |succ n ih=>
  intro l5 l5n x6 x7 x8 res hl0 hm;subst hl0;refine qK ?_;refine q_sq ?_;refine s_va 2 [(22,vb (decide (x6<((a1.length:Nat):Int))))] ?_;refine q_cm hm (λb9 hm=>?_) (λb9 hm=>?_)
  ·refine q_sk ?_;refine q_bk 1 ?_;obtain⟨g10,hm⟩:=qE hm;refine s_vu [qi 2 g10] 2 [22] [(14,vp 2 0)] [] [(2,bx 65 [ci ((a1.getD x6.toNat default).Kind),ci ((a1.getD x6.toNat default).At)])] ?_;refine q_sq ?_;obtain⟨v11,h12,hm⟩:=qA hm;refine s_vv [qc 1 [27] 3 (qEw (a1.getD x6.toNat default) v11 h12)] 3 [] [(28,vb v11)] ?_;refine q_cm hm (λb13 hm=>?_) (λb13 hm=>?_)
   ·refine q_jn (qIY l5) (λp=>TY l5 p=some res) ?_ ?_
    ·rintro x15 hm;obtain rfl:=oi hm;refine qS 1 0 (by kernel_rfl) ?_;refine q_rt ?_;refine qU (l5,x15) ?_;exact q_rm
    ·rcases bif_c hm with⟨b14,hm⟩|⟨b14,hm⟩
     ·refine q_vu [qf 3 b14] 3 [0,2,3,5,10,11,12,13,14,28] [(8,vo 1 0 4 l5.length),(9,vb (x6==(w64 (((a1.length:Nat):Int)-1))))] [0,2] [] ?_;exact q_J (x6==(w64 (((a1.length:Nat):Int)-1))) hm
     ·refine q_vu [qf 3 b14] 3 [0,2,3,5,10,11,12,13,14,28] [(8,vo 1 0 4 l5.length),(9,vb false)] [0,2] [] ?_;exact q_J (false) hm
   ·refine q_sk ?_;refine q_sq ?_;refine s_vv [] 3 [28] [(42,vb (((a1.getD x6.toNat default).Kind) !=a3))] ?_;refine q_cm hm (λb16 hm=>?_) (λb16 hm=>?_)
    ·obtain⟨v17,h18,hm⟩:=qA hm;refine s_vu [qc 2 [43,44] 3 (qFm a1 x6 v17 h18)] 3 [2,3,13,14,42] [(15,vi v17)] [2] [] ?_;obtain⟨g19,hm⟩:=qE hm
     refine s_vn [qd 8 (drw 3 0 (rf qM ([(Ref24_part.mk (Span.mk x7 a2.B) x6 v17)]:List Ref24_part))) (litP qM default 4 (λ_=>rfl) ([(Ref24_part.mk (Span.mk x7 a2.B) x6 v17)]:List Ref24_part) 1 rfl),qd 9 (drw 1 1 (rf qM (l5++([(Ref24_part.mk (Span.mk x7 a2.B) x6 v17)]:List Ref24_part)))) (apP qM default l5 ([(Ref24_part.mk (Span.mk x7 a2.B) x6 v17)]:List Ref24_part) l5.length 1 4 32 (1<=1) (Nat.le_refl _) rfl rfl (λ_=>rfl) (qX g19))] 3 ⟨[(8,vo 1 1 4 (l5.length+1)),(9,vb (v17==((a1.length:Nat):Int)))],[(1,ro 1 110 4 (l5.length+1) (rf qM (l5++([(Ref24_part.mk (Span.mk x7 a2.B) x6 v17)]:List Ref24_part))))]⟩ ?_
     refine q_fu [.len 1 ((l5++([(Ref24_part.mk (Span.mk x7 a2.B) x6 v17)]:List Ref24_part)).length)] [8] [(8,vo 1 1 4 ((l5++([(Ref24_part.mk (Span.mk x7 a2.B) x6 v17)]:List Ref24_part)).length))] [1] [(1,ro 1 110 4 ((l5++([(Ref24_part.mk (Span.mk x7 a2.B) x6 v17)]:List Ref24_part)).length) (rf qM (l5++([(Ref24_part.mk (Span.mk x7 a2.B) x6 v17)]:List Ref24_part))))] (o1 (And.intro (Eq.symm (show(l5++([(Ref24_part.mk (Span.mk x7 a2.B) x6 v17)]:List Ref24_part)).length=(l5.length+1) from(len_app rfl rfl))) (Eq.symm (show(l5++([(Ref24_part.mk (Span.mk x7 a2.B) x6 v17)]:List Ref24_part)).length=(l5.length+1) from(len_app rfl rfl))))) ?_
     obtain rfl:=oi hm;refine qS 1 0 (by kernel_rfl) ?_;refine q_rt ?_;refine qU ((l5++([(Ref24_part.mk (Span.mk x7 a2.B) x6 v17)]:List Ref24_part)),v17==((a1.length:Nat):Int)) ?_;exact q_rm
    ·refine q_sk ?_;refine q_sq ?_;refine q_jn (qJp a1 a2 a3 a4 l5 x6 x7 x8) (λp=>QN a1 a2 a4 l5 x6 x7 x8 (zN a1 a2 a3 a4 n) p=some res) ?_ ?_
     ·rintro x22 hm;refine q_cm hm (λb23 hm=>?_) (λb23 hm=>?_)
      ·refine s_vn [] 3 ⟨[(8,vc (.emp)),(9,vb false)],[]⟩ ?_;refine q_fu [.own 8 3 110 4 (rf qM ([]:List Ref24_part))] [8] [(8,vo 3 0 4 0)] [] [(3,ro 0 110 4 0 (rf qM ([]:List Ref24_part)))] o0 ?_;refine q_fu [.len 3 (([]:List Ref24_part).length)] [8] [(8,vo 3 0 4 (([]:List Ref24_part).length))] [3] [(3,ro 0 110 4 (([]:List Ref24_part).length) (rf qM ([]:List Ref24_part)))] (o1 (And.intro (show 0=([]:List Ref24_part).length from rfl) (show 0=([]:List Ref24_part).length from rfl))) ?_;obtain rfl:=oi hm;refine qS 3 0 (by kernel_rfl) ?_;refine q_rt ?_;refine qU (([]:List Ref24_part),false) ?_
       exact q_rm
      ·refine q_sk ?_;refine q_sq ?_;obtain⟨g24,hm⟩:=qE hm;obtain⟨v25,h26,hm⟩:=qA hm;refine s_vv [qi 3 g24,qc 5 [82] 3 (qEw (a1.getD (w64 (x6+1)).toNat default) v25 h26)] 3 [77] [(83,vb v25)] ?_;refine q_cm hm (λb27 hm=>?_) (λb27 hm=>?_)
       ·refine q_sq ?_;refine s_vv [] 3 [12,13,83] [(84,vb x8)] ?_;refine q_cm hm (λb28 hm=>?_) (λb28 hm=>?_)
        ·refine s_vn [] 3 ⟨[(8,vc (.emp)),(9,vb false)],[]⟩ ?_;refine q_fu [.own 8 3 110 4 (rf qM ([]:List Ref24_part))] [8] [(8,vo 3 0 4 0)] [] [(3,ro 0 110 4 0 (rf qM ([]:List Ref24_part)))] o0 ?_;refine q_fu [.len 3 (([]:List Ref24_part).length)] [8] [(8,vo 3 0 4 (([]:List Ref24_part).length))] [3] [(3,ro 0 110 4 (([]:List Ref24_part).length) (rf qM ([]:List Ref24_part)))] (o1 (And.intro (show 0=([]:List Ref24_part).length from rfl) (show 0=([]:List Ref24_part).length from rfl))) ?_;obtain rfl:=oi hm;refine qS 3 0 (by kernel_rfl) ?_;refine q_rt ?_;refine qU (([]:List Ref24_part),false) ?_
         exact q_rm
        ·refine q_sk ?_;refine s_du [] [0,1,0,4,0,28,0,64,252,3,1023,2047] 3 [11,14,84] [(11,vi (w64 (x6+2))),(12,vi (imin (w64 (((a1.getD x6.toNat default).At)+a4)) a2.B)),(13,vb true)] [2] [] ?_;refine q_ex 1 ?_;exact q_hl (GS a1 a2 a3 a4 l5 l5.length (w64 (x6+2)) (imin (w64 (((a1.getD x6.toNat default).At)+a4)) a2.B) true) (ih l5 l5.length (w64 (x6+2)) (imin (w64 (((a1.getD x6.toNat default).At)+a4)) a2.B) true _ rfl hm)
       ·refine q_sk ?_;obtain⟨v29,h30,hm⟩:=qA hm;refine s_vv [qc 3 [94,96] 3 (qFm a1 (w64 (x6+1)) v29 h30)] 3 [13,83] [(16,vi v29)] ?_;refine q_sq ?_;refine s_va 3 [(99,vb (decide (v29<0)))] ?_;refine q_cm hm (λb31 hm=>?_) (λb31 hm=>?_)
        ·refine s_vn [] 3 ⟨[(8,vc (.emp)),(9,vb false)],[]⟩ ?_;refine q_fu [.own 8 3 110 4 (rf qM ([]:List Ref24_part))] [8] [(8,vo 3 0 4 0)] [] [(3,ro 0 110 4 0 (rf qM ([]:List Ref24_part)))] o0 ?_;refine q_fu [.len 3 (([]:List Ref24_part).length)] [8] [(8,vo 3 0 4 (([]:List Ref24_part).length))] [3] [(3,ro 0 110 4 (([]:List Ref24_part).length) (rf qM ([]:List Ref24_part)))] (o1 (And.intro (show 0=([]:List Ref24_part).length from rfl) (show 0=([]:List Ref24_part).length from rfl))) ?_;obtain rfl:=oi hm;refine qS 3 0 (by kernel_rfl) ?_;refine q_rt ?_;refine qU (([]:List Ref24_part),false) ?_
         exact q_rm
        ·refine q_sk ?_;obtain⟨g32,hm⟩:=qE hm
         refine s_vu [qd 9 (drw 3 0 (rf qM ([(Ref24_part.mk (Span.mk x7 ((a1.getD x6.toNat default).At)) (w64 (x6+1)) v29)]:List Ref24_part))) (litP qM default 4 (λ_=>rfl) ([(Ref24_part.mk (Span.mk x7 ((a1.getD x6.toNat default).At)) (w64 (x6+1)) v29)]:List Ref24_part) 1 rfl),qd 10 (drw 1 1 (rf qM (l5++([(Ref24_part.mk (Span.mk x7 ((a1.getD x6.toNat default).At)) (w64 (x6+1)) v29)]:List Ref24_part)))) (apP qM default l5 ([(Ref24_part.mk (Span.mk x7 ((a1.getD x6.toNat default).At)) (w64 (x6+1)) v29)]:List Ref24_part) l5.length 1 4 32 (1<=1) (Nat.le_refl _) rfl rfl (λ_=>rfl) (qX g32))] 3 [10,11,12,99] [(10,vo 1 1 4 (l5.length+1))] [1] [(1,ro 1 110 4 (l5.length+1) (rf qM (l5++([(Ref24_part.mk (Span.mk x7 ((a1.getD x6.toNat default).At)) (w64 (x6+1)) v29)]:List Ref24_part))))] ?_
         refine q_du [] [0,0,2,0,14,0,32,126,1,511,1023] 4 [14,16] [(11,vi v29),(12,vi (imin (w64 (((a1.getD x6.toNat default).At)+a4)) a2.B)),(13,vb false)] [2] [] ?_;exact q_hl (GS a1 a2 a3 a4 (l5++([(Ref24_part.mk (Span.mk x7 ((a1.getD x6.toNat default).At)) (w64 (x6+1)) v29)]:List Ref24_part)) (l5.length+1) v29 (imin (w64 (((a1.getD x6.toNat default).At)+a4)) a2.B) false) (ih (l5++([(Ref24_part.mk (Span.mk x7 ((a1.getD x6.toNat default).At)) (w64 (x6+1)) v29)]:List Ref24_part)) (l5.length+1) v29 (imin (w64 (((a1.getD x6.toNat default).At)+a4)) a2.B) false _ (len_app rfl rfl) hm)
     ·rcases bif_c hm with⟨b20,hm⟩|⟨b20,hm⟩
      ·refine q_vv [qf 4 b20] 3 [42] [(77,vb true)] ?_;exact q_J (true) hm
      ·rcases bif_c hm with⟨b21,hm⟩|⟨b21,hm⟩
       ·refine q_vv [qf 4 b20,qf 11 b21] 3 [42] [(77,vb true)] ?_;exact q_J (true) hm
       ·refine q_vv [qf 4 b20,qf 11 b21] 3 [42] [(77,vb (decide ((w64 (x6+1))≥((a1.length:Nat):Int))))] ?_;exact q_J (decide ((w64 (x6+1))≥((a1.length:Nat):Int))) hm
  ·refine q_ex 0 ?_;obtain rfl:=oi hm;exact wA () (by kernel_rfl) (by kernel_rfl)
theorem qEe (a1:List Node) (a2:Span) (a3:Int) (a4:Int) (r:(List Ref24_part)×Bool) (hm:DN a1 a2 a3 a4=some r):CtX Tryz.prog globs 57 0 0 [.one (tl e_Node default a1),.agg (e_Span a2),.one (ci a3),.one (ci a4)] [] (qAJ r) (qAT r):=by
 unfold DN at hm;refine q_E Tryz.f57 119 λE=>?_;refine s_vn [] 0 ⟨[(0,vc (tl e_Node default a1)),(2,vi a3),(3,vi a4),(5,vp 0 0)],[(0,bx 31 (e_Span a2))]⟩ ?_;refine s_va 1 [(10,vc (.emp))] ?_;refine s_du [] [0,1,0,7,15] 1 [] [(11,vi 0),(12,vi a2.A),(13,vb false)] [] [] ?_;refine q_sq ?_;refine q_fu [.own 10 1 110 4 (rf qM ([]:List Ref24_part))] [10] [(10,vo 1 0 4 0)] [] [(1,ro 0 110 4 0 (rf qM ([]:List Ref24_part)))] o0 ?_;obtain⟨u35,h34,hm⟩:=qA hm
 refine zA (nd Tryz.f57 120) 0 (by kernel_rfl) FUEL (λo=>qBT) (λv st=>RetQ Tryz.prog Tryz.f57 (qAJ v) (qAT v) .ret st) u35 (q_hl (GS a1 a2 a3 a4 ([]:List Ref24_part) 0 0 a2.A false) (qHB E a1 a2 a3 a4 FUEL ([]:List Ref24_part) 0 0 a2.A false u35 rfl h34)) ?_ ?_
 ·rintro v36 rfl st hr;obtain rfl:=oi hm;exact hr
 ·rintro o33 rfl;replace hm:_=some r:=hm;refine s_vn [] 2 ⟨[(8,vc (.emp)),(9,vb false)],[]⟩ ?_;refine q_fu [.own 8 2 110 4 (rf qM ([]:List Ref24_part))] [8] [(8,vo 2 0 4 0)] [] [(2,ro 0 110 4 0 (rf qM ([]:List Ref24_part)))] o0 ?_;refine q_fu [.len 2 (([]:List Ref24_part).length)] [8] [(8,vo 2 0 4 (([]:List Ref24_part).length))] [2] [(2,ro 0 110 4 (([]:List Ref24_part).length) (rf qM ([]:List Ref24_part)))] (o1 (And.intro (show 0=([]:List Ref24_part).length from rfl) (show 0=([]:List Ref24_part).length from rfl))) ?_;obtain rfl:=oi hm;refine qS 2 0 (by kernel_rfl) ?_;refine q_rt ?_;exact q_rm
def qNQ (r:(List Int)×(List Int)):V:= .tup [.one (.own 0 0 1 r.1.length),.one (.own 1 0 1 r.2.length)]
def qNY (r:(List Int)×(List Int)):List (Nat×(Nat×O)):=[(0,ro 0 3 1 r.1.length (rf e_i64 r.1)),(1,ro 0 3 1 r.2.length (rf e_i64 r.2))]
def qBB (a1:List Product) (a2:Int) (x8:Int) (l19:List Int) (l19n:Nat) (l20:List Int) (l20n:Nat):St:=
 ⟨[(0,vc (tl qC default a1)),(1,vi a2),(6,vo 0 0 1 l19n),(7,vo 1 0 1 l20n),(8,vi x8)],[(0,ro 0 3 1 l19n (rf e_i64 l19)),(1,ro 0 3 1 l20n (rf e_i64 l20))]⟩
def SD (a1:List Product) (a2:Int) (l6:List Int) (l6n:Nat) (l7:List Int) (l7n:Nat) (x8:Int):St:=
 ⟨[(0,vc (tl qC default a1)),(1,vi a2),(6,vo 0 0 1 l6n),(7,vo 1 0 1 l7n),(8,vi x8)],[(0,ro 0 3 1 l6n (rf e_i64 l6)),(1,ro 0 3 1 l7n (rf e_i64 l7))]⟩
def qB7 (l21:List Int) (l22:List Int):St:=
 ⟨[(6,vo 0 0 1 l21.length),(7,vo 1 0 1 l22.length)],[(0,ro 0 3 1 l21.length (rf e_i64 l21)),(1,ro 0 3 1 l22.length (rf e_i64 l22))]⟩
theorem qHU (E:Env 0) (a1:List Product) (a2:Int):∀(n:Nat) (l6:List Int) (l6n:Nat) (l7:List Int) (l7n:Nat) (x8:Int) (res:(List Int)×(List Int)),l6.length=l6n->l7.length=l7n->jL a1 a2 n l6 l7 x8=some res->HL (kx E 52 0) (nd Tryz.f99 244) (zK 0 (λo=>qB7 o.1 o.2) res) n (SD a1 a2 l6 l6n l7 l7n x8):=by
 intro n
 induction n with
 |zero=>
  intro l6 l6n l7 l7n x8 res hl0 hl1 hm;cases hm
 |succ n ih=>
  intro l6 l6n l7 l7n x8 res hl0 hl1 hm;subst hl0;subst hl1;refine qK ?_;refine q_sq ?_;refine s_va 2 [(17,vb (decide (x8<((a1.length:Nat):Int))))] ?_;refine q_cm hm (λb9 hm=>?_) (λb9 hm=>?_)
  ·refine q_sk ?_;refine q_jn (ι:=(List Int)×Nat×(List Int)×Nat) (λp=>qBB a1 a2 x8 p.1 p.2.1 p.2.2.1 p.2.2.2) (λp=>p.1.length=p.2.1/\p.2.2.1.length=p.2.2.2/\TX x8 (jL a1 a2 n) p.1 p.2.2.1=some res) ?_ ?_
   ·rintro⟨l19,l19n,l20,l20n⟩ ⟨el19,el20,hm⟩;replace el19:l19.length=l19n:=el19;subst el19;replace el20:l20.length=l20n:=el20;subst el20;show H _ (qBB a1 a2 x8 l19 l19.length l20 l20.length) _ _;refine q_vv [] 4 [8] [(8,vi (w64 (x8+1)))] ?_;exact q_hl (SD a1 a2 l19 l19.length l20 l20.length (w64 (x8+1))) (ih l19 l19.length l20 l20.length (w64 (x8+1)) _ rfl rfl hm)
   ·refine q_bk 1 ?_;obtain⟨g10,hm⟩:=qE hm;obtain⟨v11,h12,hm⟩:=qA hm;refine s_vv [qi 2 g10,qc 4 [24] 2 (OT (a1.getD x8.toNat default) v11 h12)] 2 [17] [(9,vi v11.1),(10,vi v11.2)] ?_;refine s_va 2 [(30,vb (v11.1==a2))] ?_;refine q_cm hm (λb13 hm=>?_) (λb13 hm=>?_)
    ·obtain⟨g14,hm⟩:=qE hm;refine s_vu [qd 2 (drw 2 0 (rf e_i64 ([v11.2]:List Int))) (litP e_i64 default 1 (λ_=>rfl) ([v11.2]:List Int) 1 rfl),qd 3 (drw 0 1 (rf e_i64 (l6++([v11.2]:List Int)))) (apP e_i64 default l6 ([v11.2]:List Int) l6.length 1 1 8 (1<=1) (Nat.le_refl _) rfl rfl (λ_=>rfl) (qX g14))] 2 [6,9,10,30] [(6,vo 0 1 1 (l6.length+1))] [0] [(0,ro 1 3 1 (l6.length+1) (rf e_i64 (l6++([v11.2]:List Int))))] ?_;obtain⟨g15,hm⟩:=qE hm
     refine q_vu [qd 2 (drw 3 0 (rf e_i64 ([x8]:List Int))) (litP e_i64 default 1 (λ_=>rfl) ([x8]:List Int) 1 rfl),qd 3 (drw 1 1 (rf e_i64 (l7++([x8]:List Int)))) (apP e_i64 default l7 ([x8]:List Int) l7.length 1 1 8 (1<=1) (Nat.le_refl _) rfl rfl (λ_=>rfl) (qX g15))] 3 [7] [(7,vo 1 1 1 (l7.length+1))] [1] [(1,ro 1 3 1 (l7.length+1) (rf e_i64 (l7++([x8]:List Int))))] ?_;exact q_J ((l6++([v11.2]:List Int)),(l6.length+1),(l7++([x8]:List Int)),(l7.length+1)) ⟨(len_app rfl rfl),(len_app rfl rfl),hm⟩
    ·refine s_vv [] 2 [10,30] [(41,vb (v11.2==a2))] ?_;refine q_cm hm (λb16 hm=>?_) (λb16 hm=>?_)
     ·obtain⟨g17,hm⟩:=qE hm;refine s_vu [qd 2 (drw 2 0 (rf e_i64 ([v11.1]:List Int))) (litP e_i64 default 1 (λ_=>rfl) ([v11.1]:List Int) 1 rfl),qd 3 (drw 0 1 (rf e_i64 (l6++([v11.1]:List Int)))) (apP e_i64 default l6 ([v11.1]:List Int) l6.length 1 1 8 (1<=1) (Nat.le_refl _) rfl rfl (λ_=>rfl) (qX g17))] 2 [6,9,41] [(6,vo 0 1 1 (l6.length+1))] [0] [(0,ro 1 3 1 (l6.length+1) (rf e_i64 (l6++([v11.1]:List Int))))] ?_;obtain⟨g18,hm⟩:=qE hm
      refine q_vu [qd 2 (drw 3 0 (rf e_i64 ([x8]:List Int))) (litP e_i64 default 1 (λ_=>rfl) ([x8]:List Int) 1 rfl),qd 3 (drw 1 1 (rf e_i64 (l7++([x8]:List Int)))) (apP e_i64 default l7 ([x8]:List Int) l7.length 1 1 8 (1<=1) (Nat.le_refl _) rfl rfl (λ_=>rfl) (qX g18))] 3 [7] [(7,vo 1 1 1 (l7.length+1))] [1] [(1,ro 1 3 1 (l7.length+1) (rf e_i64 (l7++([x8]:List Int))))] ?_;exact q_J ((l6++([v11.1]:List Int)),(l6.length+1),(l7++([x8]:List Int)),(l7.length+1)) ⟨(len_app rfl rfl),(len_app rfl rfl),hm⟩
     ·refine q_sk ?_;exact q_J (l6,l6.length,l7,l7.length) ⟨rfl,rfl,hm⟩
  ·refine q_ex 0 ?_;obtain rfl:=oi hm;exact wB (by kernel_rfl) (by kernel_rfl)
theorem qMd (a1:List Product) (a2:Int) (r:(List Int)×(List Int)) (hm:HE a1 a2=some r):CtX Tryz.prog globs 99 0 0 [.one (tl qC default a1),.one (ci a2)] [] (qNQ r) (qNY r):=by
 unfold HE at hm;refine q_E Tryz.f99 52 λE=>?_;refine s_vn [] 0 ⟨[(0,vc (tl qC default a1)),(1,vi a2)],[]⟩ ?_;refine q_sq ?_;obtain⟨v3,h4,hm⟩:=qA hm;refine s_vv [qc 1 [11] 0 (XZ a1 v3 h4)] 0 [] [(13,vb (v3 !=0))] ?_;refine q_cm hm (λb5 hm=>?_) (λb5 hm=>?_)
 ·refine s_vn [] 0 ⟨[(4,vc (.emp)),(5,vc (.emp))],[]⟩ ?_;refine q_fu [.own 4 0 3 1 (rf e_i64 ([]:List Int))] [4] [(4,vo 0 0 1 0)] [] [(0,ro 0 3 1 0 (rf e_i64 ([]:List Int)))] o0 ?_;refine q_fu [.own 5 1 3 1 (rf e_i64 ([]:List Int))] [5] [(5,vo 1 0 1 0)] [] [(1,ro 0 3 1 0 (rf e_i64 ([]:List Int)))] o0 ?_;refine q_fu [.len 0 (([]:List Int).length)] [4] [(4,vo 0 0 1 (([]:List Int).length))] [0] [(0,ro 0 3 1 (([]:List Int).length) (rf e_i64 ([]:List Int)))] (o1 (And.intro (show 0=([]:List Int).length from rfl) (show 0=([]:List Int).length from rfl))) ?_
  refine q_fu [.len 1 (([]:List Int).length)] [5] [(5,vo 1 0 1 (([]:List Int).length))] [1] [(1,ro 0 3 1 (([]:List Int).length) (rf e_i64 ([]:List Int)))] (o1 (And.intro (show 0=([]:List Int).length from rfl) (show 0=([]:List Int).length from rfl))) ?_;obtain rfl:=oi hm;refine q_rt ?_;exact q_rm
 ·refine q_sk ?_;refine s_vv [] 0 [13] [(6,vc (.emp)),(7,vc (.emp))] ?_;refine q_sq ?_;refine s_va 0 [(8,vi 0)] ?_;refine q_fu [.own 6 0 3 1 (rf e_i64 ([]:List Int))] [6] [(6,vo 0 0 1 0)] [] [(0,ro 0 3 1 0 (rf e_i64 ([]:List Int)))] o0 ?_;refine q_fu [.own 7 1 3 1 (rf e_i64 ([]:List Int))] [7] [(7,vo 1 0 1 0)] [] [(1,ro 0 3 1 0 (rf e_i64 ([]:List Int)))] o0 ?_;obtain⟨o23,h24,hm⟩:=qA hm;refine zC (nd Tryz.f99 244) 0 (by kernel_rfl) FUEL (λo=>qB7 o.1 o.2) o23 (q_hl (SD a1 a2 ([]:List Int) 0 ([]:List Int) 0 0) (qHU E a1 a2 FUEL ([]:List Int) 0 ([]:List Int) 0 0 o23 rfl rfl h24)) ?_
  refine s_vv [] 2 [6,7] [(4,vo 0 0 1 o23.1.length),(5,vo 1 0 1 o23.2.length)] ?_;obtain rfl:=oi hm;refine q_rt ?_;exact q_rm
def qOf (r:(List Span)):V:=vo 0 0 2 r.length
def qN5 (r:(List Span)):List (Nat×(Nat×O)):=[(0,ro 0 31 2 r.length (rf e_Span r))]
def SR (a1:List Ref24_part) (l2:List Span) (l2n:Nat) (x3:Int):St:=
 ⟨[(0,vc (tl qM default a1)),(3,vo 0 0 2 l2n),(4,vi x3)],[(0,ro 0 31 2 l2n (rf e_Span l2))]⟩
def qCi (l7:List Span):St:=
 ⟨[(3,vo 0 0 2 l7.length)],[(0,ro 0 31 2 l7.length (rf e_Span l7))]⟩
theorem qH1 (E:Env 0) (a1:List Ref24_part):∀(n:Nat) (l2:List Span) (l2n:Nat) (x3:Int) (res:(List Span)),l2.length=l2n->KB a1 n l2 x3=some res->HL (kx E 20 0) (nd Tryz.f113 116) (zK 0 (λo=>qCi o) res) n (SR a1 l2 l2n x3):=by
 intro n
 induction n with
 |zero=>
  intro l2 l2n x3 res hl0 hm;cases hm
 |succ n ih=>
  intro l2 l2n x3 res hl0 hm;subst hl0;refine qK ?_;refine q_sq ?_;refine s_va 1 [(8,vb (decide (x3<((a1.length:Nat):Int))))] ?_;refine q_cm hm (λb4 hm=>?_) (λb4 hm=>?_)
  ·refine q_sk ?_;refine q_sq ?_;refine q_bk 1 ?_;obtain⟨g5,hm⟩:=qE hm;obtain⟨g6,hm⟩:=qE hm
   refine q_vu [qi 3 g5,qd 6 (drw 1 0 (rf e_Span ([(a1.getD x3.toNat default).at_]:List Span))) (litP e_Span default 2 (λ_=>rfl) ([(a1.getD x3.toNat default).at_]:List Span) 1 rfl),qd 7 (drw 0 1 (rf e_Span (l2++([(a1.getD x3.toNat default).at_]:List Span)))) (apP e_Span default l2 ([(a1.getD x3.toNat default).at_]:List Span) l2.length 1 2 16 (1<=1) (Nat.le_refl _) rfl rfl (λ_=>rfl) (qX g6))] 1 [3,8] [(3,vo 0 1 2 (l2.length+1))] [0] [(0,ro 1 31 2 (l2.length+1) (rf e_Span (l2++([(a1.getD x3.toNat default).at_]:List Span))))] ?_;refine q_vv [] 2 [4] [(4,vi (w64 (x3+1)))] ?_
   exact q_hl (SR a1 (l2++([(a1.getD x3.toNat default).at_]:List Span)) (l2.length+1) (w64 (x3+1))) (ih (l2++([(a1.getD x3.toNat default).at_]:List Span)) (l2.length+1) (w64 (x3+1)) _ (len_app rfl rfl) hm)
  ·refine q_ex 0 ?_;obtain rfl:=oi hm;exact wB (by kernel_rfl) (by kernel_rfl)
theorem qLZ (a1:List Ref24_part) (r:(List Span)) (hm:CL a1=some r):CtX Tryz.prog globs 113 0 0 [.one (tl qM default a1)] [] (qOf r) (qN5 r):=by
 unfold CL at hm;refine q_E Tryz.f113 20 λE=>?_;refine s_vn [] 0 ⟨[(0,vc (tl qM default a1))],[]⟩ ?_;refine s_va 0 [(3,vc (.emp))] ?_;refine q_sq ?_;refine s_va 0 [(4,vi 0)] ?_;refine q_fu [.own 3 0 31 2 (rf e_Span ([]:List Span))] [3] [(3,vo 0 0 2 0)] [] [(0,ro 0 31 2 0 (rf e_Span ([]:List Span)))] o0 ?_;obtain⟨o8,h9,hm⟩:=qA hm;refine zC (nd Tryz.f113 116) 0 (by kernel_rfl) FUEL (λo=>qCi o) o8 (q_hl (SR a1 ([]:List Span) 0 0) (qH1 E a1 FUEL ([]:List Span) 0 0 o8 rfl h9)) ?_;refine s_vv [] 1 [3] [(2,vo 0 0 2 o8.length)] ?_;obtain rfl:=oi hm;refine q_rt ?_;exact q_rm
def qLX (r:Bool):V:=vb r
def qL7 (r:Bool):List (Nat×(Nat×O)):=[]
def qHY (x7:Bool):St:=
 ⟨[(2,vb x7)],[]⟩
theorem BH (a1:Rect) (r:Bool) (hm:JY a1=some r):CtX Tryz.prog globs 56 0 0 [.agg (qH a1)] [] (qLX r) (qL7 r):=by
 unfold JY at hm;refine q_E Tryz.f56 43 λE=>?_;refine s_vn [] 0 ⟨[(1,vp 0 0)],[(0,bx 33 (qH a1))]⟩ ?_;refine q_jn (qHY) (λp=>ZA p=some r) ?_ ?_
 ·rintro x7 hm;obtain rfl:=oi hm;refine q_rt ?_;exact q_rm
 ·rcases bif_c hm with⟨b2,hm⟩|⟨b2,hm⟩
  ·rcases bif_c hm with⟨b3,hm⟩|⟨b3,hm⟩
   ·rcases bif_c hm with⟨b4,hm⟩|⟨b4,hm⟩
    ·rcases bif_c hm with⟨b5,hm⟩|⟨b5,hm⟩
     ·rcases bif_c hm with⟨b6,hm⟩|⟨b6,hm⟩
      ·refine q_vn [qf 7 b2,qf 16 b3,qf 22 b4,qf 28 b5,qf 34 b6] 1 ⟨[(2,vb (decide (a1.Y.B<=600)))],[]⟩ ?_;exact q_J (decide (a1.Y.B<=600)) hm
      ·refine q_vn [qf 7 b2,qf 16 b3,qf 22 b4,qf 28 b5,qf 34 b6] 1 ⟨[(2,vb false)],[]⟩ ?_;exact q_J (false) hm
     ·refine q_vn [qf 7 b2,qf 16 b3,qf 22 b4,qf 28 b5] 1 ⟨[(2,vb false)],[]⟩ ?_;exact q_J (false) hm
    ·refine q_vn [qf 7 b2,qf 16 b3,qf 22 b4] 1 ⟨[(2,vb false)],[]⟩ ?_;exact q_J (false) hm
   ·refine q_vn [qf 7 b2,qf 16 b3] 1 ⟨[(2,vb false)],[]⟩ ?_;exact q_J (false) hm
  ·refine q_vn [qf 7 b2] 1 ⟨[(2,vb false)],[]⟩ ?_;exact q_J (false) hm
def CX (r:(List Node)×Int):V:= .tup [.one (.own 0 0 2 r.1.length),.one (ci r.2)]
def DM (r:(List Node)×Int):List (Nat×(Nat×O)):=[(0,ro 0 65 2 r.1.length (rf e_Node r.1))]
theorem qQ1 (r:(List Node)×Int):jI (DM r):=by
 intro i k o h;unfold DM at h;rw[look_cons] at h;split at h
 ·cases h;exact λ_ _=>rfl
 ·cases h
def jX (a2:Int) (a3:Int) (a4:List Span) (a5:List (List Node)):St:=
 ⟨[(1,vi a2),(2,vi a3),(3,vc (tl e_Span default a4)),(4,vc (tl (qF e_Node) default a5))],[]⟩
def qD6 (a2:Int) (a3:Int) (a4:List Span) (a5:List (List Node)) (x18:Span) (x22:Int) (l36:List Node) (l36n:Nat):St:=
 (jX a2 a3 a4 a5).up [] [(12,vp 1 0),(13,vo 2 0 2 l36n),(15,vb (((a4.getD x22.toNat default).B)==x18.B)),(16,vi x22)] [] [(1,bx 31 (e_Span x18)),(2,ro 0 65 2 l36n (rf e_Node l36))]
def qDV (a2:Int) (a3:Int) (a4:List Span) (a5:List (List Node)) (x18:Span) (x22:Int) (l33:List Node) (l33n:Nat):St:=
 (jX a2 a3 a4 a5).up [] [(12,vp 1 0),(13,vo 2 0 2 l33n),(16,vi x22)] [] [(1,bx 31 (e_Span x18)),(2,ro 0 65 2 l33n (rf e_Node l33))]
def qLA (a2:Int) (a3:Int) (a4:List Span) (a5:List (List Node)) (x18:Span) (l19:List Node) (x20:Int) (x22:Int) (x28:Bool):St:=
 (jX a2 a3 a4 a5).up [] [(12,vp 1 0),(13,vo 2 0 2 l19.length),(14,vi x20),(16,vi x22),(65,vb x28)] [] [(1,bx 31 (e_Span x18)),(2,ro 0 65 2 l19.length (rf e_Node l19))]
def ON (a2:Int) (a3:Int) (a4:List Span) (a5:List (List Node)) (x18:Span) (l19:List Node) (l19n:Nat) (x20:Int) (x21:Bool) (x22:Int):St:=
 (jX a2 a3 a4 a5).up [] [(12,vp 1 0),(13,vo 2 0 2 l19n),(14,vi x20),(15,vb x21),(16,vi x22)] [] [(1,bx 31 (e_Span x18)),(2,ro 0 65 2 l19n (rf e_Node l19))]
def qEu (l39:List Node) (x40:Bool):St:=
 ⟨[(13,vo 2 0 2 l39.length),(15,vb x40)],[(2,ro 0 65 2 l39.length (rf e_Node l39))]⟩
def qD8 (l47:List Node) (l47n:Nat):St:=
 ⟨[(13,vo 2 0 2 l47n)],[(2,ro 0 65 2 l47n (rf e_Node l47))]⟩
def qMy (a2:Int) (a3:Int) (a4:List Span) (a5:List (List Node)) (x18:Span):St:=
 (jX a2 a3 a4 a5).up [] [(12,vp 1 0)] [] [(1,bx 31 (e_Span x18))]
def qLJ (a1:Rect) (a2:Int) (a3:Int) (a4:List Span) (a5:List (List Node)) (x15:Bool):St:=
 (jX a2 a3 a4 a5).up [] [(5,vp 0 0),(38,vb x15)] [] [(0,bx 33 (qH a1))]
def qMn (a1:Rect) (a2:Int) (a3:Int) (a4:List Span) (a5:List (List Node)) (x12:Bool):St:=
 (jX a2 a3 a4 a5).up [] [(5,vp 0 0),(32,vb x12)] [] [(0,bx 33 (qH a1))]
def qLF (a1:Rect) (a2:Int) (a3:Int) (a4:List Span) (a5:List (List Node)) (x7:Bool):St:=
 (jX a2 a3 a4 a5).up [] [(5,vp 0 0),(22,vb x7)] [] [(0,bx 33 (qH a1))]
theorem qLq (E:Env 0) (a2:Int) (a3:Int) (a4:List Span) (a5:List (List Node)) (x18:Span):∀(n:Nat) (l19:List Node) (l19n:Nat) (x20:Int) (x21:Bool) (x22:Int) (res:((List Node)×Int)⊕((List Node)×Bool)),l19.length=l19n->zU a2 a3 a4 a5 x18 n l19 x20 x21 x22=some res->HL (kx E 163 0) (nd Tryz.f47 8180) (zW 0 (λo=>qEu o.1 o.2) (λv st=>RetQ Tryz.prog Tryz.f47 (CX v) (DM v) .ret st) res) n (ON a2 a3 a4 a5 x18 l19 l19n x20 x21 x22):=by
 intro n
 induction n with
 |zero=>
  intro l19 l19n x20 x21 x22 res hl0 hm;cases hm
 |succ n ih=>
  intro l19 l19n x20 x21 x22 res hl0 hm;subst hl0;refine qK ?_;refine q_sq ?_;refine s_va 3 [(50,vb (decide (x22<((a4.length:Nat):Int))))] ?_;refine q_cm hm (λb23 hm=>?_) (λb23 hm=>?_)
  ·refine q_sk ?_;refine q_sq ?_;refine q_bk 1 ?_;refine q_sq ?_;refine q_bk 2 ?_;obtain⟨g24,hm⟩:=qE hm;refine s_du [qi 2 g24,qi 7 g24] [0,0,3,7,15,0,0,96,224,480,1023,2047] 3 [50] [(53,vb (decide (((a4.getD x22.toNat default).A)≥((a4.getD x22.toNat default).B))))] [] [] ?_;refine q_cm hm (λb25 hm=>?_) (λb25 hm=>?_)
   ·refine s_vn [] 3 ⟨[(10,vc (.emp)),(11,vi 19)],[]⟩ ?_;refine q_fu [.own 10 3 65 2 (rf e_Node ([]:List Node))] [10] [(10,vo 3 0 2 0)] [] [(3,ro 0 65 2 0 (rf e_Node ([]:List Node)))] o0 ?_;refine q_fu [.len 3 (([]:List Node).length)] [10] [(10,vo 3 0 2 (([]:List Node).length))] [3] [(3,ro 0 65 2 (([]:List Node).length) (rf e_Node ([]:List Node)))] (o1 (And.intro (show 0=([]:List Node).length from rfl) (show 0=([]:List Node).length from rfl))) ?_;obtain rfl:=oi hm;refine qS 3 0 (by kernel_rfl) ?_;refine q_rt ?_;refine qU (([]:List Node),19) ?_;exact q_rm
   ·refine q_jn (qLA a2 a3 a4 a5 x18 l19 x20 x22) (λp=>KM a2 a3 a4 a5 x18 l19 x20 x22 (zU a2 a3 a4 a5 x18 n) p=some res) ?_ ?_
    ·rintro x28 hm;refine q_cm hm (λb29 hm=>?_) (λb29 hm=>?_)
     ·refine s_vn [] 3 ⟨[(10,vc (.emp)),(11,vi 11)],[]⟩ ?_;refine q_fu [.own 10 3 65 2 (rf e_Node ([]:List Node))] [10] [(10,vo 3 0 2 0)] [] [(3,ro 0 65 2 0 (rf e_Node ([]:List Node)))] o0 ?_;refine q_fu [.len 3 (([]:List Node).length)] [10] [(10,vo 3 0 2 (([]:List Node).length))] [3] [(3,ro 0 65 2 (([]:List Node).length) (rf e_Node ([]:List Node)))] (o1 (And.intro (show 0=([]:List Node).length from rfl) (show 0=([]:List Node).length from rfl))) ?_;obtain rfl:=oi hm;refine qS 3 0 (by kernel_rfl) ?_;refine q_rt ?_;refine qU (([]:List Node),11) ?_;exact q_rm
     ·refine s_du [qi 2 g24] [0,0,3,7,15,0,32,127,255] 3 [65] [(88,vb (decide (((a4.getD x22.toNat default).B)>x18.B)))] [] [] ?_;refine q_cm hm (λb30 hm=>?_) (λb30 hm=>?_)
      ·refine s_vn [] 3 ⟨[(10,vc (.emp)),(11,vi 20)],[]⟩ ?_;refine q_fu [.own 10 3 65 2 (rf e_Node ([]:List Node))] [10] [(10,vo 3 0 2 0)] [] [(3,ro 0 65 2 0 (rf e_Node ([]:List Node)))] o0 ?_;refine q_fu [.len 3 (([]:List Node).length)] [10] [(10,vo 3 0 2 (([]:List Node).length))] [3] [(3,ro 0 65 2 (([]:List Node).length) (rf e_Node ([]:List Node)))] (o1 (And.intro (show 0=([]:List Node).length from rfl) (show 0=([]:List Node).length from rfl))) ?_;obtain rfl:=oi hm;refine qS 3 0 (by kernel_rfl) ?_;refine q_rt ?_;refine qU (([]:List Node),20) ?_;exact q_rm
      ·refine q_sk ?_;refine q_jn (ι:=(List Node)×Nat) (λp=>qDV a2 a3 a4 a5 x18 x22 p.1 p.2) (λp=>p.1.length=p.2/\KP a2 a3 a4 a5 x18 x22 (zU a2 a3 a4 a5 x18 n) p.1=some res) ?_ ?_
       ·rintro⟨l33,l33n⟩ ⟨el33,hm⟩;replace el33:l33.length=l33n:=el33;subst el33;show H _ (qDV a2 a3 a4 a5 x18 x22 l33 l33.length) _ _;refine s_du [qi 2 g24] [0,0,3,7,15,0,32,127,255] 4 [] [(15,vb (((a4.getD x22.toNat default).B)==x18.B))] [] [] ?_;refine q_jn (ι:=(List Node)×Nat) (λp=>qD6 a2 a3 a4 a5 x18 x22 p.1 p.2) (λp=>p.1.length=p.2/\FE a3 a4 a5 x18 x22 (zU a2 a3 a4 a5 x18 n) p.1=some res) ?_ ?_
        ·rintro⟨l36,l36n⟩ ⟨el36,hm⟩;replace el36:l36.length=l36n:=el36;subst el36;show H _ (qD6 a2 a3 a4 a5 x18 x22 l36 l36.length) _ _;obtain⟨g37,hm⟩:=qE hm;obtain⟨g38,hm⟩:=qE hm
         refine s_vu [qi 3 g37,qd 5 (drw 2 1 (rf e_Node (l36++(a5.getD x22.toNat default)))) (apP e_Node default l36 (a5.getD x22.toNat default) l36.length ((a5.getD x22.toNat default).length) 2 16 (True) trivial rfl rfl (λ_=>rfl) (qX g38))] 5 [13] [(13,vo 2 1 2 (l36.length+(a5.getD x22.toNat default).length))] [2] [(2,ro 1 65 2 (l36.length+(a5.getD x22.toNat default).length) (rf e_Node (l36++(a5.getD x22.toNat default))))] ?_;refine q_du [qi 2 g24] [0,0,3,7,15,0,63,0,128,511,1023] 5 [] [(14,vi (imin (w64 (((a4.getD x22.toNat default).B)+a3)) x18.B))] [] [] ?_
         refine q_vv [] 5 [16] [(16,vi (w64 (x22+1)))] ?_;exact q_hl (ON a2 a3 a4 a5 x18 (l36++(a5.getD x22.toNat default)) (l36.length+(a5.getD x22.toNat default).length) (imin (w64 (((a4.getD x22.toNat default).B)+a3)) x18.B) (((a4.getD x22.toNat default).B)==x18.B) (w64 (x22+1))) (ih (l36++(a5.getD x22.toNat default)) (l36.length+(a5.getD x22.toNat default).length) (imin (w64 (((a4.getD x22.toNat default).B)+a3)) x18.B) (((a4.getD x22.toNat default).B)==x18.B) (w64 (x22+1)) _ (len_app rfl rfl) hm)
        ·refine s_va 4 [(126,vb (!(((a4.getD x22.toNat default).B)==x18.B)))] ?_;refine q_cm hm (λb34 hm=>?_) (λb34 hm=>?_)
         ·obtain⟨g35,hm⟩:=qE hm
          refine q_vu [qi 4 g24,qd 8 (drw 4 0 (rf e_Node ([(Node.mk a2 ((a4.getD x22.toNat default).B))]:List Node))) (litP e_Node default 2 (λ_=>rfl) ([(Node.mk a2 ((a4.getD x22.toNat default).B))]:List Node) 1 rfl),qd 9 (drw 2 1 (rf e_Node (l33++([(Node.mk a2 ((a4.getD x22.toNat default).B))]:List Node)))) (apP e_Node default l33 ([(Node.mk a2 ((a4.getD x22.toNat default).B))]:List Node) l33.length 1 2 16 (1<=1) (Nat.le_refl _) rfl rfl (λ_=>rfl) (qX g35))] 4 [13,126] [(13,vo 2 1 2 (l33.length+1))] [2] [(2,ro 1 65 2 (l33.length+1) (rf e_Node (l33++([(Node.mk a2 ((a4.getD x22.toNat default).B))]:List Node))))] ?_
          exact q_J ((l33++([(Node.mk a2 ((a4.getD x22.toNat default).B))]:List Node)),(l33.length+1)) ⟨(len_app rfl rfl),hm⟩
         ·refine q_sk ?_;exact q_J (l33,l33.length) ⟨rfl,hm⟩
       ·refine s_vv [qi 2 g24] 3 [14,88] [(103,vb (((a4.getD x22.toNat default).A) !=x20))] ?_;refine q_cm hm (λb31 hm=>?_) (λb31 hm=>?_)
        ·obtain⟨g32,hm⟩:=qE hm
         refine q_vu [qi 4 g24,qd 11 (drw 3 0 (rf e_Node ([(Node.mk a2 (w64 (((a4.getD x22.toNat default).A)-a3))),(Node.mk 0 0)]:List Node))) (litP e_Node default 2 (λ_=>rfl) ([(Node.mk a2 (w64 (((a4.getD x22.toNat default).A)-a3))),(Node.mk 0 0)]:List Node) 2 rfl),qd 12 (drw 2 1 (rf e_Node (l19++([(Node.mk a2 (w64 (((a4.getD x22.toNat default).A)-a3))),(Node.mk 0 0)]:List Node)))) (apP e_Node default l19 ([(Node.mk a2 (w64 (((a4.getD x22.toNat default).A)-a3))),(Node.mk 0 0)]:List Node) l19.length 2 2 16 (2<=2) (Nat.le_refl _) rfl rfl (λ_=>rfl) (qX g32))] 3 [13,103] [(13,vo 2 1 2 (l19.length+2))] [2] [(2,ro 1 65 2 (l19.length+2) (rf e_Node (l19++([(Node.mk a2 (w64 (((a4.getD x22.toNat default).A)-a3))),(Node.mk 0 0)]:List Node))))] ?_
         exact q_J ((l19++([(Node.mk a2 (w64 (((a4.getD x22.toNat default).A)-a3))),(Node.mk 0 0)]:List Node)),(l19.length+2)) ⟨(len_app rfl rfl),hm⟩
        ·refine q_sk ?_;exact q_J (l19,l19.length) ⟨rfl,hm⟩
    ·rcases bif_c hm with⟨b26,hm⟩|⟨b26,hm⟩
     ·refine q_vv [qf 1 b26] 3 [15,53] [(65,vb true)] ?_;exact q_J (true) hm
     ·rcases bif_c hm with⟨b27,hm⟩|⟨b27,hm⟩
      ·refine q_vv [qf 1 b26,qi 4 g24,qf 9 b27,qi 12 g24] 3 [15,53] [(65,vb (decide (((a4.getD x22.toNat default).A)<(w64 ((w64 (x20+a3))+1)))))] ?_;exact q_J (decide (((a4.getD x22.toNat default).A)<(w64 ((w64 (x20+a3))+1)))) hm
      ·refine q_vv [qf 1 b26,qi 4 g24,qf 9 b27] 3 [15,53] [(65,vb false)] ?_;exact q_J (false) hm
  ·refine q_ex 0 ?_;obtain rfl:=oi hm;exact wA (l19,x21) (by kernel_rfl) (by kernel_rfl)
theorem ref21_Row_ok (a1:Rect) (a2:Int) (a3:Int) (a4:List Span) (a5:List (List Node)) (r:(List Node)×Int) (hm:RQ a1 a2 a3 a4 a5=some r):CtX Tryz.prog globs 47 0 0 [.agg (qH a1),.one (ci a2),.one (ci a3),.one (tl e_Span default a4),.one (tl (qF e_Node) default a5)] [] (CX r) (DM r):=by
 unfold RQ at hm;refine q_E Tryz.f47 163 λE=>?_;refine s_vn [] 0 ⟨[(1,vi a2),(2,vi a3),(3,vc (tl e_Span default a4)),(4,vc (tl (qF e_Node) default a5)),(5,vp 0 0)],[(0,bx 33 (qH a1))]⟩ ?_;refine q_sq ?_;refine q_jn (qLF a1 a2 a3 a4 a5) (λp=>NU a1 a2 a3 a4 a5 p=some r) ?_ ?_
 ·rintro x7 hm;refine q_cm hm (λb8 hm=>?_) (λb8 hm=>?_)
  ·refine s_vn [] 1 ⟨[(10,vc (.emp)),(11,vi 10)],[]⟩ ?_;refine q_fu [.own 10 1 65 2 (rf e_Node ([]:List Node))] [10] [(10,vo 1 0 2 0)] [] [(1,ro 0 65 2 0 (rf e_Node ([]:List Node)))] o0 ?_;refine q_fu [.len 1 (([]:List Node).length)] [10] [(10,vo 1 0 2 (([]:List Node).length))] [1] [(1,ro 0 65 2 (([]:List Node).length) (rf e_Node ([]:List Node)))] (o1 (And.intro (show 0=([]:List Node).length from rfl) (show 0=([]:List Node).length from rfl))) ?_;obtain rfl:=oi hm;refine qS 1 0 (by kernel_rfl) ?_;refine q_rt ?_;exact q_rm
  ·refine q_sk ?_;refine q_sq ?_;refine q_jn (qMn a1 a2 a3 a4 a5) (λp=>NJ a1 a2 a3 a4 a5 p=some r) ?_ ?_
   ·rintro x12 hm;refine q_cm hm (λb13 hm=>?_) (λb13 hm=>?_)
    ·refine s_vn [] 1 ⟨[(10,vc (.emp)),(11,vi 19)],[]⟩ ?_;refine q_fu [.own 10 1 65 2 (rf e_Node ([]:List Node))] [10] [(10,vo 1 0 2 0)] [] [(1,ro 0 65 2 0 (rf e_Node ([]:List Node)))] o0 ?_;refine q_fu [.len 1 (([]:List Node).length)] [10] [(10,vo 1 0 2 (([]:List Node).length))] [1] [(1,ro 0 65 2 (([]:List Node).length) (rf e_Node ([]:List Node)))] (o1 (And.intro (show 0=([]:List Node).length from rfl) (show 0=([]:List Node).length from rfl))) ?_;obtain rfl:=oi hm;refine qS 1 0 (by kernel_rfl) ?_;refine q_rt ?_;exact q_rm
    ·refine q_sk ?_;refine q_sq ?_;refine q_jn (qLJ a1 a2 a3 a4 a5) (λp=>FO a1 a2 a3 a4 a5 p=some r) ?_ ?_
     ·rintro x15 hm;refine q_cm hm (λb16 hm=>?_) (λb16 hm=>?_)
      ·refine s_vn [] 1 ⟨[(10,vc (.emp)),(11,vi 9)],[]⟩ ?_;refine q_fu [.own 10 1 65 2 (rf e_Node ([]:List Node))] [10] [(10,vo 1 0 2 0)] [] [(1,ro 0 65 2 0 (rf e_Node ([]:List Node)))] o0 ?_;refine q_fu [.len 1 (([]:List Node).length)] [10] [(10,vo 1 0 2 (([]:List Node).length))] [1] [(1,ro 0 65 2 (([]:List Node).length) (rf e_Node ([]:List Node)))] (o1 (And.intro (show 0=([]:List Node).length from rfl) (show 0=([]:List Node).length from rfl))) ?_;obtain rfl:=oi hm;refine qS 1 0 (by kernel_rfl) ?_;refine q_rt ?_;exact q_rm
      ·refine q_sk ?_;refine s_vu [] 1 [38] [(12,vp 1 0)] [] [(1,bx 31 (e_Span a1.X))] ?_;refine q_jn (qMy a2 a3 a4 a5) (λp=>KY a2 a3 a4 a5 p=some r) ?_ ?_
       ·rintro x18 hm;refine s_va 2 [(13,vc (.emp))] ?_;refine s_va 2 [(14,vi x18.A),(15,vb false)] ?_;refine q_sq ?_;refine s_va 2 [(16,vi 0)] ?_;refine q_fu [.own 13 2 65 2 (rf e_Node ([]:List Node))] [13] [(13,vo 2 0 2 0)] [] [(2,ro 0 65 2 0 (rf e_Node ([]:List Node)))] o0 ?_;obtain⟨u43,h42,hm⟩:=qA hm;refine zA (nd Tryz.f47 8180) 0 (by kernel_rfl) FUEL (λo=>qEu o.1 o.2) (λv st=>RetQ Tryz.prog Tryz.f47 (CX v) (DM v) .ret st) u43 (q_hl (ON a2 a3 a4 a5 x18 ([]:List Node) 0 x18.A false 0) (qLq E a2 a3 a4 a5 x18 FUEL ([]:List Node) 0 x18.A false 0 u43 rfl h42)) ?_ ?_
        ·rintro v44 rfl st hr;obtain rfl:=oi hm;exact hr
        ·rintro o41 rfl;replace hm:_=some r:=hm;refine q_jn (ι:=(List Node)×Nat) (λp=>qD8 p.1 p.2) (λp=>p.1.length=p.2/\FC p.1=some r) ?_ ?_
         ·rintro⟨l47,l47n⟩ ⟨el47,hm⟩;replace el47:l47.length=l47n:=el47;subst el47;show H _ (qD8 l47 l47.length) _ _;refine q_sq ?_;refine s_va 4 [(161,vb (decide (((l47.length:Nat):Int)>127)))] ?_;refine q_cm hm (λb48 hm=>?_) (λb48 hm=>?_)
          ·refine s_vn [] 4 ⟨[(10,vc (.emp)),(11,vi 4)],[]⟩ ?_;refine q_fu [.own 10 4 65 2 (rf e_Node ([]:List Node))] [10] [(10,vo 4 0 2 0)] [] [(4,ro 0 65 2 0 (rf e_Node ([]:List Node)))] o0 ?_;refine q_fu [.len 4 (([]:List Node).length)] [10] [(10,vo 4 0 2 (([]:List Node).length))] [4] [(4,ro 0 65 2 (([]:List Node).length) (rf e_Node ([]:List Node)))] (o1 (And.intro (show 0=([]:List Node).length from rfl) (show 0=([]:List Node).length from rfl))) ?_;obtain rfl:=oi hm;refine qS 4 0 (by kernel_rfl) ?_;refine q_rt ?_;exact q_rm
          ·refine q_sk ?_;refine s_vv [] 4 [13,161] [(10,vo 2 0 2 l47.length),(11,vi 0)] ?_;obtain rfl:=oi hm;refine qS 2 0 (by kernel_rfl) ?_;refine q_rt ?_;exact q_rm
         ·refine s_vv [] 3 [15] [(154,vb (!o41.2))] ?_;refine q_cm hm (λb45 hm=>?_) (λb45 hm=>?_)
          ·obtain⟨g46,hm⟩:=qE hm;refine q_vn [qd 2 (drw 3 0 (rf e_Node ([(Node.mk 0 0)]:List Node))) (litP e_Node default 2 (λ_=>rfl) ([(Node.mk 0 0)]:List Node) 1 rfl),qd 3 (drw 2 1 (rf e_Node (o41.1++([(Node.mk 0 0)]:List Node)))) (apP e_Node default o41.1 ([(Node.mk 0 0)]:List Node) o41.1.length 1 2 16 (1<=1) (Nat.le_refl _) rfl rfl (λ_=>rfl) (qX g46))] 3 ⟨[(13,vo 2 1 2 (o41.1.length+1))],[(2,ro 1 65 2 (o41.1.length+1) (rf e_Node (o41.1++([(Node.mk 0 0)]:List Node))))]⟩ ?_;exact q_J ((o41.1++([(Node.mk 0 0)]:List Node)),(o41.1.length+1)) ⟨(len_app rfl rfl),hm⟩
          ·refine q_sk ?_;exact q_J (o41.1,o41.1.length) ⟨rfl,hm⟩
       ·refine s_va 2 [(42,vb (a2==3))] ?_;refine q_cm hm (λb17 hm=>?_) (λb17 hm=>?_)
        ·refine q_vu [] 2 [5,42] [] [0,1] [(1,bx 31 (e_Span a1.Y))] ?_;exact q_J (a1.Y) hm
        ·refine q_sk ?_;exact q_J (a1.X) hm
     ·rcases bif_c hm with⟨b14,hm⟩|⟨b14,hm⟩
      ·refine q_vv [qf 2 b14] 1 [32] [(38,vb true)] ?_;exact q_J (true) hm
      ·refine q_vv [qf 2 b14] 1 [32] [(38,vb (decide (a3>20)))] ?_;exact q_J (decide (a3>20)) hm
   ·obtain⟨v9,h10,hm⟩:=qA hm;rcases bif_c hm with⟨b11,hm⟩|⟨b11,hm⟩
    ·refine q_vv [qc 1 [23] 1 (BH a1 v9 h10),qf 3 b11] 1 [22] [(32,vb true)] ?_;exact q_J (true) hm
    ·refine q_vv [qc 1 [23] 1 (BH a1 v9 h10),qf 3 b11] 1 [22] [(32,vb (((a4.length:Nat):Int) !=((a5.length:Nat):Int)))] ?_;exact q_J (((a4.length:Nat):Int) !=((a5.length:Nat):Int)) hm
 ·rcases bif_c hm with⟨b6,hm⟩|⟨b6,hm⟩
  ·refine q_vv [qf 2 b6] 1 [] [(22,vb (a2 !=3))] ?_;exact q_J (a2 !=3) hm
  ·refine q_vv [qf 2 b6] 1 [] [(22,vb false)] ?_;exact q_J (false) hm
def TR (r:Bool):V:=vb r
def ZX (r:Bool):List (Nat×(Nat×O)):=[]
theorem qHx (r:Bool):jI (ZX r):=by
 intro i k o h;unfold ZX at h;cases h
def VU (a1:List Node) (a2:List Node) (x4:Int):St:=
 ⟨[(0,vc (tl e_Node default a1)),(1,vc (tl e_Node default a2)),(5,vi x4)],[]⟩
def IB :St:=
 ⟨[],[]⟩
theorem qEi (E:Env 0) (a1:List Node) (a2:List Node):∀(n:Nat) (x4:Int) (res:Bool⊕Unit),QR a1 a2 n x4=some res->HL (kx E 26 0) (nd Tryz.f114 116) (zW 0 (λo=>IB) (λv st=>RetQ Tryz.prog Tryz.f114 (TR v) (ZX v) .ret st) res) n (VU a1 a2 x4):=by
 intro n
 induction n with
 |zero=>
  intro x4 res hm;cases hm
 |succ n ih=>
  intro x4 res hm;refine qK ?_;refine q_sq ?_;refine s_va 0 [(14,vb (decide (x4<((a1.length:Nat):Int))))] ?_;refine q_cm hm (λb5 hm=>?_) (λb5 hm=>?_)
  ·refine q_sk ?_;refine q_sq ?_;refine q_bk 1 ?_;obtain⟨g6,hm⟩:=qE hm;obtain⟨g7,hm⟩:=qE hm;refine s_du [qi 2 g6,qi 6 g7] [0,0,3,7,0,0,48,112,255] 0 [14] [(25,vb (!((((a1.getD x4.toNat default).Kind)==((a2.getD x4.toNat default).Kind))&&((((a1.getD x4.toNat default).At)==((a2.getD x4.toNat default).At))&&true))))] [] [] ?_;refine q_cm hm (λb8 hm=>?_) (λb8 hm=>?_)
   ·refine s_vn [] 0 ⟨[(4,vb false)],[]⟩ ?_;obtain rfl:=oi hm;refine q_rt ?_;refine qU false ?_;exact q_rm
   ·refine q_sk ?_;refine q_vv [] 0 [5,25] [(5,vi (w64 (x4+1)))] ?_;exact q_hl (VU a1 a2 (w64 (x4+1))) (ih (w64 (x4+1)) _ hm)
  ·refine q_ex 0 ?_;obtain rfl:=oi hm;exact wA () (by kernel_rfl) (by kernel_rfl)
theorem qFU (a1:List Node) (a2:List Node) (r:Bool) (hm:RT a1 a2=some r):CtX Tryz.prog globs 114 0 0 [.one (tl e_Node default a1),.one (tl e_Node default a2)] [] (TR r) (ZX r):=by
 unfold RT at hm;refine q_E Tryz.f114 26 λE=>?_;refine s_vn [] 0 ⟨[(0,vc (tl e_Node default a1)),(1,vc (tl e_Node default a2))],[]⟩ ?_;refine q_sq ?_;refine s_va 0 [(10,vb (((a1.length:Nat):Int) !=((a2.length:Nat):Int)))] ?_;refine q_cm hm (λb3 hm=>?_) (λb3 hm=>?_)
 ·refine s_vn [] 0 ⟨[(4,vb false)],[]⟩ ?_;obtain rfl:=oi hm;refine q_rt ?_;exact q_rm
 ·refine q_sk ?_;refine q_sq ?_;refine s_vv [] 0 [10] [(5,vi 0)] ?_;obtain⟨u11,h10,hm⟩:=qA hm;refine zA (nd Tryz.f114 116) 0 (by kernel_rfl) FUEL (λo=>IB) (λv st=>RetQ Tryz.prog Tryz.f114 (TR v) (ZX v) .ret st) u11 (q_hl (VU a1 a2 0) (qEi E a1 a2 FUEL 0 u11 h10)) ?_ ?_
  ·rintro v12 rfl st hr;obtain rfl:=oi hm;exact hr
  ·rintro o9 rfl;replace hm:_=some r:=hm;refine s_vn [] 0 ⟨[(4,vb true)],[]⟩ ?_;obtain rfl:=oi hm;refine q_rt ?_;exact q_rm
def qCj (r:Bool):V:=vb r
def FV (r:Bool):List (Nat×(Nat×O)):=[]
theorem qG5 (r:Bool):jI (FV r):=by
 intro i k o h;unfold FV at h;cases h
def AS (a1:List Node) (a2:Rect) (a3:Int) (a4:Int) (a5:List Ref24_part) (l6:List (List Node)) (l6n:Nat) (x7:Int):St:=
 ⟨[(0,vc (tl e_Node default a1)),(2,vi a3),(3,vi a4),(4,vc (tl qM default a5)),(6,vp 0 0),(11,vo 1 0 1 l6n),(12,vi x7)],[(0,bx 33 (qH a2)),(1,ro 0 44 1 l6n (rf (qF e_Node) l6))]⟩
def qCR (a1:List Node) (a2:Rect) (a3:Int) (a4:Int) (a5:List Ref24_part) (l12:List (List Node)):St:=
 ⟨[(0,vc (tl e_Node default a1)),(2,vi a3),(3,vi a4),(4,vc (tl qM default a5)),(6,vp 0 0),(11,vo 1 0 1 l12.length)],[(0,bx 33 (qH a2)),(1,ro 0 44 1 l12.length (rf (qF e_Node) l12))]⟩
def qJR (x22:Bool):St:=
 ⟨[(10,vb x22)],[]⟩
theorem qJM (E:Env 0) (a1:List Node) (a2:Rect) (a3:Int) (a4:Int) (a5:List Ref24_part):∀(n:Nat) (l6:List (List Node)) (l6n:Nat) (x7:Int) (res:(List (List Node))),l6.length=l6n->PP a1 a5 n l6 x7=some res->HL (kx E 53 0) (nd Tryz.f58 116) (zK 0 (λo=>qCR a1 a2 a3 a4 a5 o) res) n (AS a1 a2 a3 a4 a5 l6 l6n x7):=by
 intro n
 induction n with
 |zero=>
  intro l6 l6n x7 res hl0 hm;cases hm
 |succ n ih=>
  intro l6 l6n x7 res hl0 hm;subst hl0;refine qK ?_;refine q_sq ?_;refine s_va 2 [(18,vb (decide (x7<((a5.length:Nat):Int))))] ?_;refine q_cm hm (λb8 hm=>?_) (λb8 hm=>?_)
  ·refine q_sk ?_;refine q_sq ?_;refine q_bk 1 ?_;obtain⟨g9,hm⟩:=qE hm;obtain⟨g10,hm⟩:=qE hm;obtain⟨g11,hm⟩:=qE hm
   refine q_du [qi 4 g9,qi 9 g9,qd 12 (drw (((a1.drop (((a5.getD x7.toNat default).from_).toNat)).take (((a5.getD x7.toNat default).to).toNat-((a5.getD x7.toNat default).from_).toNat)).length) 0 (rf e_Node ((a1.drop (((a5.getD x7.toNat default).from_).toNat)).take (((a5.getD x7.toNat default).to).toNat-((a5.getD x7.toNat default).from_).toNat)))) (slPlh e_Node default a1 ((a5.getD x7.toNat default).from_) ((a5.getD x7.toNat default).to) (slOk_of g10)),qd 13 (drw 2 0 (rf (qF e_Node) ([((a1.drop (((a5.getD x7.toNat default).from_).toNat)).take (((a5.getD x7.toNat default).to).toNat-((a5.getD x7.toNat default).from_).toNat))]:List (List Node)))) (litP (qF e_Node) default 1 (λ_=>rfl) ([((a1.drop (((a5.getD x7.toNat default).from_).toNat)).take (((a5.getD x7.toNat default).to).toNat-((a5.getD x7.toNat default).from_).toNat))]:List (List Node)) 1 rfl),qd 14 (drw 1 1 (rf (qF e_Node) (l6++([((a1.drop (((a5.getD x7.toNat default).from_).toNat)).take (((a5.getD x7.toNat default).to).toNat-((a5.getD x7.toNat default).from_).toNat))]:List (List Node))))) (apP (qF e_Node) default l6 ([((a1.drop (((a5.getD x7.toNat default).from_).toNat)).take (((a5.getD x7.toNat default).to).toNat-((a5.getD x7.toNat default).from_).toNat))]:List (List Node)) l6.length 1 1 24 (1<=1) (Nat.le_refl _) rfl rfl (λ_=>rfl) (qX g11))] [0,0,0,0,12,28,60,0,0,384,896,1920,4094,8190,16383,32767] 2 [11,18] [(11,vo 1 1 1 (l6.length+1))] [1] [(1,ro 1 44 1 (l6.length+1) (rf (qF e_Node) (l6++([((a1.drop (((a5.getD x7.toNat default).from_).toNat)).take (((a5.getD x7.toNat default).to).toNat-((a5.getD x7.toNat default).from_).toNat))]:List (List Node)))))] ?_
   refine q_vv [] 3 [12] [(12,vi (w64 (x7+1)))] ?_;exact q_hl (AS a1 a2 a3 a4 a5 (l6++([((a1.drop (((a5.getD x7.toNat default).from_).toNat)).take (((a5.getD x7.toNat default).to).toNat-((a5.getD x7.toNat default).from_).toNat))]:List (List Node))) (l6.length+1) (w64 (x7+1))) (ih (l6++([((a1.drop (((a5.getD x7.toNat default).from_).toNat)).take (((a5.getD x7.toNat default).to).toNat-((a5.getD x7.toNat default).from_).toNat))]:List (List Node))) (l6.length+1) (w64 (x7+1)) _ (len_app rfl rfl) hm)
  ·refine q_ex 0 ?_;obtain rfl:=oi hm;exact wB (by kernel_rfl) (by kernel_rfl)
theorem qFl (a1:List Node) (a2:Rect) (a3:Int) (a4:Int) (a5:List Ref24_part) (r:Bool) (hm:LM a1 a2 a3 a4 a5=some r):CtX Tryz.prog globs 58 0 0 [.one (tl e_Node default a1),.agg (qH a2),.one (ci a3),.one (ci a4),.one (tl qM default a5)] [] (qCj r) (FV r):=by
 unfold LM at hm;refine q_E Tryz.f58 53 λE=>?_;refine s_vn [] 0 ⟨[(0,vc (tl e_Node default a1)),(2,vi a3),(3,vi a4),(4,vc (tl qM default a5)),(6,vp 0 0)],[(0,bx 33 (qH a2))]⟩ ?_;refine s_va 1 [(11,vc (.emp))] ?_;refine q_sq ?_;refine s_va 1 [(12,vi 0)] ?_;refine q_fu [.own 11 1 44 1 (rf (qF e_Node) ([]:List (List Node)))] [11] [(11,vo 1 0 1 0)] [] [(1,ro 0 44 1 0 (rf (qF e_Node) ([]:List (List Node))))] o0 ?_;obtain⟨o13,h14,hm⟩:=qA hm
 refine zC (nd Tryz.f58 116) 0 (by kernel_rfl) FUEL (λo=>qCR a1 a2 a3 a4 a5 o) o13 (q_hl (AS a1 a2 a3 a4 a5 ([]:List (List Node)) 0 0) (qJM E a1 a2 a3 a4 a5 FUEL ([]:List (List Node)) 0 0 o13 rfl h14)) ?_;obtain⟨v15,h16,hm⟩:=qA hm;obtain⟨v17,h18,hm⟩:=qA hm
 refine s_du [qc 4 [40] 2 (qLZ a5 v15 h16),qd 6 (dex (cen [] [] 3 0 (CX v17) (DM v17) [37,38,39,41,42] [2,1])) (wG (K:=(kx E 53 0)) (b:=false) ⟨[(37,va (qH a2)),(38,vi a3),(39,vi a4),(41,vo 2 0 2 v15.length),(42,vo 1 0 1 o13.length)],[(2,ro 0 31 2 v15.length (rf e_Span v15)),(1,ro 0 44 1 o13.length (rf (qF e_Node) o13))]⟩ (opAt (rg Tryz.f58 30) 6) [] [] 3 (o1 (And.intro (Nat.le_refl v15.length) (Nat.le_refl o13.length))) rfl (ref21_Row_ok a2 a3 a4 v15 o13 v17 h18) (.inr ⟨(by kernel_rfl),qQ1 v17⟩) (by kernel_rfl))] [0,0,0,0,8,0,63,127,255,255,511,2047] 2 [2,3,4,6,11] [(13,vo 3 0 2 v17.1.length),(14,vi v17.2)] [0,1] [(3,ro 0 65 2 v17.1.length (rf e_Node v17.1))] ?_
 refine q_jn (qJR) (λp=>HY p=some r) ?_ ?_
 ·rintro x22 hm;obtain rfl:=oi hm;refine q_rt ?_;exact q_rm
 ·rcases bif_c hm with⟨b19,hm⟩|⟨b19,hm⟩
  ·obtain⟨v20,h21,hm⟩:=qA hm;refine q_vn [qf 2 b19,qd 5 (dex (cen [] [] 4 0 (TR v20) (ZX v20) [48,49,50] [3])) (wG (K:=(kx E 53 0)) (b:=false) ⟨[(48,vb true),(49,vc (tl e_Node default a1)),(50,vo 3 0 2 v17.1.length)],[(3,ro 0 65 2 v17.1.length (rf e_Node v17.1))]⟩ (opAt (rg Tryz.f58 62) 5) [] [] 4 (o1 (Nat.le_refl v17.1.length)) rfl (qFU a1 v17.1 v20 h21) (.inr ⟨(by kernel_rfl),qHx v20⟩) (by kernel_rfl))] 4 ⟨[(10,vb v20)],[]⟩ ?_;exact q_J (v20) hm
  ·refine q_vn [qf 2 b19] 4 ⟨[(10,vb false)],[]⟩ ?_;exact q_J (false) hm
end Saw
end Go.SL

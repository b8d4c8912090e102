import Derived.Test.YtidlfgiogdjkaaaGreatDoorEBase
import Derived.Test.YtidlfgiogdjkaaaGreatDoorEFa8
import Derived.Test.YtidlfgiogdjkaaaGreatDoorEFa7
import Derived.Test.YtidlfgiogdjkaaaGreatDoorEFa2
set_option linter.unusedVariables false
set_option linter.unusedSimpArgs false
namespace Go.SL
namespace Saw
open Go.Proofs
set_option maxHeartbeats 4000000
set_option maxRecDepth 100000
def HQ (r:Bool):V:=vb r
def PO (r:Bool):List (Nat×(Nat×O)):=[]
theorem qOg (r:Bool):jI (PO r):=by
 intro i k o h;unfold PO at h;cases h
def qAE (a1:Pattern) (a2:List Product) (a3:Saw) (v14:(List Span)×(List (List Node))×Bool) (v17:(List Int)) (x19:Int):St:=
 ⟨[(1,vc (tl qC default a2)),(3,vp 0 0),(5,vp 1 0),(8,vo 3 0 1 v14.2.1.length),(10,vo 4 0 1 v17.length),(43,vo 2 0 2 v14.1.length),(44,vi ((v14.1.length:Nat):Int)),(45,vi x19)],[(0,bx 46 (QQ a1)),(1,bx 38 (zD a3)),(2,ro 0 31 2 v14.1.length (rf e_Span v14.1)),(3,ro 0 44 1 v14.2.1.length (rf (qF e_Node) v14.2.1)),(4,ro 0 3 1 v17.length (rf e_i64 v17))]⟩
def qJi (a1:Pattern) (a2:List Product) (a3:Saw) (v14:(List Span)×(List (List Node))×Bool) (v17:(List Int)) (x19:Int) (x26:Bool):St:=
 (qAE a1 a2 a3 v14 v17 x19).up [] [(11,vi x19),(12,vp 5 0),(70,vb x26)] [] [(5,bx 31 [ci ((v14.1.getD x19.toNat default).A),ci ((v14.1.getD x19.toNat default).B)])]
def SP (a1:Pattern) (a2:List Product) (a3:Saw) (v14:(List Span)×(List (List Node))×Bool) (v17:(List Int)) (x19:Int):St:=
 (qAE a1 a2 a3 v14 v17 x19).up [] [] [] []
def qCf :St:=
 ⟨[],[]⟩
def qI0 (a1:Pattern) (a2:List Product) (a3:Saw) (x12:Bool):St:=
 ⟨[(1,vc (tl qC default a2)),(3,vp 0 0),(5,vp 1 0),(27,vb x12)],[(0,bx 46 (QQ a1)),(1,bx 38 (zD a3))]⟩
theorem qHS (E:Env 0) (a1:Pattern) (a2:List Product) (a3:Saw) (v14:(List Span)×(List (List Node))×Bool) (v17:(List Int)):∀(n:Nat) (x19:Int) (res:Bool⊕Unit),QT a1 a2 a3 v14 v17 n x19=some res->HL (kx E 85 0) (nd Tryz.f22 1012) (zW 0 (λo=>qCf) (λv st=>RetQ Tryz.prog Tryz.f22 (HQ v) (PO v) .ret st) res) n (SP a1 a2 a3 v14 v17 x19):=by
 intro n
 induction n with
 |zero=>
  intro x19 res hm;cases hm
 |succ n ih=>
  intro x19 res hm;refine qK ?_;refine s_va 5 [(46,vb (decide (x19<((v14.1.length:Nat):Int))))] ?_;refine q_sq ?_;refine q_cm hm (λb20 hm=>?_) (λb20 hm=>?_)
  ·refine q_sk ?_;refine q_sq ?_;refine q_bk 1 ?_;obtain⟨g21,hm⟩:=qE hm;refine s_vu [qi 1 g21,qd 2 dN (toNat_lt (inb_of g21))] 5 [46] [(11,vi x19),(12,vp 5 0)] [] [(5,bx 31 [ci ((v14.1.getD x19.toNat default).A),ci ((v14.1.getD x19.toNat default).B)])] ?_;refine q_sq ?_;refine q_jn (qJi a1 a2 a3 v14 v17 x19) (λp=>LI a1 a2 a3 v14 x19 (QT a1 a2 a3 v14 v17 n) p=some res) ?_ ?_
   ·rintro x26 hm;refine q_cm hm (λb27 hm=>?_) (λb27 hm=>?_)
    ·refine s_vn [] 6 ⟨[(6,vb false)],[]⟩ ?_;obtain rfl:=oi hm;refine q_rt ?_;refine qU false ?_;exact q_rm
    ·refine q_sk ?_;obtain⟨g28,hm⟩:=qE hm;obtain⟨v29,h30,hm⟩:=qA hm;refine s_du [qi 9 g28,qd 10 dN (toNat_lt (inb_of g28)),qc 11 [75,76,77,81] 6 (qKz (Rect.mk a1.Frame.X (v14.1.getD x19.toNat default)) a2 a3 (v14.2.1.getD x19.toNat default) v29 h30)] [0,1,3,0,15,0,0,0,0,384,896,2047,4095] 6 [11,12,70] [(83,vb (!v29))] [5] [] ?_;refine q_cm hm (λb31 hm=>?_) (λb31 hm=>?_)
     ·refine s_vn [] 6 ⟨[(6,vb false)],[]⟩ ?_;obtain rfl:=oi hm;refine q_rt ?_;refine qU false ?_;exact q_rm
     ·refine q_sk ?_;refine q_vv [] 6 [45,83] [(45,vi (w64 (x19+1)))] ?_;exact q_hl (SP a1 a2 a3 v14 v17 (w64 (x19+1))) (ih (w64 (x19+1)) _ hm)
   ·obtain⟨g22,hm⟩:=qE hm;rcases bif_c hm with⟨b23,hm⟩|⟨b23,hm⟩
    ·refine q_vv [qd 9 dN (HK g22),qf 11 b23] 6 [] [(70,vb true)] ?_;exact q_J (true) hm
    ·obtain⟨v24,h25,hm⟩:=qA hm;refine q_vv [qd 9 dN (HK g22),qf 11 b23,qd 18 (dex (cen [] [] 6 0 (HB v24) (JJ v24) [61,62,67] [4])) (wG (K:=(kx E 85 0)) (b:=false) ⟨[(61,vb false),(62,vo 4 0 1 v17.length),(67,vi (w64 (((v14.1.getD x19.toNat default).B)-((v14.1.getD x19.toNat default).A))))],[(4,ro 0 3 1 v17.length (rf e_i64 v17))]⟩ (opAt (rg Tryz.f22 129636) 18) [] [] 6 (o1 (Nat.le_refl v17.length)) rfl (qCp v17 (w64 (((v14.1.getD x19.toNat default).B)-((v14.1.getD x19.toNat default).A))) v24 h25) (.inr ⟨(by kernel_rfl),qDn v24⟩) (by kernel_rfl))] 6 [] [(70,vb (!v24))] ?_;exact q_J (!v24) hm
  ·refine q_ex 0 ?_;obtain rfl:=oi hm;exact wA () (by kernel_rfl) (by kernel_rfl)
theorem plan_Member_ok (a1:Pattern) (a2:List Product) (a3:Saw) (r:Bool) (hm:JK a1 a2 a3=some r):CtX Tryz.prog globs 22 0 0 [.agg (QQ a1),.one (tl qC default a2),.agg (zD a3)] [] (HQ r) (PO r):=by
 unfold JK at hm;refine q_E Tryz.f22 85 λE=>?_;refine s_vn [] 0 ⟨[(1,vc (tl qC default a2)),(3,vp 0 0),(5,vp 1 0)],[(0,bx 46 (QQ a1)),(1,bx 38 (zD a3))]⟩ ?_;refine q_sq ?_;refine q_jn (qI0 a1 a2 a3) (λp=>UX a1 a2 a3 p=some r) ?_ ?_
 ·rintro x12 hm;refine q_cm hm (λb13 hm=>?_) (λb13 hm=>?_)
  ·refine s_vn [] 2 ⟨[(6,vb false)],[]⟩ ?_;obtain rfl:=oi hm;refine q_rt ?_;exact q_rm
  ·refine q_sk ?_;obtain⟨v14,h15,hm⟩:=qA hm;refine s_vu [qk 6 [30,32,34] 2 ⟨[(30,va (qH a1.Frame)),(32,vi a3.Kerf),(34,vc (tl e_Node default a1.Nodes))],[]⟩ (qIs a1.Frame 3 a3.Kerf a1.Nodes v14 h15)] 2 [27] [(7,vo 2 0 2 v14.1.length),(8,vo 3 0 1 v14.2.1.length),(9,vb v14.2.2)] [] [(2,ro 0 31 2 v14.1.length (rf e_Span v14.1)),(3,ro 0 44 1 v14.2.1.length (rf (qF e_Node) v14.2.1))] ?_;refine q_sq ?_;refine s_vv [] 4 [9] [(40,vb (!v14.2.2))] ?_;refine q_cm hm (λb16 hm=>?_) (λb16 hm=>?_)
   ·refine s_vn [] 4 ⟨[(6,vb false)],[]⟩ ?_;obtain rfl:=oi hm;refine q_rt ?_;exact q_rm
   ·refine q_sk ?_;obtain⟨v17,h18,hm⟩:=qA hm;refine s_vu [qc 1 [41] 4 (ES a2 v17 h18)] 4 [40] [(10,vo 4 0 1 v17.length)] [] [(4,ro 0 3 1 v17.length (rf e_i64 v17))] ?_;refine q_sq ?_;refine s_vv [] 5 [7] [(43,vo 2 0 2 v14.1.length),(44,vi ((v14.1.length:Nat):Int)),(45,vi 0)] ?_;obtain⟨u34,h33,hm⟩:=qA hm;refine zA (nd Tryz.f22 1012) 0 (by kernel_rfl) FUEL (λo=>qCf) (λv st=>RetQ Tryz.prog Tryz.f22 (HQ v) (PO v) .ret st) u34 (q_hl (SP a1 a2 a3 v14 v17 0) (qHS E a1 a2 a3 v14 v17 FUEL 0 u34 h33)) ?_ ?_
    ·rintro v35 rfl st hr;obtain rfl:=oi hm;exact hr
    ·rintro o32 rfl;replace hm:_=some r:=hm;refine s_vn [] 5 ⟨[(6,vb true)],[]⟩ ?_;obtain rfl:=oi hm;refine q_rt ?_;exact q_rm
 ·obtain⟨v4,h5,hm⟩:=qA hm;rcases bif_c hm with⟨b6,hm⟩|⟨b6,hm⟩
  ·refine q_vv [qc 1 [13] 2 (jA a2 v4 h5),qf 3 b6] 2 [] [(27,vb true)] ?_;exact q_J (true) hm
  ·obtain⟨v7,h8,hm⟩:=qA hm;rcases bif_c hm with⟨b9,hm⟩|⟨b9,hm⟩
   ·refine q_vv [qc 1 [13] 2 (jA a2 v4 h5),qf 3 b6,qk 6 [16,17,18] 2 ⟨[(16,vb false),(17,va (zD a3)),(18,va [ci 0,ci 0,ci 0])],[]⟩ (LB a3 (Rates.mk 0 0 0) v7 h8),qf 9 b9] 2 [] [(27,vb true)] ?_;exact q_J (true) hm
   ·obtain⟨v10,h11,hm⟩:=qA hm;refine q_vv [qc 1 [13] 2 (jA a2 v4 h5),qf 3 b6,qk 6 [16,17,18] 2 ⟨[(16,vb false),(17,va (zD a3)),(18,va [ci 0,ci 0,ci 0])],[]⟩ (LB a3 (Rates.mk 0 0 0) v7 h8),qf 9 b9,qk 12 [22,24] 2 ⟨[(22,vb false),(24,va (qH a1.Frame))],[]⟩ (qAe a1.Frame v10 h11)] 2 [] [(27,vb (v10 !=0))] ?_;exact q_J (v10 !=0) hm
def qNM (r:Bool):V:=vb r
def qN0 (r:Bool):List (Nat×(Nat×O)):=[]
def qJA (x5:Bool):St:=
 ⟨[(2,vb x5)],[]⟩
theorem OE (a1:Product) (r:Bool) (hm:CM a1=some r):CtX Tryz.prog globs 81 0 0 [.agg (qC a1)] [] (qNM r) (qN0 r):=by
 unfold CM at hm;refine q_E Tryz.f81 21 λE=>?_;refine s_vn [] 0 ⟨[(1,vp 0 0)],[(0,bx 54 (qC a1))]⟩ ?_;refine q_jn (qJA) (λp=>XT p=some r) ?_ ?_
 ·rintro x5 hm;obtain rfl:=oi hm;refine q_rt ?_;exact q_rm
 ·rcases bif_c hm with⟨b2,hm⟩|⟨b2,hm⟩
  ·rcases bif_c hm with⟨b3,hm⟩|⟨b3,hm⟩
   ·rcases bif_c hm with⟨b4,hm⟩|⟨b4,hm⟩
    ·refine q_vn [qf 3 b2,qf 8 b3,qf 13 b4] 1 ⟨[(2,vb (decide (a1.Width<=600)))],[]⟩ ?_;exact q_J (decide (a1.Width<=600)) hm
    ·refine q_vn [qf 3 b2,qf 8 b3,qf 13 b4] 1 ⟨[(2,vb false)],[]⟩ ?_;exact q_J (false) hm
   ·refine q_vn [qf 3 b2,qf 8 b3] 1 ⟨[(2,vb false)],[]⟩ ?_;exact q_J (false) hm
  ·refine q_vn [qf 3 b2] 1 ⟨[(2,vb false)],[]⟩ ?_;exact q_J (false) hm
def qNI (r:Int×Int):V:= .tup [.one (ci r.1),.one (ci r.2)]
def qNS (r:Int×Int):List (Nat×(Nat×O)):=[]
def qIX (a1:Product) (x6:Bool):St:=
 ⟨[(1,vp 0 0),(16,vb x6)],[(0,bx 54 (qC a1))]⟩
theorem OT (a1:Product) (r:Int×Int) (hm:TK a1=some r):CtX Tryz.prog globs 35 0 0 [.agg (qC a1)] [] (qNI r) (qNS r):=by
 unfold TK at hm;refine q_E Tryz.f35 33 λE=>?_;refine s_vn [] 0 ⟨[(1,vp 0 0)],[(0,bx 54 (qC a1))]⟩ ?_;refine q_sq ?_;refine q_jn (qIX a1) (λp=>UI a1 p=some r) ?_ ?_
 ·rintro x6 hm;refine q_cm hm (λb7 hm=>?_) (λb7 hm=>?_)
  ·refine s_vn [] 1 ⟨[(2,vi 0),(3,vi 0)],[]⟩ ?_;obtain rfl:=oi hm;refine q_rt ?_;exact q_rm
  ·refine q_sk ?_;refine s_dn [qd 7 dN (show(1000:Int)≠0 by decide),qd 15 dN (show(1000:Int)≠0 by decide)] [0,1,0,4,12,31,63,127,0,256,0,1024,3072,7936,16128,32512,255,131071] 1 ⟨[(2,vi (w64 (Int.tdiv (w64 ((w64 (a1.Thick*(w64 (1000+a1.Allow))))+999)) 1000))),(3,vi (w64 (Int.tdiv (w64 ((w64 (a1.Width*(w64 (1000+a1.Allow))))+999)) 1000)))],[]⟩ ?_;obtain rfl:=oi hm;refine q_rt ?_;exact q_rm
 ·obtain⟨v2,h3,hm⟩:=qA hm;rcases bif_c hm with⟨b4,hm⟩|⟨b4,hm⟩
  ·refine q_vv [qc 1 [4] 1 (OE a1 v2 h3),qf 3 b4] 1 [] [(16,vb true)] ?_;exact q_J (true) hm
  ·rcases bif_c hm with⟨b5,hm⟩|⟨b5,hm⟩
   ·refine q_vv [qc 1 [4] 1 (OE a1 v2 h3),qf 3 b4,qf 8 b5] 1 [] [(16,vb true)] ?_;exact q_J (true) hm
   ·refine q_vv [qc 1 [4] 1 (OE a1 v2 h3),qf 3 b4,qf 8 b5] 1 [] [(16,vb (decide (a1.Allow>200)))] ?_;exact q_J (decide (a1.Allow>200)) hm
def qDu (r:(List Int)):V:=vo 0 0 1 r.length
def MZ (r:(List Int)):List (Nat×(Nat×O)):=[(0,ro 0 3 1 r.length (rf e_i64 r))]
theorem qIu (r:(List Int)):jI (MZ r):=by
 intro i k o h;unfold MZ at h;rw[look_cons] at h;split at h
 ·cases h;exact λ_ _=>rfl
 ·cases h
def qEk (a1:List Int) (a2:Int) (x5:Int) (l15:List Int) (l15n:Nat) (x16:Bool):St:=
 ⟨[(0,vc (tl e_i64 default a1)),(1,vi a2),(5,vo 0 0 1 l15n),(6,vb x16),(7,vi x5)],[(0,ro 0 3 1 l15n (rf e_i64 l15))]⟩
def qEf (a1:List Int) (a2:Int) (x5:Int) (l14:List Int) (l14n:Nat):St:=
 ⟨[(0,vc (tl e_i64 default a1)),(1,vi a2),(5,vo 0 0 1 l14n),(7,vi x5)],[(0,ro 0 3 1 l14n (rf e_i64 l14))]⟩
def qME (a1:List Int) (a2:Int) (l3:List Int) (x4:Bool) (x5:Int) (x9:Bool):St:=
 ⟨[(0,vc (tl e_i64 default a1)),(1,vi a2),(5,vo 0 0 1 l3.length),(6,vb x4),(7,vi x5),(23,vb x9)],[(0,ro 0 3 1 l3.length (rf e_i64 l3))]⟩
def OD (a1:List Int) (a2:Int) (l3:List Int) (l3n:Nat) (x4:Bool) (x5:Int):St:=
 ⟨[(0,vc (tl e_i64 default a1)),(1,vi a2),(5,vo 0 0 1 l3n),(6,vb x4),(7,vi x5)],[(0,ro 0 3 1 l3n (rf e_i64 l3))]⟩
def qDU (a2:Int) (l19:List Int) (x20:Bool):St:=
 ⟨[(1,vi a2),(5,vo 0 0 1 l19.length),(6,vb x20)],[(0,ro 0 3 1 l19.length (rf e_i64 l19))]⟩
def qD3 (l25:List Int) (l25n:Nat):St:=
 ⟨[(5,vo 0 0 1 l25n)],[(0,ro 0 3 1 l25n (rf e_i64 l25))]⟩
theorem qLe (E:Env 0) (a1:List Int) (a2:Int):∀(n:Nat) (l3:List Int) (l3n:Nat) (x4:Bool) (x5:Int) (res:(List Int)×Bool),l3.length=l3n->yY a1 a2 n l3 x4 x5=some res->HL (kx E 48 0) (nd Tryz.f36 244) (zK 0 (λo=>qDU a2 o.1 o.2) res) n (OD a1 a2 l3 l3n x4 x5):=by
 intro n
 induction n with
 |zero=>
  intro l3 l3n x4 x5 res hl0 hm;cases hm
 |succ n ih=>
  intro l3 l3n x4 x5 res hl0 hm;subst hl0;refine qK ?_;refine q_sq ?_;refine s_va 1 [(11,vb (decide (x5<((a1.length:Nat):Int))))] ?_;refine q_cm hm (λb6 hm=>?_) (λb6 hm=>?_)
  ·refine q_sk ?_;refine q_sq ?_;refine q_bk 1 ?_;refine q_jn (ι:=(List Int)×Nat×Bool) (λp=>qEk a1 a2 x5 p.1 p.2.1 p.2.2) (λp=>p.1.length=p.2.1/\NP a1 x5 (yY a1 a2 n) p.1 p.2.2=some res) ?_ ?_
   ·rintro⟨l15,l15n,x16⟩ ⟨el15,hm⟩;replace el15:l15.length=l15n:=el15;subst el15;show H _ (qEk a1 a2 x5 l15 l15.length x16) _ _;obtain⟨g17,hm⟩:=qE hm;obtain⟨g18,hm⟩:=qE hm
    refine q_vu [qi 3 g17,qd 5 (drw 2 0 (rf e_i64 ([(a1.getD x5.toNat default)]:List Int))) (litP e_i64 default 1 (λ_=>rfl) ([(a1.getD x5.toNat default)]:List Int) 1 rfl),qd 6 (drw 0 1 (rf e_i64 (l15++([(a1.getD x5.toNat default)]:List Int)))) (apP e_i64 default l15 ([(a1.getD x5.toNat default)]:List Int) l15.length 1 1 8 (1<=1) (Nat.le_refl _) rfl rfl (λ_=>rfl) (qX g18))] 2 [5] [(5,vo 0 1 1 (l15.length+1))] [0] [(0,ro 1 3 1 (l15.length+1) (rf e_i64 (l15++([(a1.getD x5.toNat default)]:List Int))))] ?_;refine q_vv [] 3 [7] [(7,vi (w64 (x5+1)))] ?_
    exact q_hl (OD a1 a2 (l15++([(a1.getD x5.toNat default)]:List Int)) (l15.length+1) x16 (w64 (x5+1))) (ih (l15++([(a1.getD x5.toNat default)]:List Int)) (l15.length+1) x16 (w64 (x5+1)) _ (len_app rfl rfl) hm)
   ·refine q_jn (qME a1 a2 l3 x4 x5) (λp=>FW a1 a2 l3 x4 x5 (yY a1 a2 n) p=some res) ?_ ?_
    ·rintro x9 hm;refine q_cm hm (λb10 hm=>?_) (λb10 hm=>?_)
     ·refine q_jn (ι:=(List Int)×Nat) (λp=>qEf a1 a2 x5 p.1 p.2) (λp=>p.1.length=p.2/\EO a1 x5 (yY a1 a2 n) p.1=some res) ?_ ?_
      ·rintro⟨l14,l14n⟩ ⟨el14,hm⟩;replace el14:l14.length=l14n:=el14;subst el14;show H _ (qEf a1 a2 x5 l14 l14.length) _ _;refine q_va 2 [(6,vb true)] ?_;exact q_J (l14,l14.length,true) ⟨rfl,hm⟩
      ·obtain⟨g11,hm⟩:=qE hm;refine s_vv [qi 2 g11] 1 [6,23] [(29,vb (decide ((a1.getD x5.toNat default)>a2)))] ?_;refine q_cm hm (λb12 hm=>?_) (λb12 hm=>?_)
       ·obtain⟨g13,hm⟩:=qE hm;refine q_vu [qd 2 (drw 1 0 (rf e_i64 ([a2]:List Int))) (litP e_i64 default 1 (λ_=>rfl) ([a2]:List Int) 1 rfl),qd 3 (drw 0 1 (rf e_i64 (l3++([a2]:List Int)))) (apP e_i64 default l3 ([a2]:List Int) l3.length 1 1 8 (1<=1) (Nat.le_refl _) rfl rfl (λ_=>rfl) (qX g13))] 1 [5,29] [(5,vo 0 1 1 (l3.length+1))] [0] [(0,ro 1 3 1 (l3.length+1) (rf e_i64 (l3++([a2]:List Int))))] ?_;exact q_J ((l3++([a2]:List Int)),(l3.length+1)) ⟨(len_app rfl rfl),hm⟩
       ·refine q_sk ?_;exact q_J (l3,l3.length) ⟨rfl,hm⟩
     ·refine q_sk ?_;exact q_J (l3,l3.length,x4) ⟨rfl,hm⟩
    ·rcases bif_c hm with⟨b7,hm⟩|⟨b7,hm⟩
     ·obtain⟨g8,hm⟩:=qE hm;refine q_vv [qf 2 b7,qi 5 g8] 1 [11] [(23,vb (decide ((a1.getD x5.toNat default)≥a2)))] ?_;exact q_J (decide ((a1.getD x5.toNat default)≥a2)) hm
     ·refine q_vv [qf 2 b7] 1 [11] [(23,vb false)] ?_;exact q_J (false) hm
  ·refine q_ex 0 ?_;obtain rfl:=oi hm;exact wB (by kernel_rfl) (by kernel_rfl)
theorem qFZ (a1:List Int) (a2:Int) (r:(List Int)) (hm:EE a1 a2=some r):CtX Tryz.prog globs 36 0 0 [.one (tl e_i64 default a1),.one (ci a2)] [] (qDu r) (MZ r):=by
 unfold EE at hm;refine q_E Tryz.f36 48 λE=>?_;refine s_vn [] 0 ⟨[(0,vc (tl e_i64 default a1)),(1,vi a2)],[]⟩ ?_;refine s_va 0 [(5,vc (.emp))] ?_;refine s_va 0 [(6,vb false)] ?_;refine q_sq ?_;refine s_va 0 [(7,vi 0)] ?_;refine q_fu [.own 5 0 3 1 (rf e_i64 ([]:List Int))] [5] [(5,vo 0 0 1 0)] [] [(0,ro 0 3 1 0 (rf e_i64 ([]:List Int)))] o0 ?_;obtain⟨o21,h22,hm⟩:=qA hm;refine zC (nd Tryz.f36 244) 0 (by kernel_rfl) FUEL (λo=>qDU a2 o.1 o.2) o21 (q_hl (OD a1 a2 ([]:List Int) 0 false 0) (qLe E a1 a2 FUEL ([]:List Int) 0 false 0 o21 rfl h22)) ?_
 refine q_jn (ι:=(List Int)×Nat) (λp=>qD3 p.1 p.2) (λp=>p.1.length=p.2/\AM p.1=some r) ?_ ?_
 ·rintro⟨l25,l25n⟩ ⟨el25,hm⟩;replace el25:l25.length=l25n:=el25;subst el25;show H _ (qD3 l25 l25.length) _ _;refine s_vv [] 2 [5] [(4,vo 0 0 1 l25.length)] ?_;obtain rfl:=oi hm;refine q_rt ?_;exact q_rm
 ·refine s_vv [] 1 [6] [(42,vb (!o21.2))] ?_;refine q_cm hm (λb23 hm=>?_) (λb23 hm=>?_)
  ·obtain⟨g24,hm⟩:=qE hm;refine q_vn [qd 2 (drw 1 0 (rf e_i64 ([a2]:List Int))) (litP e_i64 default 1 (λ_=>rfl) ([a2]:List Int) 1 rfl),qd 3 (drw 0 1 (rf e_i64 (o21.1++([a2]:List Int)))) (apP e_i64 default o21.1 ([a2]:List Int) o21.1.length 1 1 8 (1<=1) (Nat.le_refl _) rfl rfl (λ_=>rfl) (qX g24))] 1 ⟨[(5,vo 0 1 1 (o21.1.length+1))],[(0,ro 1 3 1 (o21.1.length+1) (rf e_i64 (o21.1++([a2]:List Int))))]⟩ ?_;exact q_J ((o21.1++([a2]:List Int)),(o21.1.length+1)) ⟨(len_app rfl rfl),hm⟩
  ·refine q_sk ?_;exact q_J (o21.1,o21.1.length) ⟨rfl,hm⟩
def qNW (r:Bool):V:=vb r
def qNE (r:Bool):List (Nat×(Nat×O)):=[]
def qIS (x3:Bool):St:=
 ⟨[(2,vb x3)],[]⟩
theorem qL0 (a1:Int) (r:Bool) (hm:MV a1=some r):CtX Tryz.prog globs 142 0 0 [.one (.val (.int .u8 a1))] [] (qNW r) (qNE r):=by
 unfold MV at hm;refine q_E Tryz.f142 9 λE=>?_;refine s_vn [] 0 ⟨[(0,vc (.val (.int .u8 a1)))],[]⟩ ?_;refine q_jn (qIS) (λp=>LN p=some r) ?_ ?_
 ·rintro x3 hm;obtain rfl:=oi hm;refine q_rt ?_;exact q_rm
 ·rcases bif_c hm with⟨b2,hm⟩|⟨b2,hm⟩
  ·refine q_vn [qf 2 b2] 0 ⟨[(2,vb (decide (a1<=57)))],[]⟩ ?_;exact q_J (decide (a1<=57)) hm
  ·refine q_vn [qf 2 b2] 0 ⟨[(2,vb false)],[]⟩ ?_;exact q_J (false) hm
def OL (r:Bool):V:=vb r
def IJ (r:Bool):List (Nat×(Nat×O)):=[]
def qHF (a1:ByteArray) (x5:Int) (x16:Bool):St:=
 ⟨[(0,vc (cs a1)),(3,vi x5),(47,vb x16)],[]⟩
def qH3 (a1:ByteArray) (x5:Int) (x9:Bool):St:=
 ⟨[(0,vc (cs a1)),(3,vi x5),(4,vb x9)],[]⟩
def MK (a1:ByteArray) (x5:Int):St:=
 ⟨[(0,vc (cs a1)),(3,vi x5)],[]⟩
def qA1 :St:=
 ⟨[],[]⟩
def qHy (a1:ByteArray) (x3:Bool):St:=
 ⟨[(0,vc (cs a1)),(12,vb x3)],[]⟩
theorem qGz (E:Env 0) (a1:ByteArray):∀(n:Nat) (x5:Int) (res:Bool⊕Unit),wV a1 n x5=some res->HL (kx E 48 0) (nd Tryz.f79 116) (zW 0 (λo=>qA1) (λv st=>RetQ Tryz.prog Tryz.f79 (OL v) (IJ v) .ret st) res) n (MK a1 x5):=by
 intro n
 induction n with
 |zero=>
  intro x5 res hm;cases hm
 |succ n ih=>
  intro x5 res hm;refine qK ?_;refine q_sq ?_;refine s_va 0 [(16,vb (decide (x5<((a1.size:Nat):Int))))] ?_;refine q_cm hm (λb6 hm=>?_) (λb6 hm=>?_)
  ·refine q_sk ?_;refine q_sq ?_;refine q_bk 1 ?_;refine q_jn (qH3 a1 x5) (λp=>BN a1 x5 (wV a1 n) p=some res) ?_ ?_
   ·rintro x9 hm;refine q_jn (qHF a1 x5) (λp=>YG x5 (wV a1 n) p=some res) ?_ ?_
    ·rintro x16 hm;refine q_cm hm (λb17 hm=>?_) (λb17 hm=>?_)
     ·refine s_vn [] 0 ⟨[(2,vb false)],[]⟩ ?_;obtain rfl:=oi hm;refine q_rt ?_;refine qU false ?_;exact q_rm
     ·refine q_sk ?_;refine q_vv [] 0 [3,47] [(3,vi (w64 (x5+1)))] ?_;exact q_hl (MK a1 (w64 (x5+1))) (ih (w64 (x5+1)) _ hm)
    ·rcases bif_c hm with⟨b10,hm⟩|⟨b10,hm⟩
     ·rcases bif_c hm with⟨b11,hm⟩|⟨b11,hm⟩
      ·refine q_vv [qf 2 b10,qf 5 b11] 0 [4] [(47,vb true)] ?_;exact q_J (true) hm
      ·obtain⟨g12,hm⟩:=qE hm;rcases bif_c hm with⟨b13,hm⟩|⟨b13,hm⟩
       ·obtain⟨v14,h15,hm⟩:=qA hm;refine q_vv [qf 2 b10,qf 5 b11,qi 8 g12,qf 10 b13,qi 13 g12,qk 14 [39,42] 0 ⟨[(39,vb true),(42,vc (.val (.int .u8 (strAt a1 x5.toNat))))],[]⟩ (qL0 (strAt a1 x5.toNat) v14 h15)] 0 [4] [(47,vb (!v14))] ?_;exact q_J (!v14) hm
       ·refine q_vv [qf 2 b10,qf 5 b11,qi 8 g12,qf 10 b13] 0 [4] [(47,vb false)] ?_;exact q_J (false) hm
     ·refine q_vv [qf 2 b10] 0 [4] [(47,vb false)] ?_;exact q_J (false) hm
   ·obtain⟨g7,hm⟩:=qE hm;rcases bif_c hm with⟨b8,hm⟩|⟨b8,hm⟩
    ·refine q_vv [qi 2 g7,qf 4 b8,qi 7 g7] 0 [16] [(4,vb (decide ((strAt a1 x5.toNat)<=122)))] ?_;exact q_J (decide ((strAt a1 x5.toNat)<=122)) hm
    ·refine q_vv [qi 2 g7,qf 4 b8] 0 [16] [(4,vb false)] ?_;exact q_J (false) hm
  ·refine q_ex 0 ?_;obtain rfl:=oi hm;exact wA () (by kernel_rfl) (by kernel_rfl)
theorem qKB (a1:ByteArray) (r:Bool) (hm:NA a1=some r):CtX Tryz.prog globs 79 0 0 [.one (cs a1)] [] (OL r) (IJ r):=by
 unfold NA at hm;refine q_E Tryz.f79 48 λE=>?_;refine s_vn [] 0 ⟨[(0,vc (cs a1))],[]⟩ ?_;refine q_sq ?_;refine q_jn (qHy a1) (λp=>BL a1 p=some r) ?_ ?_
 ·rintro x3 hm;refine q_cm hm (λb4 hm=>?_) (λb4 hm=>?_)
  ·refine s_vn [] 0 ⟨[(2,vb false)],[]⟩ ?_;obtain rfl:=oi hm;refine q_rt ?_;exact q_rm
  ·refine q_sk ?_;refine q_sq ?_;refine s_vv [] 0 [12] [(3,vi 0)] ?_;obtain⟨u20,h19,hm⟩:=qA hm;refine zA (nd Tryz.f79 116) 0 (by kernel_rfl) FUEL (λo=>qA1) (λv st=>RetQ Tryz.prog Tryz.f79 (OL v) (IJ v) .ret st) u20 (q_hl (MK a1 0) (qGz E a1 FUEL 0 u20 h19)) ?_ ?_
   ·rintro v21 rfl st hr;obtain rfl:=oi hm;exact hr
   ·rintro o18 rfl;replace hm:_=some r:=hm;refine s_vn [] 0 ⟨[(2,vb true)],[]⟩ ?_;obtain rfl:=oi hm;refine q_rt ?_;exact q_rm
 ·rcases bif_c hm with⟨b2,hm⟩|⟨b2,hm⟩
  ·refine q_vv [qf 3 b2] 0 [] [(12,vb true)] ?_;exact q_J (true) hm
  ·refine q_vv [qf 3 b2] 0 [] [(12,vb (decide (((a1.size:Nat):Int)>16)))] ?_;exact q_J (decide (((a1.size:Nat):Int)>16)) hm
def QZ (r:Int):V:=vi r
def ZU (r:Int):List (Nat×(Nat×O)):=[]
def qCo (a1:Product) (x5:Int) (x14:Bool):St:=
 ⟨[(1,vp 0 0),(3,vi x5),(56,vb x14)],[(0,bx 54 (qC a1))]⟩
def qCr (a1:Product) (x5:Int) (x9:Bool):St:=
 ⟨[(1,vp 0 0),(3,vi x5),(40,vb x9)],[(0,bx 54 (qC a1))]⟩
def PF (a1:Product) (x5:Int):St:=
 ⟨[(1,vp 0 0),(3,vi x5)],[(0,bx 54 (qC a1))]⟩
def LV (a1:Product):St:=
 ⟨[(1,vp 0 0)],[(0,bx 54 (qC a1))]⟩
def qCt (a1:Product) (x20:Int) (x24:Bool):St:=
 ⟨[(1,vp 0 0),(4,vi x20),(77,vb x24)],[(0,bx 54 (qC a1))]⟩
def PE (a1:Product) (x20:Int):St:=
 ⟨[(1,vp 0 0),(4,vi x20)],[(0,bx 54 (qC a1))]⟩
def LW :St:=
 ⟨[],[]⟩
theorem qB5 (E:Env 0) (a1:Product):∀(n:Nat) (x5:Int) (res:Int⊕Unit),zL a1 n x5=some res->HL (kx E 78 0) (nd Tryz.f80 500) (zW 0 (λo=>LV a1) (λv st=>RetQ Tryz.prog Tryz.f80 (QZ v) (ZU v) .ret st) res) n (PF a1 x5):=by
 intro n
 induction n with
 |zero=>
  intro x5 res hm;cases hm
 |succ n ih=>
  intro x5 res hm;refine qK ?_;refine q_sq ?_;refine s_va 1 [(24,vb (decide (x5<((a1.Lengths.length:Nat):Int))))] ?_;refine q_cm hm (λb6 hm=>?_) (λb6 hm=>?_)
  ·refine q_sk ?_;refine q_sq ?_;refine q_bk 1 ?_;refine q_sq ?_;refine q_jn (qCr a1 x5) (λp=>YK a1 x5 (zL a1 n) p=some res) ?_ ?_
   ·rintro x9 hm;refine q_cm hm (λb10 hm=>?_) (λb10 hm=>?_)
    ·refine s_vn [] 1 ⟨[(2,vi 9)],[]⟩ ?_;obtain rfl:=oi hm;refine q_rt ?_;refine qU 9 ?_;exact q_rm
    ·refine q_sk ?_;refine q_jn (qCo a1 x5) (λp=>YF x5 (zL a1 n) p=some res) ?_ ?_
     ·rintro x14 hm;refine q_cm hm (λb15 hm=>?_) (λb15 hm=>?_)
      ·refine s_vn [] 1 ⟨[(2,vi 11)],[]⟩ ?_;obtain rfl:=oi hm;refine q_rt ?_;refine qU 11 ?_;exact q_rm
      ·refine q_sk ?_;refine q_vv [] 1 [3,56] [(3,vi (w64 (x5+1)))] ?_;exact q_hl (PF a1 (w64 (x5+1))) (ih (w64 (x5+1)) _ hm)
     ·rcases bif_c hm with⟨b11,hm⟩|⟨b11,hm⟩
      ·obtain⟨g12,hm⟩:=qE hm;obtain⟨g13,hm⟩:=qE hm;refine q_du [qf 2 b11,qi 6 g12,qi 12 g13] [0,1,3,7,15,7,63,127,7,263,7,1031,3847,7943,16383,32767] 1 [40] [(56,vb (decide ((a1.Lengths.getD x5.toNat default)<=(a1.Lengths.getD (w64 (x5-1)).toNat default))))] [] [] ?_;exact q_J (decide ((a1.Lengths.getD x5.toNat default)<=(a1.Lengths.getD (w64 (x5-1)).toNat default))) hm
      ·refine q_du [qf 2 b11] [0,1,3,7,15,7,63,127,7,263,7,1031,3847,7943,16383,32767] 1 [40] [(56,vb false)] [] [] ?_;exact q_J (false) hm
   ·obtain⟨g7,hm⟩:=qE hm;rcases bif_c hm with⟨b8,hm⟩|⟨b8,hm⟩
    ·refine q_vv [qi 3 g7,qf 6 b8] 1 [24] [(40,vb true)] ?_;exact q_J (true) hm
    ·refine q_vv [qi 3 g7,qf 6 b8,qi 10 g7] 1 [24] [(40,vb (decide ((a1.Lengths.getD x5.toNat default)>20000)))] ?_;exact q_J (decide ((a1.Lengths.getD x5.toNat default)>20000)) hm
  ·refine q_ex 0 ?_;obtain rfl:=oi hm;exact wA () (by kernel_rfl) (by kernel_rfl)
theorem qB4 (E:Env 0) (a1:Product):∀(n:Nat) (x20:Int) (res:Int⊕Unit),zY a1 n x20=some res->HL (kx E 78 0) (nd Tryz.f80 1012) (zW 2 (λo=>LW) (λv st=>RetQ Tryz.prog Tryz.f80 (QZ v) (ZU v) .ret st) res) n (PE a1 x20):=by
 intro n
 induction n with
 |zero=>
  intro x20 res hm;cases hm
 |succ n ih=>
  intro x20 res hm;refine qK ?_;refine q_sq ?_;refine s_va 1 [(61,vb (decide (x20<((a1.Prices.length:Nat):Int))))] ?_;refine q_cm hm (λb21 hm=>?_) (λb21 hm=>?_)
  ·refine q_sk ?_;refine q_sq ?_;refine q_bk 3 ?_;refine q_jn (qCt a1 x20) (λp=>YC x20 (zY a1 n) p=some res) ?_ ?_
   ·rintro x24 hm;refine q_cm hm (λb25 hm=>?_) (λb25 hm=>?_)
    ·refine s_vn [] 1 ⟨[(2,vi 9)],[]⟩ ?_;obtain rfl:=oi hm;refine q_rt ?_;refine qU 9 ?_;exact q_rm
    ·refine q_sk ?_;refine q_vv [] 1 [4,77] [(4,vi (w64 (x20+1)))] ?_;exact q_hl (PE a1 (w64 (x20+1))) (ih (w64 (x20+1)) _ hm)
   ·obtain⟨g22,hm⟩:=qE hm;rcases bif_c hm with⟨b23,hm⟩|⟨b23,hm⟩
    ·refine q_vv [qi 3 g22,qf 6 b23] 1 [61] [(77,vb true)] ?_;exact q_J (true) hm
    ·refine q_vv [qi 3 g22,qf 6 b23,qi 10 g22] 1 [61] [(77,vb (decide ((a1.Prices.getD x20.toNat default)>1000000)))] ?_;exact q_J (decide ((a1.Prices.getD x20.toNat default)>1000000)) hm
  ·refine q_ex 2 ?_;obtain rfl:=oi hm;exact wA () (by kernel_rfl) (by kernel_rfl)
theorem qDN (a1:Product) (r:Int) (hm:JT a1=some r):CtX Tryz.prog globs 80 0 0 [.agg (qC a1)] [] (QZ r) (ZU r):=by
 unfold JT at hm;refine q_E Tryz.f80 78 λE=>?_;refine s_vn [] 0 ⟨[(1,vp 0 0)],[(0,bx 54 (qC a1))]⟩ ?_;refine q_sq ?_;refine s_va 1 [(8,vb (((a1.Lengths.length:Nat):Int)==0))] ?_;refine q_cm hm (λb2 hm=>?_) (λb2 hm=>?_)
 ·refine s_vn [] 1 ⟨[(2,vi 3)],[]⟩ ?_;obtain rfl:=oi hm;refine q_rt ?_;exact q_rm
 ·refine q_sk ?_;refine q_sq ?_;refine s_vv [] 1 [8] [(12,vb (decide (((a1.Lengths.length:Nat):Int)>8)))] ?_;refine q_cm hm (λb3 hm=>?_) (λb3 hm=>?_)
  ·refine s_vn [] 1 ⟨[(2,vi 4)],[]⟩ ?_;obtain rfl:=oi hm;refine q_rt ?_;exact q_rm
  ·refine q_sk ?_;refine q_sq ?_;refine s_vv [] 1 [12] [(19,vb (((a1.Prices.length:Nat):Int) !=((a1.Lengths.length:Nat):Int)))] ?_;refine q_cm hm (λb4 hm=>?_) (λb4 hm=>?_)
   ·refine s_vn [] 1 ⟨[(2,vi 19)],[]⟩ ?_;obtain rfl:=oi hm;refine q_rt ?_;exact q_rm
   ·refine q_sk ?_;refine q_sq ?_;refine s_vv [] 1 [19] [(3,vi 0)] ?_;obtain⟨u18,h17,hm⟩:=qA hm;refine zA (nd Tryz.f80 500) 0 (by kernel_rfl) FUEL (λo=>LV a1) (λv st=>RetQ Tryz.prog Tryz.f80 (QZ v) (ZU v) .ret st) u18 (q_hl (PF a1 0) (qB5 E a1 FUEL 0 u18 h17)) ?_ ?_
    ·rintro v19 rfl st hr;obtain rfl:=oi hm;exact hr
    ·rintro o16 rfl;replace hm:_=some r:=hm;refine q_sq ?_;refine s_va 1 [(4,vi 0)] ?_;obtain⟨u28,h27,hm⟩:=qA hm;refine zA (nd Tryz.f80 1012) 2 (by kernel_rfl) FUEL (λo=>LW) (λv st=>RetQ Tryz.prog Tryz.f80 (QZ v) (ZU v) .ret st) u28 (q_hl (PE a1 0) (qB4 E a1 FUEL 0 u28 h27)) ?_ ?_
     ·rintro v29 rfl st hr;obtain rfl:=oi hm;exact hr
     ·rintro o26 rfl;replace hm:_=some r:=hm;refine s_vn [] 1 ⟨[(2,vi 0)],[]⟩ ?_;obtain rfl:=oi hm;refine q_rt ?_;exact q_rm
def DC (r:Int):V:=vi r
def DE (r:Int):List (Nat×(Nat×O)):=[]
def RA (a1:List Product) (x3:Int):St:=
 ⟨[(0,vc (tl qC default a1)),(3,vi x3),(4,vp 0 0)],[(0,bx 54 [cs ((a1.getD x3.toNat default).Name),ci ((a1.getD x3.toNat default).Thick),ci ((a1.getD x3.toNat default).Width),ci ((a1.getD x3.toNat default).Allow),ci ((a1.getD x3.toNat default).Wane),tl e_i64 default ((a1.getD x3.toNat default).Lengths),tl e_i64 default ((a1.getD x3.toNat default).Prices)])]⟩
def SX (a1:List Product) (x3:Int) (x9:Int):St:=
 (RA a1 x3).up [] [(5,vi x9)] [] []
def qB8 (a1:List Product) (x3:Int):St:=
 (RA a1 x3).up [] [] [] []
def qIz (a1:List Product) (x3:Int) (x24:Bool):St:=
 (RA a1 x3).up [] [(78,vb x24)] [] []
def SU (a1:List Product) (x3:Int):St:=
 (RA a1 x3).up [4] [] [0] []
def qCb :St:=
 ⟨[],[]⟩
theorem qHD (E:Env 0) (a1:List Product) (x3:Int):∀(n:Nat) (x9:Int) (res:Int⊕Unit),WT a1 x3 n x9=some res->HL (kx E 91 0) (nd Tryz.f34 59700) (zW 2 (λo=>qB8 a1 x3) (λv st=>RetQ Tryz.prog Tryz.f34 (DC v) (DE v) .ret st) res) n (SX a1 x3 x9):=by
 intro n
 induction n with
 |zero=>
  intro x9 res hm;cases hm
 |succ n ih=>
  intro x9 res hm;refine qK ?_;refine q_sq ?_;refine s_va 1 [(28,vb (decide (x9<x3)))] ?_;refine q_cm hm (λb10 hm=>?_) (λb10 hm=>?_)
  ·refine q_sk ?_;refine q_sq ?_;refine q_bk 3 ?_;obtain⟨g11,hm⟩:=qE hm;refine s_du [qi 2 g11] [0,0,3,7,15,0,32,127] 1 [28] [(38,vb (strEq ((a1.getD x9.toNat default).Name) ((a1.getD x3.toNat default).Name)))] [] [] ?_;refine q_cm hm (λb12 hm=>?_) (λb12 hm=>?_)
   ·refine s_vn [] 1 ⟨[(2,vi 7)],[]⟩ ?_;obtain rfl:=oi hm;refine q_rt ?_;refine qU 7 ?_;exact q_rm
   ·refine q_sk ?_;refine q_vv [] 1 [5,38] [(5,vi (w64 (x9+1)))] ?_;exact q_hl (SX a1 x3 (w64 (x9+1))) (ih (w64 (x9+1)) _ hm)
  ·refine q_ex 2 ?_;obtain rfl:=oi hm;exact wA () (by kernel_rfl) (by kernel_rfl)
theorem qH7 (E:Env 0) (a1:List Product):∀(n:Nat) (x3:Int) (res:Int⊕Unit),zO a1 n x3=some res->HL (kx E 91 0) (nd Tryz.f34 116) (zW 0 (λo=>qCb) (λv st=>RetQ Tryz.prog Tryz.f34 (DC v) (DE v) .ret st) res) n (SU a1 x3):=by
 intro n
 induction n with
 |zero=>
  intro x3 res hm;cases hm
 |succ n ih=>
  intro x3 res hm;refine qK ?_;refine q_sq ?_;refine s_va 0 [(15,vb (decide (x3<((a1.length:Nat):Int))))] ?_;refine q_cm hm (λb4 hm=>?_) (λb4 hm=>?_)
  ·refine q_sk ?_;refine q_sq ?_;refine q_bk 1 ?_;obtain⟨g5,hm⟩:=qE hm;refine s_vu [qi 2 g5] 0 [15] [(4,vp 0 0)] [] [(0,bx 54 [cs ((a1.getD x3.toNat default).Name),ci ((a1.getD x3.toNat default).Thick),ci ((a1.getD x3.toNat default).Width),ci ((a1.getD x3.toNat default).Allow),ci ((a1.getD x3.toNat default).Wane),tl e_i64 default ((a1.getD x3.toNat default).Lengths),tl e_i64 default ((a1.getD x3.toNat default).Prices)])] ?_;refine q_sq ?_;obtain⟨v6,h7,hm⟩:=qA hm;refine s_vv [qc 2 [23] 1 (qKB ((a1.getD x3.toNat default).Name) v6 h7)] 1 [] [(25,vb (!v6))] ?_
   refine q_cm hm (λb8 hm=>?_) (λb8 hm=>?_)
   ·refine s_vn [] 1 ⟨[(2,vi 6)],[]⟩ ?_;obtain rfl:=oi hm;refine q_rt ?_;refine qU 6 ?_;exact q_rm
   ·refine q_sk ?_;refine q_sq ?_;refine s_vv [] 1 [25] [(5,vi 0)] ?_;obtain⟨u15,h14,hm⟩:=qA hm;refine zA (nd Tryz.f34 59700) 2 (by kernel_rfl) FUEL (λo=>qB8 a1 x3) (λv st=>RetQ Tryz.prog Tryz.f34 (DC v) (DE v) .ret st) u15 (q_hl (SX a1 x3 0) (qHD E a1 x3 FUEL 0 u15 h14)) ?_ ?_
    ·rintro v16 rfl st hr;obtain rfl:=oi hm;exact qU v16 hr
    ·rintro o13 rfl;replace hm:_=some res:=hm;refine q_sq ?_;refine q_jn (qIz a1 x3) (λp=>jO a1 x3 (zO a1 n) p=some res) ?_ ?_
     ·rintro x24 hm;refine q_cm hm (λb25 hm=>?_) (λb25 hm=>?_)
      ·refine s_vn [] 1 ⟨[(2,vi 9)],[]⟩ ?_;obtain rfl:=oi hm;refine q_rt ?_;refine qU 9 ?_;exact q_rm
      ·refine q_sk ?_;refine q_sq ?_;obtain⟨v26,h27,hm⟩:=qA hm;refine s_vv [qc 1 [80] 1 (OT (a1.getD x3.toNat default) v26 h27)] 1 [78] [(7,vi v26.2)] ?_;refine s_vv [] 1 [7] [(85,vb (decide (v26.2>600)))] ?_;refine q_cm hm (λb28 hm=>?_) (λb28 hm=>?_)
       ·refine s_vn [] 1 ⟨[(2,vi 9)],[]⟩ ?_;obtain rfl:=oi hm;refine q_rt ?_;refine qU 9 ?_;exact q_rm
       ·refine q_sk ?_;obtain⟨v29,h30,hm⟩:=qA hm;refine s_vu [qc 1 [86] 1 (qDN (a1.getD x3.toNat default) v29 h30)] 1 [4,85] [(8,vi v29)] [0] [] ?_;refine s_va 1 [(89,vb (v29 !=0))] ?_;refine q_cm hm (λb31 hm=>?_) (λb31 hm=>?_)
        ·refine s_vn [] 1 ⟨[(2,vi v29)],[]⟩ ?_;obtain rfl:=oi hm;refine q_rt ?_;refine qU v29 ?_;exact q_rm
        ·refine q_sk ?_;refine q_vv [] 1 [3,8,89] [(3,vi (w64 (x3+1)))] ?_;exact q_hl (SU a1 (w64 (x3+1))) (ih (w64 (x3+1)) _ hm)
     ·rcases bif_c hm with⟨b17,hm⟩|⟨b17,hm⟩
      ·refine q_vv [qf 3 b17] 1 [] [(78,vb true)] ?_;exact q_J (true) hm
      ·rcases bif_c hm with⟨b18,hm⟩|⟨b18,hm⟩
       ·refine q_vv [qf 3 b17,qf 8 b18] 1 [] [(78,vb true)] ?_;exact q_J (true) hm
       ·rcases bif_c hm with⟨b19,hm⟩|⟨b19,hm⟩
        ·refine q_vv [qf 3 b17,qf 8 b18,qf 15 b19] 1 [] [(78,vb true)] ?_;exact q_J (true) hm
        ·rcases bif_c hm with⟨b20,hm⟩|⟨b20,hm⟩
         ·refine q_vv [qf 3 b17,qf 8 b18,qf 15 b19,qf 20 b20] 1 [] [(78,vb true)] ?_;exact q_J (true) hm
         ·rcases bif_c hm with⟨b21,hm⟩|⟨b21,hm⟩
          ·refine q_vv [qf 3 b17,qf 8 b18,qf 15 b19,qf 20 b20,qf 25 b21] 1 [] [(78,vb true)] ?_;exact q_J (true) hm
          ·rcases bif_c hm with⟨b22,hm⟩|⟨b22,hm⟩
           ·refine q_vv [qf 3 b17,qf 8 b18,qf 15 b19,qf 20 b20,qf 25 b21,qf 30 b22] 1 [] [(78,vb true)] ?_;exact q_J (true) hm
           ·rcases bif_c hm with⟨b23,hm⟩|⟨b23,hm⟩
            ·refine q_vv [qf 3 b17,qf 8 b18,qf 15 b19,qf 20 b20,qf 25 b21,qf 30 b22,qf 35 b23] 1 [] [(78,vb true)] ?_;exact q_J (true) hm
            ·refine q_vv [qf 3 b17,qf 8 b18,qf 15 b19,qf 20 b20,qf 25 b21,qf 30 b22,qf 35 b23] 1 [] [(78,vb (decide (((a1.getD x3.toNat default).Wane)>1000)))] ?_;exact q_J (decide (((a1.getD x3.toNat default).Wane)>1000)) hm
  ·refine q_ex 0 ?_;obtain rfl:=oi hm;exact wA () (by kernel_rfl) (by kernel_rfl)
theorem XZ (a1:List Product) (r:Int) (hm:TD a1=some r):CtX Tryz.prog globs 34 0 0 [.one (tl qC default a1)] [] (DC r) (DE r):=by
 unfold TD at hm;refine q_E Tryz.f34 91 λE=>?_;refine s_vn [] 0 ⟨[(0,vc (tl qC default a1))],[]⟩ ?_;refine q_sq ?_;refine s_va 0 [(11,vb (decide (((a1.length:Nat):Int)>16)))] ?_;refine q_cm hm (λb2 hm=>?_) (λb2 hm=>?_)
 ·refine s_vn [] 0 ⟨[(2,vi 4)],[]⟩ ?_;obtain rfl:=oi hm;refine q_rt ?_;exact q_rm
 ·refine q_sk ?_;refine q_sq ?_;refine s_vv [] 0 [11] [(3,vi 0)] ?_;obtain⟨u34,h33,hm⟩:=qA hm;refine zA (nd Tryz.f34 116) 0 (by kernel_rfl) FUEL (λo=>qCb) (λv st=>RetQ Tryz.prog Tryz.f34 (DC v) (DE v) .ret st) u34 (q_hl (SU a1 0) (qH7 E a1 FUEL 0 u34 h33)) ?_ ?_
  ·rintro v35 rfl st hr;obtain rfl:=oi hm;exact hr
  ·rintro o32 rfl;replace hm:_=some r:=hm;refine s_vn [] 0 ⟨[(2,vi 0)],[]⟩ ?_;obtain rfl:=oi hm;refine q_rt ?_;exact q_rm
def qJ5 (r:(List Int)):V:=vo 0 0 1 r.length
def qKg (r:(List Int)):List (Nat×(Nat×O)):=[(0,ro 0 3 1 r.length (rf e_i64 r))]
def NO (a1:List Product) (l5:List Int) (l5n:Nat) (x6:Int):St:=
 ⟨[(0,vc (tl qC default a1)),(3,vo 0 0 1 l5n),(4,vi x6)],[(0,ro 0 3 1 l5n (rf e_i64 l5))]⟩
def qAA (l15:List Int):St:=
 ⟨[(3,vo 0 0 1 l15.length)],[(0,ro 0 3 1 l15.length (rf e_i64 l15))]⟩
theorem qFw (E:Env 0) (a1:List Product):∀(n:Nat) (l5:List Int) (l5n:Nat) (x6:Int) (res:(List Int)),l5.length=l5n->WV a1 n l5 x6=some res->HL (kx E 30 0) (nd Tryz.f15 244) (zK 0 (λo=>qAA o) res) n (NO a1 l5 l5n x6):=by
 intro n
 induction n with
 |zero=>
  intro l5 l5n x6 res hl0 hm;cases hm
 |succ n ih=>
  intro l5 l5n x6 res hl0 hm;subst hl0;refine qK ?_;refine q_sq ?_;refine s_va 1 [(13,vb (decide (x6<((a1.length:Nat):Int))))] ?_;refine q_cm hm (λb7 hm=>?_) (λb7 hm=>?_)
  ·refine q_sk ?_;refine q_sq ?_;refine q_bk 1 ?_;obtain⟨g8,hm⟩:=qE hm;obtain⟨v9,h10,hm⟩:=qA hm;refine s_vv [qi 2 g8,qc 4 [20] 1 (OT (a1.getD x6.toNat default) v9 h10)] 1 [13] [(5,vi v9.1),(6,vi v9.2)] ?_;obtain⟨v11,h12,hm⟩:=qA hm;obtain⟨v13,h14,hm⟩:=qA hm
   refine q_vu [qd 2 (dex (cen [] [] 1 0 (qDu v11) (MZ v11) [24,25] [0])) (wG (K:=(kx E 30 0)) (b:=false) ⟨[(24,vo 0 0 1 l5.length),(25,vi v9.1)],[(0,ro 0 3 1 l5.length (rf e_i64 l5))]⟩ (opAt (rg Tryz.f15 3913) 2) [] [] 1 (o1 (Nat.le_refl l5.length)) rfl (qFZ l5 v9.1 v11 h12) (.inr ⟨(by kernel_rfl),qIu v11⟩) (by kernel_rfl)),qd 4 (dex (cen [] [] 2 0 (qDu v13) (MZ v13) [26,27] [1])) (wG (K:=(kx E 30 0)) (b:=false) ⟨[(26,vo 1 0 1 v11.length),(27,vi v9.2)],[(1,ro 0 3 1 v11.length (rf e_i64 v11))]⟩ (opAt (rg Tryz.f15 3913) 4) [] [] 2 (o1 (Nat.le_refl v11.length)) rfl (qFZ v11 v9.2 v13 h14) (.inr ⟨(by kernel_rfl),qIu v13⟩) (by kernel_rfl))] 1 [3,5,6] [(3,vo 2 0 1 v13.length)] [0] [(2,ro 0 3 1 v13.length (rf e_i64 v13))] ?_
   refine q_wu [] [.swp 2 0] o0 3 [3,4] [(3,vo 0 0 1 v13.length),(4,vi (w64 (x6+1)))] [2] [(0,ro 0 3 1 v13.length (rf e_i64 v13))] ?_;exact q_hl (NO a1 v13 v13.length (w64 (x6+1))) (ih v13 v13.length (w64 (x6+1)) _ rfl hm)
  ·refine q_ex 0 ?_;obtain rfl:=oi hm;exact wB (by kernel_rfl) (by kernel_rfl)
theorem qBO (a1:List Product) (r:(List Int)) (hm:DH a1=some r):CtX Tryz.prog globs 15 0 0 [.one (tl qC default a1)] [] (qJ5 r) (qKg r):=by
 unfold DH at hm;refine q_E Tryz.f15 30 λE=>?_;refine s_vn [] 0 ⟨[(0,vc (tl qC default a1))],[]⟩ ?_;refine q_sq ?_;obtain⟨v2,h3,hm⟩:=qA hm;refine s_vv [qc 1 [7] 0 (XZ a1 v2 h3)] 0 [] [(9,vb (v2 !=0))] ?_;refine q_cm hm (λb4 hm=>?_) (λb4 hm=>?_)
 ·refine s_vn [] 0 ⟨[(2,vc (.emp))],[]⟩ ?_;refine q_fn [.own 2 0 3 1 (rf e_i64 ([]:List Int))] ⟨[(2,vo 0 0 1 0)],[(0,ro 0 3 1 0 (rf e_i64 ([]:List Int)))]⟩ o0 ?_;refine q_fn [.len 0 (([]:List Int).length)] ⟨[(2,vo 0 0 1 (([]:List Int).length))],[(0,ro 0 3 1 (([]:List Int).length) (rf e_i64 ([]:List Int)))]⟩ (o1 (And.intro (show 0=([]:List Int).length from rfl) (show 0=([]:List Int).length from rfl))) ?_;obtain rfl:=oi hm;refine q_rt ?_;exact q_rm
 ·refine q_sk ?_;refine s_vv [] 0 [9] [(3,vc (.emp))] ?_;refine q_sq ?_;refine s_va 0 [(4,vi 0)] ?_;refine q_fu [.own 3 0 3 1 (rf e_i64 ([]:List Int))] [3] [(3,vo 0 0 1 0)] [] [(0,ro 0 3 1 0 (rf e_i64 ([]:List Int)))] o0 ?_;obtain⟨o16,h17,hm⟩:=qA hm;refine zC (nd Tryz.f15 244) 0 (by kernel_rfl) FUEL (λo=>qAA o) o16 (q_hl (NO a1 ([]:List Int) 0 0) (qFw E a1 FUEL ([]:List Int) 0 0 o16 rfl h17)) ?_;refine s_vv [] 1 [3] [(2,vo 0 0 1 o16.length)] ?_;obtain rfl:=oi hm;refine q_rt ?_;exact q_rm
def AY (r:Bool):V:=vb r
def GJ (r:Bool):List (Nat×(Nat×O)):=[]
theorem qKT (r:Bool):jI (GJ r):=by
 intro i k o h;unfold GJ at h;cases h
def qAO (a1:List Int) (a2:Int) (x3:Int):St:=
 ⟨[(0,vc (tl e_i64 default a1)),(1,vi a2),(5,vi x3)],[]⟩
def qFu :St:=
 ⟨[],[]⟩
theorem qMa (E:Env 0) (a1:List Int) (a2:Int):∀(n:Nat) (x3:Int) (res:Bool⊕Unit),DL a1 a2 n x3=some res->HL (kx E 18 0) (nd Tryz.f59 52) (zW 0 (λo=>qFu) (λv st=>RetQ Tryz.prog Tryz.f59 (AY v) (GJ v) .ret st) res) n (qAO a1 a2 x3):=by
 intro n
 induction n with
 |zero=>
  intro x3 res hm;cases hm
 |succ n ih=>
  intro x3 res hm;refine qK ?_;refine q_sq ?_;refine s_va 0 [(9,vb (decide (x3<((a1.length:Nat):Int))))] ?_;refine q_cm hm (λb4 hm=>?_) (λb4 hm=>?_)
  ·refine q_sk ?_;refine q_sq ?_;refine q_bk 1 ?_;obtain⟨g5,hm⟩:=qE hm;refine s_vv [qi 2 g5] 0 [9] [(17,vb ((a1.getD x3.toNat default)==a2))] ?_;refine q_cm hm (λb6 hm=>?_) (λb6 hm=>?_)
   ·refine s_vn [] 0 ⟨[(4,vb true)],[]⟩ ?_;obtain rfl:=oi hm;refine q_rt ?_;refine qU true ?_;exact q_rm
   ·refine q_sk ?_;refine q_vv [] 0 [5,17] [(5,vi (w64 (x3+1)))] ?_;exact q_hl (qAO a1 a2 (w64 (x3+1))) (ih (w64 (x3+1)) _ hm)
  ·refine q_ex 0 ?_;obtain rfl:=oi hm;exact wA () (by kernel_rfl) (by kernel_rfl)
theorem qIi (a1:List Int) (a2:Int) (r:Bool) (hm:qBZ a1 a2=some r):CtX Tryz.prog globs 59 0 0 [.one (tl e_i64 default a1),.one (ci a2)] [] (AY r) (GJ r):=by
 unfold qBZ at hm;refine q_E Tryz.f59 18 λE=>?_;refine s_vn [] 0 ⟨[(0,vc (tl e_i64 default a1)),(1,vi a2)],[]⟩ ?_;refine q_sq ?_;refine s_va 0 [(5,vi 0)] ?_;obtain⟨u9,h8,hm⟩:=qA hm;refine zA (nd Tryz.f59 52) 0 (by kernel_rfl) FUEL (λo=>qFu) (λv st=>RetQ Tryz.prog Tryz.f59 (AY v) (GJ v) .ret st) u9 (q_hl (qAO a1 a2 0) (qMa E a1 a2 FUEL 0 u9 h8)) ?_ ?_
 ·rintro v10 rfl st hr;obtain rfl:=oi hm;exact hr
 ·rintro o7 rfl;replace hm:_=some r:=hm;refine s_vn [] 0 ⟨[(4,vb false)],[]⟩ ?_;obtain rfl:=oi hm;refine q_rt ?_;exact q_rm
def qNG (r:Bool):V:=vb r
def qN7 (r:Bool):List (Nat×(Nat×O)):=[]
theorem qEw (a1:Node) (r:Bool) (hm:HG a1=some r):CtX Tryz.prog globs 111 0 0 [.agg (e_Node a1)] [] (qNG r) (qN7 r):=by
 unfold HG at hm;refine q_E Tryz.f111 6 λE=>?_;refine s_vn [] 0 ⟨[(1,vp 0 0)],[(0,bx 65 (e_Node a1))]⟩ ?_;refine s_vn [] 1 ⟨[(2,vb (a1.Kind==0))],[]⟩ ?_;obtain rfl:=oi hm;refine q_rt ?_;exact q_rm
def qCe (r:Int):V:=vi r
def qB2 (r:Int):List (Nat×(Nat×O)):=[]
def qLa (a1:List Node) (x3:Int) (x11:Int):St:=
 ⟨[(0,vc (tl e_Node default a1)),(1,vi x3),(5,vi x11)],[]⟩
def qJ3 (a1:List Node) (x3:Int) (x4:Int) (x9:Bool):St:=
 ⟨[(0,vc (tl e_Node default a1)),(1,vi x3),(5,vi x4),(25,vb x9)],[]⟩
def EM (a1:List Node) (x3:Int) (x4:Int):St:=
 ⟨[(0,vc (tl e_Node default a1)),(1,vi x3),(5,vi x4)],[]⟩
def qC0 (x12:Int):St:=
 ⟨[(1,vi x12)],[]⟩
theorem qJN (E:Env 0) (a1:List Node):∀(n:Nat) (x3:Int) (x4:Int) (res:Int⊕Int),zP a1 n x3 x4=some res->HL (kx E 33 0) (nd Tryz.f112 56) (zW 0 (λo=>qC0 o) (λv st=>RetQ Tryz.prog Tryz.f112 (qCe v) (qB2 v) .ret st) res) n (EM a1 x3 x4):=by
 intro n
 induction n with
 |zero=>
  intro x3 x4 res hm;cases hm
 |succ n ih=>
  intro x3 x4 res hm;refine qK ?_;refine q_sq ?_;refine s_va 0 [(7,vb (decide (x4>0)))] ?_;refine q_cm hm (λb5 hm=>?_) (λb5 hm=>?_)
  ·refine q_sk ?_;refine q_bk 1 ?_;refine q_sq ?_;refine s_vv [] 0 [7] [(11,vb (decide (x3≥((a1.length:Nat):Int))))] ?_;refine q_cm hm (λb6 hm=>?_) (λb6 hm=>?_)
   ·refine s_vn [] 0 ⟨[(4,vi (-1))],[]⟩ ?_;obtain rfl:=oi hm;refine q_rt ?_;refine qU (-1) ?_;exact q_rm
   ·refine q_sk ?_;refine q_jn (qLa a1 x3) (λp=>HX x3 (zP a1 n) p=some res) ?_ ?_
    ·rintro x11 hm;refine q_vv [] 0 [1] [(1,vi (w64 (x3+1)))] ?_;exact q_hl (EM a1 (w64 (x3+1)) x11) (ih (w64 (x3+1)) x11 _ hm)
    ·refine q_jn (qJ3 a1 x3 x4) (λp=>HS x3 x4 (zP a1 n) p=some res) ?_ ?_
     ·rintro x9 hm;refine q_cm hm (λb10 hm=>?_) (λb10 hm=>?_)
      ·refine q_vv [] 0 [5,25] [(5,vi (w64 (x4+1)))] ?_;exact q_J (w64 (x4+1)) hm
      ·refine q_vv [] 0 [5,25] [(5,vi (w64 (x4-1)))] ?_;exact q_J (w64 (x4-1)) hm
     ·obtain⟨g7,hm⟩:=qE hm;rcases bif_c hm with⟨b8,hm⟩|⟨b8,hm⟩
      ·refine q_vv [qi 2 g7,qf 6 b8] 0 [11] [(25,vb true)] ?_;exact q_J (true) hm
      ·refine q_vv [qi 2 g7,qf 6 b8,qi 9 g7] 0 [11] [(25,vb (((a1.getD x3.toNat default).Kind)==3))] ?_;exact q_J (((a1.getD x3.toNat default).Kind)==3) hm
  ·refine q_ex 0 ?_;obtain rfl:=oi hm;exact wA x3 (by kernel_rfl) (by kernel_rfl)
theorem qFm (a1:List Node) (a2:Int) (r:Int) (hm:RH a1 a2=some r):CtX Tryz.prog globs 112 0 0 [.one (tl e_Node default a1),.one (ci a2)] [] (qCe r) (qB2 r):=by
 unfold RH at hm;refine q_E Tryz.f112 33 λE=>?_;refine s_vn [] 0 ⟨[(0,vc (tl e_Node default a1)),(1,vi a2)],[]⟩ ?_;refine s_va 0 [(5,vi 1)] ?_;refine q_sq ?_;obtain⟨u15,h14,hm⟩:=qA hm;refine zA (nd Tryz.f112 56) 0 (by kernel_rfl) FUEL (λo=>qC0 o) (λv st=>RetQ Tryz.prog Tryz.f112 (qCe v) (qB2 v) .ret st) u15 (q_hl (EM a1 a2 1) (qJN E a1 FUEL a2 1 u15 h14)) ?_ ?_
 ·rintro v16 rfl st hr;obtain rfl:=oi hm;exact hr
 ·rintro o13 rfl;replace hm:_=some r:=hm;refine s_vn [] 0 ⟨[(4,vi o13)],[]⟩ ?_;obtain rfl:=oi hm;refine q_rt ?_;exact q_rm
end Saw
end Go.SL

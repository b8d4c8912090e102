import Derived.Test.YtigmogcdifllhaaGreatDoorEBase
import Derived.Test.YtigmogcdifllhaaGreatDoorEFa1
import Derived.Test.YtigmogcdifllhaaGreatDoorELlaw25light
import Derived.Test.YtigmogcdifllhaaGreatDoorELlaw25awake
import Derived.Test.YtigmogcdifllhaaGreatDoorEFa7
import Derived.Test.YtigmogcdifllhaaGreatDoorELs
set_option linter.unusedVariables false
set_option linter.unusedSimpArgs false
namespace Go.SL
namespace Saw
open Go.Proofs Go.Proofs.Tryz
set_option maxHeartbeats 4000000
set_option maxRecDepth 100000
def AO (r:Bool):V:=vb r
def AT (r:Bool):List (Nat×(Nat×O)):=[]
def YZ (v8:(List qI)×Int) (v10:qI×Int):St:=
 ⟨[(5,vo 2 0 7 v8.1.length),(7,vp 3 0)],[(2,ro 0 60 7 v8.1.length (rf zF v8.1)),(3,bx 60 (zF v10.1))]⟩
def qJk (x20:Bool):St:=
 ⟨[(4,vb x20)],[]⟩
def qJq (a2:zH) (v8:(List qI)×Int) (v10:qI×Int) (x25:Int) (x34:Bool):St:=
 (YZ v8 v10).up [] [(3,vp 1 0),(9,vi x25),(127,vb x34)] [] [(1,bx 43 (jJ a2))]
def BU (a2:zH) (v8:(List qI)×Int) (v10:qI×Int) (x25:Int):St:=
 (YZ v8 v10).up [] [(3,vp 1 0),(9,vi x25)] [] [(1,bx 43 (jJ a2))]
def qAE (v8:(List qI)×Int) (v10:qI×Int):St:=
 (YZ v8 v10).up [] [] [] []
def qIT (x46:Bool):St:=
 ⟨[(4,vb x46)],[]⟩
def qIR (a2:zH) (v8:(List qI)×Int) (v10:qI×Int) (x23:Bool):St:=
 (YZ v8 v10).up [] [(3,vp 1 0),(76,vb x23)] [] [(1,bx 43 (jJ a2))]
theorem qHN (E:Env 0) (a2:zH) (v8:(List qI)×Int) (v10:qI×Int):∀(n:Nat) (x25:Int) (res:Bool⊕Unit),wL a2 v8 v10 n x25=some res->HL (kx E 145 0) (nd f7 4084) (wY 0 (λo=>qAE v8 v10) (λv st=>RetQ Tryz.prog f7 (AO v) (AT v) .ret st) res) n (BU a2 v8 v10 x25):=by
 intro n
 induction n with
 |zero=>
  intro x25 res hm;cases hm
 |succ n ih=>
  intro x25 res hm;refine qU (q_sq ?_);refine s_va 4 [(78,vb (decide (x25<4)))] (q_cq hm (λhm=>?_) (λhm=>?_))
  ·refine q_sk (q_sq ?_);refine q_bk 1 (q_jn (qJq a2 v8 v10 x25) (λp=>ZY x25 (wL a2 v8 v10 n) p=some res) ?_ ?_)
   ·rintro x34 hm;refine q_cq hm (λhm=>?_) (λhm=>?_)
    ·refine s_vn [] 4 ⟨[(4,vb false)],[]⟩ ?_;obtain rfl:=oi hm;refine q_rt (zQ false ?_);exact q_rm
    ·refine q_sk (q_vv [] 4 [9,127] [(9,vi (w64 (x25+1)))] ?_);exact q_hl (BU a2 v8 v10 (w64 (x25+1))) (ih (w64 (x25+1)) _ hm)
   ·obtain⟨g27,hm⟩:=qJ hm;rcases bif_c hm with⟨b28,hm⟩|⟨b28,hm⟩
    ·exact q_du [qi 2 g27,qd 4 dN (qT (zB g27)),qf 7 b28] [0,0,3,7,15,0,63,127,255,255,1023,2047,4095,255,8447,255,33023,98559,262143,524287,1048575,2097151,4194303,4194303,16777215,33554431,67108863,4194303,138412031,536870911,1073741823,2147483647,4294967295,4294967295,12884901887,34359738367,68719476735,137438953471,137438953471,549755813887,1099511627775,2199023255551,137438953471,4535485464575,17592186044415,35184372088831,70368744177663] 4 [78] [(127,vb true)] [] [] (q_J (true) hm)
    ·obtain⟨v29,h30,hm⟩:=qC hm;rcases bif_c hm with⟨b31,hm⟩|⟨b31,hm⟩
     ·refine q_du [qi 2 g27,qd 4 dN (qT (zB g27)),qf 7 b28,qi 10 g27,qd 12 dN (qT (zB g27)),qk 18 [88,93,95,98] 4 ⟨[(88,vb false),(93,va [ci (((((v8.1.getD x25.toNat du).Pattern).Frame).X).A),ci (((((v8.1.getD x25.toNat du).Pattern).Frame).X).B),ci (((((v8.1.getD x25.toNat du).Pattern).Frame).Y).A),ci (((((v8.1.getD x25.toNat du).Pattern).Frame).Y).B),tl qK du (((v8.1.getD x25.toNat du).Pattern).Nodes)]),(95,vc (tl qM du a2.Products)),(98,vi a2.Saw.Kerf)],[]⟩ (NF ((v8.1.getD x25.toNat du).Pattern) a2.Products a2.Saw.Kerf v29 h30),qf 21 b31] [0,0,3,7,15,0,63,127,255,255,1023,2047,4095,255,8447,255,33023,98559,262143,524287,1048575,2097151,4194303,4194303,16777215,33554431,67108863,4194303,138412031,536870911,1073741823,2147483647,4294967295,4294967295,12884901887,34359738367,68719476735,137438953471,137438953471,549755813887,1099511627775,2199023255551,137438953471,4535485464575,17592186044415,35184372088831,70368744177663] 4 [78] [(127,vb true)] [] [] ?_
      exact q_J (true) hm
     ·rcases bif_c hm with⟨b32,hm⟩|⟨b32,hm⟩
      ·refine q_du [qi 2 g27,qd 4 dN (qT (zB g27)),qf 7 b28,qi 10 g27,qd 12 dN (qT (zB g27)),qk 18 [88,93,95,98] 4 ⟨[(88,vb false),(93,va [ci (((((v8.1.getD x25.toNat du).Pattern).Frame).X).A),ci (((((v8.1.getD x25.toNat du).Pattern).Frame).X).B),ci (((((v8.1.getD x25.toNat du).Pattern).Frame).Y).A),ci (((((v8.1.getD x25.toNat du).Pattern).Frame).Y).B),tl qK du (((v8.1.getD x25.toNat du).Pattern).Nodes)]),(95,vc (tl qM du a2.Products)),(98,vi a2.Saw.Kerf)],[]⟩ (NF ((v8.1.getD x25.toNat du).Pattern) a2.Products a2.Saw.Kerf v29 h30),qf 21 b31,qi 24 g27,qd 26 dN (qT (zB g27)),qf 31 b32] [0,0,3,7,15,0,63,127,255,255,1023,2047,4095,255,8447,255,33023,98559,262143,524287,1048575,2097151,4194303,4194303,16777215,33554431,67108863,4194303,138412031,536870911,1073741823,2147483647,4294967295,4294967295,12884901887,34359738367,68719476735,137438953471,137438953471,549755813887,1099511627775,2199023255551,137438953471,4535485464575,17592186044415,35184372088831,70368744177663] 4 [78] [(127,vb true)] [] [] ?_
       exact q_J (true) hm
      ·rcases bif_c hm with⟨b33,hm⟩|⟨b33,hm⟩
       ·refine q_du [qi 2 g27,qd 4 dN (qT (zB g27)),qf 7 b28,qi 10 g27,qd 12 dN (qT (zB g27)),qk 18 [88,93,95,98] 4 ⟨[(88,vb false),(93,va [ci (((((v8.1.getD x25.toNat du).Pattern).Frame).X).A),ci (((((v8.1.getD x25.toNat du).Pattern).Frame).X).B),ci (((((v8.1.getD x25.toNat du).Pattern).Frame).Y).A),ci (((((v8.1.getD x25.toNat du).Pattern).Frame).Y).B),tl qK du (((v8.1.getD x25.toNat du).Pattern).Nodes)]),(95,vc (tl qM du a2.Products)),(98,vi a2.Saw.Kerf)],[]⟩ (NF ((v8.1.getD x25.toNat du).Pattern) a2.Products a2.Saw.Kerf v29 h30),qf 21 b31,qi 24 g27,qd 26 dN (qT (zB g27)),qf 31 b32,qf 36 b33,qi 39 g27,qd 41 dN (qT (zB g27))] [0,0,3,7,15,0,63,127,255,255,1023,2047,4095,255,8447,255,33023,98559,262143,524287,1048575,2097151,4194303,4194303,16777215,33554431,67108863,4194303,138412031,536870911,1073741823,2147483647,4294967295,4294967295,12884901887,34359738367,68719476735,137438953471,137438953471,549755813887,1099511627775,2199023255551,137438953471,4535485464575,17592186044415,35184372088831,70368744177663] 4 [78] [(127,vb (((v8.1.getD x25.toNat du).Value)==v10.1.Value))] [] [] ?_
        exact q_J (((v8.1.getD x25.toNat du).Value)==v10.1.Value) hm
       ·refine q_du [qi 2 g27,qd 4 dN (qT (zB g27)),qf 7 b28,qi 10 g27,qd 12 dN (qT (zB g27)),qk 18 [88,93,95,98] 4 ⟨[(88,vb false),(93,va [ci (((((v8.1.getD x25.toNat du).Pattern).Frame).X).A),ci (((((v8.1.getD x25.toNat du).Pattern).Frame).X).B),ci (((((v8.1.getD x25.toNat du).Pattern).Frame).Y).A),ci (((((v8.1.getD x25.toNat du).Pattern).Frame).Y).B),tl qK du (((v8.1.getD x25.toNat du).Pattern).Nodes)]),(95,vc (tl qM du a2.Products)),(98,vi a2.Saw.Kerf)],[]⟩ (NF ((v8.1.getD x25.toNat du).Pattern) a2.Products a2.Saw.Kerf v29 h30),qf 21 b31,qi 24 g27,qd 26 dN (qT (zB g27)),qf 31 b32,qf 36 b33] [0,0,3,7,15,0,63,127,255,255,1023,2047,4095,255,8447,255,33023,98559,262143,524287,1048575,2097151,4194303,4194303,16777215,33554431,67108863,4194303,138412031,536870911,1073741823,2147483647,4294967295,4294967295,12884901887,34359738367,68719476735,137438953471,137438953471,549755813887,1099511627775,2199023255551,137438953471,4535485464575,17592186044415,35184372088831,70368744177663] 4 [78] [(127,vb false)] [] [] ?_
        exact q_J (false) hm
  ·refine q_ex 0 ?_;obtain rfl:=oi hm;exact q_l1 ()
theorem qLi (a1:wF) (a2:zH) (r:Bool) (hm:WP a1 a2=some r):CtX Tryz.prog globs 7 0 0 [.agg (VV a1),.agg (jJ a2)] [] (AO r) (AT r):=by
 unfold WP at hm;refine q_E f7 145 λE=>?_;refine s_vn [] 0 ⟨[(2,vp 0 0),(3,vp 1 0)],[(0,bx 27 (VV a1)),(1,bx 43 (jJ a2))]⟩ (q_sq ?_);obtain⟨v3,h4,hm⟩:=qC hm;refine s_vv [qc 2 [11,12] 2 (qQ4 a1 a2 v3 h4)] 2 [] [(14,vb (!v3))] (q_cq hm (λhm=>?_) (λhm=>?_))
 ·obtain⟨v6,h7,hm⟩:=qC hm;refine s_vn [qc 0 [] 2 (qBD v6 h7)] 2 ⟨[(4,vb v6)],[]⟩ ?_;obtain rfl:=oi hm;exact q_rt q_rm
 ·refine q_sk ?_;obtain⟨v8,h9,hm⟩:=qC hm;refine s_vu [qc 12 [18,20,22,24,26,28] 2 (qEW a1.Scan a2.Products a2.Saw a2.Rates a1.Limit a1.Most v8 h9)] 2 [14] [(5,vo 2 0 7 v8.1.length),(6,vi v8.2)] [] [(2,ro 0 60 7 v8.1.length (rf zF v8.1))] ?_;obtain⟨v10,h11,hm⟩:=qC hm;refine s_vu [qc 12 [34,36,38,40,42,44] 3 (qDO a1.Scan a2.Products a2.Saw a2.Rates a1.Limit a1.Most v10 h11)] 3 [2] [(7,vp 3 0),(8,vi v10.2)] [0] [(3,bx 60 (zF v10.1))] (q_sq ?_);refine s_vv [] 4 [8] [(50,vb (v8.2 !=v10.2))] (q_cq hm (λhm=>?_) (λhm=>?_))
  ·refine s_vn [] 4 ⟨[(4,vb false)],[]⟩ ?_;obtain rfl:=oi hm;exact q_rt q_rm
  ·refine q_sk (q_sq ?_);refine s_vv [] 4 [6,50] [(52,vb (v8.2 !=0))] (q_cq hm (λhm=>?_) (λhm=>?_))
   ·refine q_jn (qJk) (λp=>XJ p=some r) ?_ ?_
    ·rintro x20 hm;obtain rfl:=oi hm;exact q_rt q_rm
    ·rcases bif_c hm with⟨b14,hm⟩|⟨b14,hm⟩
     ·obtain⟨v15,h16,hm⟩:=qC hm;rcases bif_c hm with⟨b17,hm⟩|⟨b17,hm⟩
      ·obtain⟨v18,h19,hm⟩:=qC hm
       refine q_vn [qf 3 b14,qk 6 [56,57,58] 4 ⟨[(56,vb true),(57,va [ci v10.1.Quarters,ci v10.1.Pattern.Frame.X.A,ci v10.1.Pattern.Frame.X.B,ci v10.1.Pattern.Frame.Y.A,ci v10.1.Pattern.Frame.Y.B,tl qK du v10.1.Pattern.Nodes,ci v10.1.Value]),(58,va [ci 0,ci 0,ci 0,ci 0,ci 0,.emp,ci 0])],[]⟩ (CtX.emp (xs':=[.agg [ci v10.1.Quarters,ci v10.1.Pattern.Frame.X.A,ci v10.1.Pattern.Frame.X.B,ci v10.1.Pattern.Frame.Y.A,ci v10.1.Pattern.Frame.Y.B,tl qK du v10.1.Pattern.Nodes,ci v10.1.Value],.agg [ci 0,ci 0,ci 0,ci 0,ci 0,.emp,ci 0]]) (IZ v10.1 (wZ.mk 0 (Pattern.mk (Rect.mk (Span.mk 0 0) (Span.mk 0 0)) ([]:List Node)) 0) v15 h16) (And.intro (And.intro rfl (And.intro rfl (And.intro rfl (And.intro rfl (And.intro rfl (And.intro rfl (And.intro rfl trivial))))))) (And.intro (And.intro rfl (And.intro rfl (And.intro rfl (And.intro rfl (And.intro rfl (And.intro rfl (And.intro rfl trivial))))))) trivial))),qf 8 b17,qk 9 [61] 4 ⟨[(61,vb true)],[]⟩ (qBD v18 h19)] 4 ⟨[(4,vb v18)],[]⟩ ?_
       exact q_J (v18) hm
      ·refine q_vn [qf 3 b14,qk 6 [56,57,58] 4 ⟨[(56,vb true),(57,va [ci v10.1.Quarters,ci v10.1.Pattern.Frame.X.A,ci v10.1.Pattern.Frame.X.B,ci v10.1.Pattern.Frame.Y.A,ci v10.1.Pattern.Frame.Y.B,tl qK du v10.1.Pattern.Nodes,ci v10.1.Value]),(58,va [ci 0,ci 0,ci 0,ci 0,ci 0,.emp,ci 0])],[]⟩ (CtX.emp (xs':=[.agg [ci v10.1.Quarters,ci v10.1.Pattern.Frame.X.A,ci v10.1.Pattern.Frame.X.B,ci v10.1.Pattern.Frame.Y.A,ci v10.1.Pattern.Frame.Y.B,tl qK du v10.1.Pattern.Nodes,ci v10.1.Value],.agg [ci 0,ci 0,ci 0,ci 0,ci 0,.emp,ci 0]]) (IZ v10.1 (wZ.mk 0 (Pattern.mk (Rect.mk (Span.mk 0 0) (Span.mk 0 0)) ([]:List Node)) 0) v15 h16) (And.intro (And.intro rfl (And.intro rfl (And.intro rfl (And.intro rfl (And.intro rfl (And.intro rfl (And.intro rfl trivial))))))) (And.intro (And.intro rfl (And.intro rfl (And.intro rfl (And.intro rfl (And.intro rfl (And.intro rfl (And.intro rfl trivial))))))) trivial))),qf 8 b17] 4 ⟨[(4,vb false)],[]⟩ ?_
       exact q_J (false) hm
     ·exact q_vn [qf 3 b14] 4 ⟨[(4,vb false)],[]⟩ (q_J (false) hm)
   ·refine q_sk (q_sq ?_);refine q_jn (qIR a2 v8 v10) (λp=>QL a2 v8 v10 p=some r) ?_ ?_
    ·rintro x23 hm;refine q_cq hm (λhm=>?_) (λhm=>?_)
     ·refine s_vn [] 4 ⟨[(4,vb false)],[]⟩ ?_;obtain rfl:=oi hm;exact q_rt q_rm
     ·refine q_sk (q_sq ?_);refine s_vv [] 4 [76] [(9,vi 0)] ?_;obtain⟨u38,h37,hm⟩:=qC hm;refine zY (nd f7 4084) 0 (by kernel_rfl) FUEL (λo=>qAE v8 v10) (λv st=>RetQ Tryz.prog f7 (AO v) (AT v) .ret st) u38 (q_hl (BU a2 v8 v10 0) (qHN E a2 v8 v10 FUEL 0 u38 h37)) ?_ ?_
      ·rintro v39 rfl st hr;obtain rfl:=oi hm;exact hr
      ·rintro o36 rfl;replace hm:_=some r:=hm;obtain⟨g40,hm⟩:=qJ hm;refine s_vu [qi 3 g40,qd 4 dN (qT (zB g40))] 4 [5] [(10,vp 4 0)] [2] [(4,bx 60 (zF (v8.1.getD v10.1.Quarters.toNat du)))] (q_jn (qIT) (λp=>VF p=some r) ?_ ?_)
       ·rintro x46 hm;obtain rfl:=oi hm;exact q_rt q_rm
       ·obtain⟨v41,h42,hm⟩:=qC hm;rcases bif_c hm with⟨b43,hm⟩|⟨b43,hm⟩
        ·obtain⟨v44,h45,hm⟩:=qC hm;exact q_vn [qc 8 [133,140] 5 (IZ v10.1 (wZ.mk ((v8.1.getD v10.1.Quarters.toNat du).Quarters) ((v8.1.getD v10.1.Quarters.toNat du).Pattern) ((v8.1.getD v10.1.Quarters.toNat du).Value)) v41 h42),qf 9 b43,qk 10 [142] 5 ⟨[(142,vb true)],[]⟩ (qBD v44 h45)] 5 ⟨[(4,vb v44)],[]⟩ (q_J (v44) hm)
        ·exact q_vn [qc 8 [133,140] 5 (IZ v10.1 (wZ.mk ((v8.1.getD v10.1.Quarters.toNat du).Quarters) ((v8.1.getD v10.1.Quarters.toNat du).Pattern) ((v8.1.getD v10.1.Quarters.toNat du).Value)) v41 h42),qf 9 b43] 5 ⟨[(4,vb false)],[]⟩ (q_J (false) hm)
    ·rcases bif_c hm with⟨b21,hm⟩|⟨b21,hm⟩
     ·exact q_vv [qf 3 b21] 4 [52] [(76,vb true)] (q_J (true) hm)
     ·rcases bif_c hm with⟨b22,hm⟩|⟨b22,hm⟩
      ·exact q_vv [qf 3 b21,qf 8 b22] 4 [52] [(76,vb true)] (q_J (true) hm)
      ·exact q_vv [qf 3 b21,qf 8 b22] 4 [52] [(76,vb (decide (v10.1.Quarters>3)))] (q_J (decide (v10.1.Quarters>3)) hm)
end Saw
end Go.SL

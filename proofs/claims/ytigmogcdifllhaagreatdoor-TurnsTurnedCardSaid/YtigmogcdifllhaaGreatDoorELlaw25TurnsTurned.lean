import Derived.Test.YtigmogcdifllhaaGreatDoorEBase
import Derived.Test.YtigmogcdifllhaaGreatDoorELs
import Derived.Test.YtigmogcdifllhaaGreatDoorELlaw25awake
import Derived.Test.YtigmogcdifllhaaGreatDoorEFa2
import Derived.Test.YtigmogcdifllhaaGreatDoorEFa12
import Derived.Test.YtigmogcdifllhaaGreatDoorEFa13
import Derived.Test.YtigmogcdifllhaaGreatDoorELlaw25light
set_option linter.unusedVariables false
set_option linter.unusedSimpArgs false
namespace Go.SL
namespace Saw
open Go.Proofs Go.Proofs.Tryz
set_option maxHeartbeats 4000000
set_option maxRecDepth 100000
def NX (r:Bool):V:=vb r
def FC (r:Bool):List (Nat×(Nat×O)):=[]
def RT (v14:(List qI)×Int) (v16:(List qI)×Int):St:=
 ⟨[(6,vo 5 0 7 v14.1.length),(8,vo 6 0 7 v16.1.length)],[(5,ro 0 60 7 v14.1.length (rf zB v14.1)),(6,ro 0 60 7 v16.1.length (rf zB v16.1))]⟩
def qG1 (x30:Bool):St:=
 ⟨[(4,vb x30)],[]⟩
def VH (v14:(List qI)×Int) (v16:(List qI)×Int) (x37:Int):St:=
 (RT v14 v16).up [] [(14,vi x37)] [] []
def AR :St:=
 ⟨[],[]⟩
def qHe (v14:(List qI)×Int) (v16:(List qI)×Int) (x35:Bool):St:=
 (RT v14 v16).up [] [(138,vb x35)] [] []
def qG5 (v14:(List qI)×Int) (v16:(List qI)×Int) (v18:qI×Int) (v20:qI×Int) (x23:Bool):St:=
 (RT v14 v16).up [] [(7,vi v14.2),(9,vi v16.2),(10,vp 7 0),(11,vi v18.2),(12,vp 8 0),(13,vi v20.2),(97,vb x23)] [] [(7,bx 60 (zB v18.1)),(8,bx 60 (zB v20.1))]
def qG6 (a1:zX) (a2:zM) (x8:Bool):St:=
 ⟨[(2,vp 0 0),(3,vp 1 0),(25,vb x8)],[(0,bx 27 (PF a1)),(1,bx 43 (yN a2))]⟩
theorem qFE (E:Env 0) (v14:(List qI)×Int) (v16:(List qI)×Int):∀(n:Nat) (x37:Int) (res:Bool⊕Unit),yI v14 v16 n x37=some res->HL (kx E 162 0) (nd f6 16372) (wL 0 (λo=>AR) (λv st=>RetQ Tryz.prog f6 (NX v) (FC v) .ret st) res) n (VH v14 v16 x37):=by
 intro n
 induction n with
 |zero=>
  intro x37 res hm;cases hm
 |succ n ih=>
  intro x37 res hm;refine qS (q_sq ?_);refine s_va 9 [(140,vb (decide (x37<4)))] (q_cq hm (λhm=>?_) (λhm=>?_))
  ·refine q_sk (q_sq ?_);refine q_bk 1 ?_;obtain⟨g39,hm⟩:=qJ hm;refine s_vu [qd 3 dN (show(4:Int)≠0 by decide),qi 4 g39,qd 5 dN (qW (zC g39))] 9 [140] [(15,vp 9 0)] [] [(9,bx 60 (zB (v14.1.getD ((Int.tmod (w64 (x37+1)) 4).toNat) dd)))] ?_;obtain⟨g40,hm⟩:=qJ hm;obtain⟨v41,h42,hm⟩:=qC hm
   refine s_du [qi 2 g40,qd 3 dN (qW (zC g40)),qc 10 [152,158] 10 (qS8 (v16.1.getD x37.toNat dd) (yJ.mk x37 ((v14.1.getD ((Int.tmod (w64 (x37+1)) 4).toNat) dd).Pattern) ((v14.1.getD ((Int.tmod (w64 (x37+1)) 4).toNat) dd).Value)) v41 h42)] [0,0,3,7,0,0,32,0,128,496,1023,2047] 10 [15] [(160,vb (!v41))] [9] [] (q_cq hm (λhm=>?_) (λhm=>?_))
   ·refine s_vn [] 10 ⟨[(4,vb false)],[]⟩ ?_;obtain rfl:=oi hm;refine q_rt (zJ false ?_);exact q_rm
   ·refine q_sk (q_vv [] 10 [14,160] [(14,vi (w64 (x37+1)))] ?_);exact q_hl (VH v14 v16 (w64 (x37+1))) (ih (w64 (x37+1)) _ hm)
  ·refine q_ex 0 ?_;obtain rfl:=oi hm;exact q_l1 ()
theorem qI2 (a1:zX) (a2:zM) (r:Bool) (hm:KO a1 a2=some r):CtX Tryz.prog globs 6 0 0 [.agg (PF a1),.agg (yN a2)] [] (NX r) (FC r):=by
 unfold KO at hm;refine q_E f6 162 λE=>?_;refine s_vn [] 0 ⟨[(2,vp 0 0),(3,vp 1 0)],[(0,bx 27 (PF a1)),(1,bx 43 (yN a2))]⟩ (q_sq ?_);refine q_jn (qG6 a1 a2) (λp=>jG a1 a2 p=some r) ?_ ?_
 ·rintro x8 hm;refine q_cq hm (λhm=>?_) (λhm=>?_)
  ·obtain⟨v10,h11,hm⟩:=qC hm;refine s_vn [qc 0 [] 2 (qB3 v10 h11)] 2 ⟨[(4,vb v10)],[]⟩ ?_;obtain rfl:=oi hm;exact q_rt q_rm
  ·refine q_sk ?_;obtain⟨v12,h13,hm⟩:=qC hm;refine s_vu [qk 2 [28] 2 ⟨[(28,va (wE a1.Scan))],[]⟩ (qKA a1.Scan 1 v12 h13)] 2 [25] [(5,vp 4 0)] [] [(2,ro 0 71 2 v12.Rings.length (rf qX v12.Rings)),(3,ro 0 87 7 v12.Defects.length (rf qM v12.Defects)),(4,bx 25 [.own 2 0 2 v12.Rings.length,.own 3 0 7 v12.Defects.length])] ?_;obtain⟨v14,h15,hm⟩:=qC hm;refine s_vu [qc 12 [32,34,36,38,40,42] 5 (qAa a1.Scan a2.Products a2.Saw a2.Rates a1.Limit a1.Most v14 h15)] 5 [] [(6,vo 5 0 7 v14.1.length),(7,vi v14.2)] [] [(5,ro 0 60 7 v14.1.length (rf zB v14.1))] ?_;obtain⟨v16,h17,hm⟩:=qC hm
   refine s_vu [qd 11 (dpr [.frz 2,.frz 3] (dex (cen [] [] 6 0 (qCf v16) (qCe v16) [47,49,51,53,55,57] []))) (And.intro (And.intro (ke v12.Rings.length) (ke v12.Rings.length)) (And.intro (ke v12.Defects.length) (ke v12.Defects.length))),qd 11 dN (wK (K:=(kx E 162 0)) ⟨[(47,va (wE v12)),(49,vc (tl qP dd a2.Products)),(51,va (jY a2.Saw)),(53,va (wC a2.Rates)),(55,vi a1.Limit),(57,vi a1.Most)],[]⟩ (opAt (rg f6 62) 11) [] [] 6 o0 rfl (qAa v12 a2.Products a2.Saw a2.Rates a1.Limit a1.Most v16 h17) (.inl rfl) (by kernel_rfl))] 6 [] [(8,vo 6 0 7 v16.1.length),(9,vi v16.2)] [2,3,4] [(4,bx 25 (wE v12)),(6,ro 0 60 7 v16.1.length (rf zB v16.1))] ?_
   obtain⟨v18,h19,hm⟩:=qC hm;refine s_vu [qc 12 [63,65,67,69,71,73] 7 (AX a1.Scan a2.Products a2.Saw a2.Rates a1.Limit a1.Most v18 h19)] 7 [] [(10,vp 7 0),(11,vi v18.2)] [] [(7,bx 60 (zB v18.1))] ?_;obtain⟨v20,h21,hm⟩:=qC hm;refine s_vu [qc 11 [78,80,82,84,86,88] 8 (AX v12 a2.Products a2.Saw a2.Rates a1.Limit a1.Most v20 h21)] 8 [2,3,5] [(12,vp 8 0),(13,vi v20.2)] [0,1,4] [(8,bx 60 (zB v20.1))] (q_sq ?_);refine q_jn (qG5 v14 v16 v18 v20) (λp=>wX v14 v16 v18 v20 p=some r) ?_ ?_
   ·rintro x23 hm;refine q_cq hm (λhm=>?_) (λhm=>?_)
    ·refine q_jn (qG1) (λp=>ZA p=some r) ?_ ?_
     ·rintro x30 hm;obtain rfl:=oi hm;exact q_rt q_rm
     ·rcases bif_c hm with⟨b25,hm⟩|⟨b25,hm⟩
      ·rcases bif_c hm with⟨b26,hm⟩|⟨b26,hm⟩
       ·rcases bif_c hm with⟨b27,hm⟩|⟨b27,hm⟩
        ·obtain⟨v28,h29,hm⟩:=qC hm;exact q_vn [qf 5 b25,qf 10 b26,qf 15 b27,qk 16 [113] 9 ⟨[(113,vb true)],[]⟩ (qB3 v28 h29)] 9 ⟨[(4,vb v28)],[]⟩ (q_J (v28) hm)
        ·exact q_vn [qf 5 b25,qf 10 b26,qf 15 b27] 9 ⟨[(4,vb false)],[]⟩ (q_J (false) hm)
       ·exact q_vn [qf 5 b25,qf 10 b26] 9 ⟨[(4,vb false)],[]⟩ (q_J (false) hm)
      ·exact q_vn [qf 5 b25] 9 ⟨[(4,vb false)],[]⟩ (q_J (false) hm)
    ·refine q_sk (q_sq ?_);refine q_jn (qHe v14 v16) (λp=>yE v14 v16 p=some r) ?_ ?_
     ·rintro x35 hm;refine q_cq hm (λhm=>?_) (λhm=>?_)
      ·refine s_vn [] 9 ⟨[(4,vb false)],[]⟩ ?_;obtain rfl:=oi hm;exact q_rt q_rm
      ·refine q_sk (q_sq ?_);refine s_vv [] 9 [138] [(14,vi 0)] ?_;obtain⟨u46,h45,hm⟩:=qC hm;refine zO (nd f6 16372) 0 (by kernel_rfl) FUEL (λo=>AR) (λv st=>RetQ Tryz.prog f6 (NX v) (FC v) .ret st) u46 (q_hl (VH v14 v16 0) (qFE E v14 v16 FUEL 0 u46 h45)) ?_ ?_
       ·rintro v47 rfl st hr;obtain rfl:=oi hm;exact hr
       ·rintro o44 rfl;rw[Sum.elim_inr] at hm;obtain⟨v48,h49,hm⟩:=qC hm;refine s_vn [qc 0 [] 9 (qB3 v48 h49)] 9 ⟨[(4,vb v48)],[]⟩ ?_;obtain rfl:=oi hm;exact q_rt q_rm
     ·rcases bif_c hm with⟨b31,hm⟩|⟨b31,hm⟩
      ·exact q_vu [qf 3 b31] 9 [7,9,10,11,12,13,97] [(138,vb true)] [7,8] [] (q_J (true) hm)
      ·rcases bif_c hm with⟨b32,hm⟩|⟨b32,hm⟩
       ·exact q_vu [qf 3 b31,qf 8 b32] 9 [7,9,10,11,12,13,97] [(138,vb true)] [7,8] [] (q_J (true) hm)
       ·rcases bif_c hm with⟨b33,hm⟩|⟨b33,hm⟩
        ·exact q_vu [qf 3 b31,qf 8 b32,qf 12 b33] 9 [7,9,10,11,12,13,97] [(138,vb true)] [7,8] [] (q_J (true) hm)
        ·rcases bif_c hm with⟨b34,hm⟩|⟨b34,hm⟩
         ·exact q_vu [qf 3 b31,qf 8 b32,qf 12 b33,qf 16 b34] 9 [7,9,10,11,12,13,97] [(138,vb true)] [7,8] [] (q_J (true) hm)
         ·exact q_vu [qf 3 b31,qf 8 b32,qf 12 b33,qf 16 b34] 9 [7,9,10,11,12,13,97] [(138,vb (v18.1.Value !=v20.1.Value))] [7,8] [] (q_J (v18.1.Value !=v20.1.Value) hm)
   ·rcases bif_c hm with⟨b22,hm⟩|⟨b22,hm⟩
    ·exact q_vv [qf 2 b22] 9 [] [(97,vb true)] (q_J (true) hm)
    ·exact q_vv [qf 2 b22] 9 [] [(97,vb (v16.2 !=0))] (q_J (v16.2 !=0) hm)
 ·obtain⟨v3,h4,hm⟩:=qC hm;rcases bif_c hm with⟨b5,hm⟩|⟨b5,hm⟩
  ·exact q_vv [qc 2 [16,17] 2 (qIb a1 a2 v3 h4),qf 4 b5] 2 [] [(25,vb true)] (q_J (true) hm)
  ·obtain⟨v6,h7,hm⟩:=qC hm;exact q_vv [qc 2 [16,17] 2 (qIb a1 a2 v3 h4),qf 4 b5,qk 7 [20,22] 2 ⟨[(20,vb false),(22,va (wE a1.Scan))],[]⟩ (qRA a1.Scan v6 h7)] 2 [] [(25,vb (v6 !=0))] (q_J (v6 !=0) hm)
end Saw
end Go.SL

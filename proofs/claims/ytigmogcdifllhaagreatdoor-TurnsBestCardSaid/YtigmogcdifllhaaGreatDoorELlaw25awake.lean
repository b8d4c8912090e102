import Derived.Test.YtigmogcdifllhaaGreatDoorEBase
import Derived.Test.YtigmogcdifllhaaGreatDoorELlaw25beam
import Derived.Test.YtigmogcdifllhaaGreatDoorEFa4
import Derived.Test.YtigmogcdifllhaaGreatDoorEFa7
set_option linter.unusedVariables false
set_option linter.unusedSimpArgs false
namespace Go.SL
namespace Saw
open Go.Proofs Go.Proofs.Tryz
set_option maxHeartbeats 4000000
set_option maxRecDepth 100000
def qDQ (r:Bool):V:=vb r
def qDB (r:Bool):List (Nat×(Nat×O)):=[]
def UU (v3:(List qO)×(List qH)×Int) (v11:(List qI)×Int) (v17:qI×Int) (v19:qI×Int):St:=
 ⟨[(3,vc (tl qS du v3.1)),(4,vc (tl qN du v3.2.1)),(5,vi v3.2.2),(6,vo 6 0 7 v11.1.length),(7,vi v11.2),(8,vp 7 0),(9,vi v17.2),(11,vi v19.2)],[(6,ro 0 60 7 v11.1.length (rf zF v11.1)),(7,bx 60 (zF v17.1))]⟩
def qNj (v3:(List qO)×(List qH)×Int) (v11:(List qI)×Int) (v17:qI×Int) (v19:qI×Int) (x24:Int) (x28:Bool):St:=
 (UU v3 v11 v17 v19).up [] [(12,vi x24),(76,vb x28)] [] []
def OR (v3:(List qO)×(List qH)×Int) (v11:(List qI)×Int) (v17:qI×Int) (v19:qI×Int) (x24:Int):St:=
 (UU v3 v11 v17 v19).up [] [(12,vi x24)] [] []
def qE6 (v3:(List qO)×(List qH)×Int) (v11:(List qI)×Int) (v17:qI×Int) (v19:qI×Int):St:=
 (UU v3 v11 v17 v19).up [6] [] [6] []
def qNk (x46:Bool):St:=
 ⟨[(0,vb x46)],[]⟩
def qNy (v3:(List qO)×(List qH)×Int) (v11:(List qI)×Int) (v17:qI×Int) (v19:qI×Int) (x22:Bool):St:=
 (UU v3 v11 v17 v19).up [] [(55,vb x22)] [] []
theorem qMr (E:Env 0) (v3:(List qO)×(List qH)×Int) (v11:(List qI)×Int) (v17:qI×Int) (v19:qI×Int):∀(n:Nat) (x24:Int) (res:Bool⊕Unit),GL v11 n x24=some res->HL (kx E 141 0) (nd f9 8180) (wY 0 (λo=>qE6 v3 v11 v17 v19) (λv st=>RetQ Tryz.prog f9 (qDQ v) (qDB v) .ret st) res) n (OR v3 v11 v17 v19 x24):=by
 intro n
 induction n with
 |zero=>
  intro x24 res hm;cases hm
 |succ n ih=>
  intro x24 res hm;refine qU (q_sq ?_);refine s_va 9 [(59,vb (decide (x24<(v11.1.length:Int))))] (q_cq hm (λhm=>?_) (λhm=>?_))
  ·refine q_sk (q_sq ?_);refine q_bk 1 (q_jn (qNj v3 v11 v17 v19 x24) (λp=>qBE x24 (GL v11 n) p=some res) ?_ ?_)
   ·rintro x28 hm;refine q_cq hm (λhm=>?_) (λhm=>?_)
    ·refine s_vn [] 9 ⟨[(0,vb false)],[]⟩ ?_;obtain rfl:=oi hm;refine q_rt (zQ false ?_);exact q_rm
    ·refine q_sk (q_vv [] 9 [12,76] [(12,vi (w64 (x24+1)))] ?_);exact q_hl (OR v3 v11 v17 v19 (w64 (x24+1))) (ih (w64 (x24+1)) _ hm)
   ·obtain⟨g26,hm⟩:=qJ hm;rcases bif_c hm with⟨b27,hm⟩|⟨b27,hm⟩
    ·exact q_vv [qi 2 g26,qd 4 dN (qT (zB g26)),qf 7 b27] 9 [59] [(76,vb true)] (q_J (true) hm)
    ·exact q_vv [qi 2 g26,qd 4 dN (qT (zB g26)),qf 7 b27,qi 10 g26,qd 12 dN (qT (zB g26))] 9 [59] [(76,vb (((v11.1.getD x24.toNat du).Value) !=80000000))] (q_J (((v11.1.getD x24.toNat du).Value) !=80000000) hm)
  ·refine q_ex 0 ?_;obtain rfl:=oi hm;exact q_l1 ()
theorem qBD (r:Bool) (hm:WL=some r):CtX Tryz.prog globs 9 0 0 [] [] (qDQ r) (qDB r):=by
 unfold WL at hm;refine q_E f9 141 λE=>?_;refine s_vn [] 0 ⟨[],[]⟩ ?_
 refine s_vn [qd 0 (drw 0 0 (rf qE [3000])) (litP qE du 1 (λ_=>rfl) ([3000]:List Int) 1 rfl),qd 1 (drw 1 0 (rf qE [80])) (litP qE du 1 (λ_=>rfl) ([80]:List Int) 1 rfl),qd 3 (dpr [.len 0 (([3000]:List Int).length),.frz 0,.len 1 (([80]:List Int).length),.frz 1] (drw 2 0 (rf qM ([(qD.mk (ByteArray.mk #[112,108,97,110,107]) 50 100 0 0 ([3000]:List Int) ([80]:List Int))]:List qD)))) (And.intro (And.intro (And.intro (show 1=([3000]:List Int).length from rfl) (show 1=([3000]:List Int).length from rfl)) (show 1=([3000]:List Int).length from rfl)) (And.intro (And.intro (ke (([3000]:List Int).length)) (ke (([3000]:List Int).length))) (And.intro (And.intro (And.intro (show 1=([80]:List Int).length from rfl) (show 1=([80]:List Int).length from rfl)) (show 1=([80]:List Int).length from rfl)) (And.intro (ke (([80]:List Int).length)) (ke (([80]:List Int).length)))))),qd 3 dN (litP qM du 7 (λ_=>rfl) ([(qD.mk (ByteArray.mk #[112,108,97,110,107]) 50 100 0 0 ([3000]:List Int) ([80]:List Int))]:List qD) 1 rfl)] 0 ⟨[(1,vo 2 0 7 1)],[(2,ro 0 74 7 1 (rf qM ([(qD.mk (ByteArray.mk #[112,108,97,110,107]) 50 100 0 0 ([3000]:List Int) ([80]:List Int))]:List qD)))]⟩ ?_
 refine s_vu [] 3 [] [(2,vp 3 0)] [] [(3,bx 39 [ci 4,ci 0,ci 10,ci 1000])] ?_;obtain⟨v1,h2,hm⟩:=qC hm;obtain⟨v3,h4,hm⟩:=qC hm;refine s_vv [qc 0 [] 4 (qDG v1 h2),qd 1 (dpr [.frz 4,.frz 5] (dex (cen [] [] 6 0 (qJz v3) (qJJ v3) [19] []))) (And.intro (ke v1.Rings.length) (ke v1.Defects.length)),qd 1 dN (wO (K:=(kx E 141 0)) ⟨[(19,va (jG v1))],[]⟩ (opAt (rg f9 30) 1) [] [] 6 o0 rfl (qIl v1 1 200 2 v3 h4) (.inl rfl) (by kernel_rfl))] 4 [] [(3,vc (tl qS du v3.1)),(4,vc (tl qN du v3.2.1)),(5,vi v3.2.2)] (q_sq ?_);obtain⟨v9,h10,hm⟩:=qC hm;obtain⟨v11,h12,hm⟩:=qC hm
 refine q_xu [.len 2 (([(qD.mk (ByteArray.mk #[112,108,97,110,107]) 50 100 0 0 ([3000]:List Int) ([80]:List Int))]:List qD).length),.frz 2] (o1 (And.intro (And.intro (show 1=([(qD.mk (ByteArray.mk #[112,108,97,110,107]) 50 100 0 0 ([3000]:List Int) ([80]:List Int))]:List qD).length from rfl) (show 1=([(qD.mk (ByteArray.mk #[112,108,97,110,107]) 50 100 0 0 ([3000]:List Int) ([80]:List Int))]:List qD).length from rfl)) (ke (([(qD.mk (ByteArray.mk #[112,108,97,110,107]) 50 100 0 0 ([3000]:List Int) ([80]:List Int))]:List qD).length)))) [qc 0 [] 6 (CtX.frz (x':=va (jG v9)) (ob':=[]) (CtX.frz (x':=va [tl zC du v9.Rings,.own 1 0 7 v9.Defects.length]) (ob':=[(1,ro 0 87 7 v9.Defects.length (rf qN v9.Defects))]) (qDG v9 h10) 0 (o1 (ke v9.Rings.length)) (by kernel_rfl)) 1 (o1 (ke v9.Defects.length)) (by kernel_rfl)),qk 4 [25,26,27,28] 6 ⟨[(25,va (jG v9)),(26,vc (tl qM du ([(qD.mk (ByteArray.mk #[112,108,97,110,107]) 50 100 0 0 ([3000]:List Int) ([80]:List Int))]:List qD))),(27,va [ci 4,ci 0,ci 10,ci 1000]),(28,va [ci 0,ci 0,ci 0])],[]⟩ (qEW v9 ([(qD.mk (ByteArray.mk #[112,108,97,110,107]) 50 100 0 0 ([3000]:List Int) ([80]:List Int))]:List qD) (Saw.mk 4 0 10 1000) (Rates.mk 0 0 0) 200 2 v11 h12)] [] o0 [0,0,0,0,15,31,63,63,127,511] 6 [1] [(1,vc (tl qM du ([(qD.mk (ByteArray.mk #[112,108,97,110,107]) 50 100 0 0 ([3000]:List Int) ([80]:List Int))]:List qD))),(6,vo 6 0 7 v11.1.length),(7,vi v11.2)] [2] [(6,ro 0 60 7 v11.1.length (rf zF v11.1))] ?_
 obtain⟨v15,h16,hm⟩:=qC hm;obtain⟨v17,h18,hm⟩:=qC hm
 refine s_du [qc 0 [] 7 (CtX.frz (x':=va (jG v15)) (ob':=[]) (CtX.frz (x':=va [tl zC du v15.Rings,.own 1 0 7 v15.Defects.length]) (ob':=[(1,ro 0 87 7 v15.Defects.length (rf qN v15.Defects))]) (qDG v15 h16) 0 (o1 (ke v15.Rings.length)) (by kernel_rfl)) 1 (o1 (ke v15.Defects.length)) (by kernel_rfl)),qk 4 [33,34,35,36] 7 ⟨[(33,va (jG v15)),(34,vc (tl qM du ([(qD.mk (ByteArray.mk #[112,108,97,110,107]) 50 100 0 0 ([3000]:List Int) ([80]:List Int))]:List qD))),(35,va [ci 4,ci 0,ci 10,ci 1000]),(36,va [ci 0,ci 0,ci 0])],[]⟩ (qDO v15 ([(qD.mk (ByteArray.mk #[112,108,97,110,107]) 50 100 0 0 ([3000]:List Int) ([80]:List Int))]:List qD) (Saw.mk 4 0 10 1000) (Rates.mk 0 0 0) 200 2 v17 h18)] [0,0,0,0,15,31,63,63,0,383,1023] 7 [] [(8,vp 7 0),(9,vi v17.2)] [] [(7,bx 60 (zF v17.1))] ?_
 obtain⟨v19,h20,hm⟩:=qC hm
 refine s_vu [qk 4 [41,42,43,44] 8 ⟨[(41,va [.emp,.emp]),(42,vc (tl qM du ([(qD.mk (ByteArray.mk #[112,108,97,110,107]) 50 100 0 0 ([3000]:List Int) ([80]:List Int))]:List qD))),(43,va [ci 4,ci 0,ci 10,ci 1000]),(44,va [ci 0,ci 0,ci 0])],[]⟩ (CtX.emp (xs':=[.agg [.emp,.emp],.one (tl qM du ([(qD.mk (ByteArray.mk #[112,108,97,110,107]) 50 100 0 0 ([3000]:List Int) ([80]:List Int))]:List qD)),.agg [ci 4,ci 0,ci 10,ci 1000],.agg [ci 0,ci 0,ci 0],.one (ci 200),.one (ci 2)]) (qDO (Scan.mk ([]:List Ring) ([]:List qH)) ([(qD.mk (ByteArray.mk #[112,108,97,110,107]) 50 100 0 0 ([3000]:List Int) ([80]:List Int))]:List qD) (Saw.mk 4 0 10 1000) (Rates.mk 0 0 0) 200 2 v19 h20) (And.intro (And.intro rfl (And.intro rfl trivial)) (And.intro rfl (And.intro (And.intro rfl (And.intro rfl (And.intro rfl (And.intro rfl trivial)))) (And.intro (And.intro rfl (And.intro rfl (And.intro rfl trivial))) (And.intro rfl (And.intro rfl trivial)))))))] 8 [1,2] [(11,vi v19.2)] [3] [] ?_
 refine q_sq (q_jn (qNy v3 v11 v17 v19) (λp=>YM v3 v11 v17 v19 p=some r) ?_ ?_)
 ·rintro x22 hm;refine q_cq hm (λhm=>?_) (λhm=>?_)
  ·refine s_vn [] 9 ⟨[(0,vb false)],[]⟩ ?_;obtain rfl:=oi hm;exact q_rt q_rm
  ·refine q_sk (q_sq ?_);refine s_vv [] 9 [55] [(12,vi 0)] ?_;obtain⟨u32,h31,hm⟩:=qC hm;refine zY (nd f9 8180) 0 (by kernel_rfl) FUEL (λo=>qE6 v3 v11 v17 v19) (λv st=>RetQ Tryz.prog f9 (qDQ v) (qDB v) .ret st) u32 (q_hl (OR v3 v11 v17 v19 0) (qMr E v3 v11 v17 v19 FUEL 0 u32 h31)) ?_ ?_
   ·rintro v33 rfl st hr;obtain rfl:=oi hm;exact hr
   ·rintro o30 rfl;replace hm:_=some r:=hm;refine q_jn (qNk) (λp=>jH p=some r) ?_ ?_
    ·rintro x46 hm;obtain rfl:=oi hm;exact q_rt q_rm
    ·rcases bif_c hm with⟨b34,hm⟩|⟨b34,hm⟩
     ·rcases bif_c hm with⟨b35,hm⟩|⟨b35,hm⟩
      ·obtain⟨g36,hm⟩:=qJ hm;rcases bif_c hm with⟨b37,hm⟩|⟨b37,hm⟩
       ·rcases bif_c hm with⟨b38,hm⟩|⟨b38,hm⟩
        ·rcases bif_c hm with⟨b39,hm⟩|⟨b39,hm⟩
         ·obtain⟨g40,hm⟩:=qJ hm;rcases bif_c hm with⟨b41,hm⟩|⟨b41,hm⟩
          ·rcases bif_c hm with⟨b42,hm⟩|⟨b42,hm⟩
           ·rcases bif_c hm with⟨b43,hm⟩|⟨b43,hm⟩
            ·rcases bif_c hm with⟨b44,hm⟩|⟨b44,hm⟩
             ·rcases bif_c hm with⟨b45,hm⟩|⟨b45,hm⟩
              ·exact q_vn [qf 2 b34,qf 7 b35,qi 9 g36,qf 14 b37,qi 16 g36,qf 22 b38,qi 24 g36,qf 31 b39,qi 33 g36,qi 37 g40,qf 42 b41,qf 46 b42,qf 50 b43,qf 55 b44,qf 60 b45] 9 ⟨[(0,vb (v19.2==3))],[]⟩ (q_J (v19.2==3) hm)
              ·exact q_vn [qf 2 b34,qf 7 b35,qi 9 g36,qf 14 b37,qi 16 g36,qf 22 b38,qi 24 g36,qf 31 b39,qi 33 g36,qi 37 g40,qf 42 b41,qf 46 b42,qf 50 b43,qf 55 b44,qf 60 b45] 9 ⟨[(0,vb false)],[]⟩ (q_J (false) hm)
             ·exact q_vn [qf 2 b34,qf 7 b35,qi 9 g36,qf 14 b37,qi 16 g36,qf 22 b38,qi 24 g36,qf 31 b39,qi 33 g36,qi 37 g40,qf 42 b41,qf 46 b42,qf 50 b43,qf 55 b44] 9 ⟨[(0,vb false)],[]⟩ (q_J (false) hm)
            ·exact q_vn [qf 2 b34,qf 7 b35,qi 9 g36,qf 14 b37,qi 16 g36,qf 22 b38,qi 24 g36,qf 31 b39,qi 33 g36,qi 37 g40,qf 42 b41,qf 46 b42,qf 50 b43] 9 ⟨[(0,vb false)],[]⟩ (q_J (false) hm)
           ·exact q_vn [qf 2 b34,qf 7 b35,qi 9 g36,qf 14 b37,qi 16 g36,qf 22 b38,qi 24 g36,qf 31 b39,qi 33 g36,qi 37 g40,qf 42 b41,qf 46 b42] 9 ⟨[(0,vb false)],[]⟩ (q_J (false) hm)
          ·exact q_vn [qf 2 b34,qf 7 b35,qi 9 g36,qf 14 b37,qi 16 g36,qf 22 b38,qi 24 g36,qf 31 b39,qi 33 g36,qi 37 g40,qf 42 b41] 9 ⟨[(0,vb false)],[]⟩ (q_J (false) hm)
         ·exact q_vn [qf 2 b34,qf 7 b35,qi 9 g36,qf 14 b37,qi 16 g36,qf 22 b38,qi 24 g36,qf 31 b39] 9 ⟨[(0,vb false)],[]⟩ (q_J (false) hm)
        ·exact q_vn [qf 2 b34,qf 7 b35,qi 9 g36,qf 14 b37,qi 16 g36,qf 22 b38] 9 ⟨[(0,vb false)],[]⟩ (q_J (false) hm)
       ·exact q_vn [qf 2 b34,qf 7 b35,qi 9 g36,qf 14 b37] 9 ⟨[(0,vb false)],[]⟩ (q_J (false) hm)
      ·exact q_vn [qf 2 b34,qf 7 b35] 9 ⟨[(0,vb false)],[]⟩ (q_J (false) hm)
     ·exact q_vn [qf 2 b34] 9 ⟨[(0,vb false)],[]⟩ (q_J (false) hm)
 ·rcases bif_c hm with⟨b21,hm⟩|⟨b21,hm⟩
  ·exact q_vv [qf 3 b21] 9 [] [(55,vb true)] (q_J (true) hm)
  ·exact q_vv [qf 3 b21] 9 [] [(55,vb ((v11.1.length:Int) !=4))] (q_J ((v11.1.length:Int) !=4) hm)
end Saw
end Go.SL

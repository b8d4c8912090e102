import Derived.Test.YtigmogcdifllhaaGreatDoorEBase
import Derived.Test.YtigmogcdifllhaaGreatDoorELlaw25beam
import Derived.Test.YtigmogcdifllhaaGreatDoorEFa6
import Derived.Test.YtigmogcdifllhaaGreatDoorEFa12
import Derived.Test.YtigmogcdifllhaaGreatDoorEFa13
set_option linter.unusedVariables false
set_option linter.unusedSimpArgs false
namespace Go.SL
namespace Saw
open Go.Proofs Go.Proofs.Tryz
set_option maxHeartbeats 4000000
set_option maxRecDepth 100000
def qDH (r:Bool):V:=vb r
def qDD (r:Bool):List (Nat×(Nat×O)):=[]
def UT (v3:(List qN)×(List qG)×Int) (v11:(List qI)×Int) (v17:qI×Int) (v19:qI×Int):St:=
 ⟨[(3,vc (tl qR dd v3.1)),(4,vc (tl qM dd v3.2.1)),(5,vi v3.2.2),(6,vo 6 0 7 v11.1.length),(7,vi v11.2),(8,vp 7 0),(9,vi v17.2),(11,vi v19.2)],[(6,ro 0 60 7 v11.1.length (rf zB v11.1)),(7,bx 60 (zB v17.1))]⟩
def qM5 (v3:(List qN)×(List qG)×Int) (v11:(List qI)×Int) (v17:qI×Int) (v19:qI×Int) (x24:Int) (x28:Bool):St:=
 (UT v3 v11 v17 v19).up [] [(12,vi x24),(76,vb x28)] [] []
def OL (v3:(List qN)×(List qG)×Int) (v11:(List qI)×Int) (v17:qI×Int) (v19:qI×Int) (x24:Int):St:=
 (UT v3 v11 v17 v19).up [] [(12,vi x24)] [] []
def qEI (v3:(List qN)×(List qG)×Int) (v11:(List qI)×Int) (v17:qI×Int) (v19:qI×Int):St:=
 (UT v3 v11 v17 v19).up [6] [] [6] []
def qMT (x46:Bool):St:=
 ⟨[(0,vb x46)],[]⟩
def qOi (v3:(List qN)×(List qG)×Int) (v11:(List qI)×Int) (v17:qI×Int) (v19:qI×Int) (x22:Bool):St:=
 (UT v3 v11 v17 v19).up [] [(55,vb x22)] [] []
theorem qL0 (E:Env 0) (v3:(List qN)×(List qG)×Int) (v11:(List qI)×Int) (v17:qI×Int) (v19:qI×Int):∀(n:Nat) (x24:Int) (res:Bool⊕Unit),GO v11 n x24=some res->HL (kx E 141 0) (nd f9 8180) (wL 0 (λo=>qEI v3 v11 v17 v19) (λv st=>RetQ Tryz.prog f9 (qDH v) (qDD v) .ret st) res) n (OL v3 v11 v17 v19 x24):=by
 intro n
 induction n with
 |zero=>
  intro x24 res hm;cases hm
 |succ n ih=>
  intro x24 res hm;refine qS (q_sq ?_);refine s_va 9 [(59,vb (decide (x24<(v11.1.length:Int))))] (q_cq hm (λhm=>?_) (λhm=>?_))
  ·refine q_sk (q_sq ?_);refine q_bk 1 (q_jn (qM5 v3 v11 v17 v19 x24) (λp=>qBD x24 (GO v11 n) p=some res) ?_ ?_)
   ·rintro x28 hm;refine q_cq hm (λhm=>?_) (λhm=>?_)
    ·refine s_vn [] 9 ⟨[(0,vb false)],[]⟩ ?_;obtain rfl:=oi hm;refine q_rt (zJ false ?_);exact q_rm
    ·refine q_sk (q_vv [] 9 [12,76] [(12,vi (w64 (x24+1)))] ?_);exact q_hl (OL v3 v11 v17 v19 (w64 (x24+1))) (ih (w64 (x24+1)) _ hm)
   ·obtain⟨g26,hm⟩:=qJ hm;rcases bif_c hm with⟨b27,hm⟩|⟨b27,hm⟩
    ·exact q_vv [qi 2 g26,qd 4 dN (qW (zC g26)),qf 7 b27] 9 [59] [(76,vb true)] (q_J (true) hm)
    ·exact q_vv [qi 2 g26,qd 4 dN (qW (zC g26)),qf 7 b27,qi 10 g26,qd 12 dN (qW (zC g26))] 9 [59] [(76,vb (((v11.1.getD x24.toNat dd).Value) !=80000000))] (q_J (((v11.1.getD x24.toNat dd).Value) !=80000000) hm)
  ·refine q_ex 0 ?_;obtain rfl:=oi hm;exact q_l1 ()
theorem qB3 (r:Bool) (hm:QS=some r):CtX Tryz.prog globs 9 0 0 [] [] (qDH r) (qDD r):=by
 unfold QS at hm;refine q_E f9 141 λE=>?_;refine s_vn [] 0 ⟨[],[]⟩ ?_
 refine s_vn [qd 0 (drw 0 0 (rf qD [3000])) (litP qD dd 1 (λ_=>rfl) ([3000]:List Int) 1 rfl),qd 1 (drw 1 0 (rf qD [80])) (litP qD dd 1 (λ_=>rfl) ([80]:List Int) 1 rfl),qd 3 (dpr [.len 0 (([3000]:List Int).length),.frz 0,.len 1 (([80]:List Int).length),.frz 1] (drw 2 0 (rf qP ([(qE.mk (ByteArray.mk #[112,108,97,110,107]) 50 100 0 0 ([3000]:List Int) ([80]:List Int))]:List qE)))) (And.intro (And.intro (And.intro (show 1=([3000]:List Int).length from rfl) (show 1=([3000]:List Int).length from rfl)) (show 1=([3000]:List Int).length from rfl)) (And.intro (And.intro (ke (([3000]:List Int).length)) (ke (([3000]:List Int).length))) (And.intro (And.intro (And.intro (show 1=([80]:List Int).length from rfl) (show 1=([80]:List Int).length from rfl)) (show 1=([80]:List Int).length from rfl)) (And.intro (ke (([80]:List Int).length)) (ke (([80]:List Int).length)))))),qd 3 dN (litP qP dd 7 (λ_=>rfl) ([(qE.mk (ByteArray.mk #[112,108,97,110,107]) 50 100 0 0 ([3000]:List Int) ([80]:List Int))]:List qE) 1 rfl)] 0 ⟨[(1,vo 2 0 7 1)],[(2,ro 0 74 7 1 (rf qP ([(qE.mk (ByteArray.mk #[112,108,97,110,107]) 50 100 0 0 ([3000]:List Int) ([80]:List Int))]:List qE)))]⟩ ?_
 refine s_vu [] 3 [] [(2,vp 3 0)] [] [(3,bx 39 [ci 4,ci 0,ci 10,ci 1000])] ?_;obtain⟨v1,h2,hm⟩:=qC hm;obtain⟨v3,h4,hm⟩:=qC hm;refine s_vv [qc 0 [] 4 (qDz v1 h2),qd 1 (dpr [.frz 4,.frz 5] (dex (cen [] [] 6 0 (qJg v3) (qJj v3) [19] []))) (And.intro (ke v1.Rings.length) (ke v1.Defects.length)),qd 1 dN (wK (K:=(kx E 141 0)) ⟨[(19,va (wE v1))],[]⟩ (opAt (rg f9 30) 1) [] [] 6 o0 rfl (qHy v1 1 200 2 v3 h4) (.inl rfl) (by kernel_rfl))] 4 [] [(3,vc (tl qR dd v3.1)),(4,vc (tl qM dd v3.2.1)),(5,vi v3.2.2)] (q_sq ?_);obtain⟨v9,h10,hm⟩:=qC hm;obtain⟨v11,h12,hm⟩:=qC hm
 refine q_xu [.len 2 (([(qE.mk (ByteArray.mk #[112,108,97,110,107]) 50 100 0 0 ([3000]:List Int) ([80]:List Int))]:List qE).length),.frz 2] (o1 (And.intro (And.intro (show 1=([(qE.mk (ByteArray.mk #[112,108,97,110,107]) 50 100 0 0 ([3000]:List Int) ([80]:List Int))]:List qE).length from rfl) (show 1=([(qE.mk (ByteArray.mk #[112,108,97,110,107]) 50 100 0 0 ([3000]:List Int) ([80]:List Int))]:List qE).length from rfl)) (ke (([(qE.mk (ByteArray.mk #[112,108,97,110,107]) 50 100 0 0 ([3000]:List Int) ([80]:List Int))]:List qE).length)))) [qc 0 [] 6 (CtX.frz (x':=va (wE v9)) (ob':=[]) (CtX.frz (x':=va [tl qX dd v9.Rings,.own 1 0 7 v9.Defects.length]) (ob':=[(1,ro 0 87 7 v9.Defects.length (rf qM v9.Defects))]) (qDz v9 h10) 0 (o1 (ke v9.Rings.length)) (by kernel_rfl)) 1 (o1 (ke v9.Defects.length)) (by kernel_rfl)),qk 4 [25,26,27,28] 6 ⟨[(25,va (wE v9)),(26,vc (tl qP dd ([(qE.mk (ByteArray.mk #[112,108,97,110,107]) 50 100 0 0 ([3000]:List Int) ([80]:List Int))]:List qE))),(27,va [ci 4,ci 0,ci 10,ci 1000]),(28,va [ci 0,ci 0,ci 0])],[]⟩ (qAa v9 ([(qE.mk (ByteArray.mk #[112,108,97,110,107]) 50 100 0 0 ([3000]:List Int) ([80]:List Int))]:List qE) (Saw.mk 4 0 10 1000) (Rates.mk 0 0 0) 200 2 v11 h12)] [] o0 [0,0,0,0,15,31,63,63,127,511] 6 [1] [(1,vc (tl qP dd ([(qE.mk (ByteArray.mk #[112,108,97,110,107]) 50 100 0 0 ([3000]:List Int) ([80]:List Int))]:List qE))),(6,vo 6 0 7 v11.1.length),(7,vi v11.2)] [2] [(6,ro 0 60 7 v11.1.length (rf zB v11.1))] ?_
 obtain⟨v15,h16,hm⟩:=qC hm;obtain⟨v17,h18,hm⟩:=qC hm
 refine s_du [qc 0 [] 7 (CtX.frz (x':=va (wE v15)) (ob':=[]) (CtX.frz (x':=va [tl qX dd v15.Rings,.own 1 0 7 v15.Defects.length]) (ob':=[(1,ro 0 87 7 v15.Defects.length (rf qM v15.Defects))]) (qDz v15 h16) 0 (o1 (ke v15.Rings.length)) (by kernel_rfl)) 1 (o1 (ke v15.Defects.length)) (by kernel_rfl)),qk 4 [33,34,35,36] 7 ⟨[(33,va (wE v15)),(34,vc (tl qP dd ([(qE.mk (ByteArray.mk #[112,108,97,110,107]) 50 100 0 0 ([3000]:List Int) ([80]:List Int))]:List qE))),(35,va [ci 4,ci 0,ci 10,ci 1000]),(36,va [ci 0,ci 0,ci 0])],[]⟩ (AX v15 ([(qE.mk (ByteArray.mk #[112,108,97,110,107]) 50 100 0 0 ([3000]:List Int) ([80]:List Int))]:List qE) (Saw.mk 4 0 10 1000) (Rates.mk 0 0 0) 200 2 v17 h18)] [0,0,0,0,15,31,63,63,0,383,1023] 7 [] [(8,vp 7 0),(9,vi v17.2)] [] [(7,bx 60 (zB v17.1))] ?_
 obtain⟨v19,h20,hm⟩:=qC hm
 refine s_vu [qk 4 [41,42,43,44] 8 ⟨[(41,va [.emp,.emp]),(42,vc (tl qP dd ([(qE.mk (ByteArray.mk #[112,108,97,110,107]) 50 100 0 0 ([3000]:List Int) ([80]:List Int))]:List qE))),(43,va [ci 4,ci 0,ci 10,ci 1000]),(44,va [ci 0,ci 0,ci 0])],[]⟩ (CtX.emp (xs':=[.agg [.emp,.emp],.one (tl qP dd ([(qE.mk (ByteArray.mk #[112,108,97,110,107]) 50 100 0 0 ([3000]:List Int) ([80]:List Int))]:List qE)),.agg [ci 4,ci 0,ci 10,ci 1000],.agg [ci 0,ci 0,ci 0],.one (ci 200),.one (ci 2)]) (AX (Scan.mk ([]:List Ring) ([]:List qG)) ([(qE.mk (ByteArray.mk #[112,108,97,110,107]) 50 100 0 0 ([3000]:List Int) ([80]:List Int))]:List qE) (Saw.mk 4 0 10 1000) (Rates.mk 0 0 0) 200 2 v19 h20) (And.intro (And.intro rfl (And.intro rfl trivial)) (And.intro rfl (And.intro (And.intro rfl (And.intro rfl (And.intro rfl (And.intro rfl trivial)))) (And.intro (And.intro rfl (And.intro rfl (And.intro rfl trivial))) (And.intro rfl (And.intro rfl trivial)))))))] 8 [1,2] [(11,vi v19.2)] [3] [] ?_
 refine q_sq (q_jn (qOi v3 v11 v17 v19) (λp=>YQ v3 v11 v17 v19 p=some r) ?_ ?_)
 ·rintro x22 hm;refine q_cq hm (λhm=>?_) (λhm=>?_)
  ·refine s_vn [] 9 ⟨[(0,vb false)],[]⟩ ?_;obtain rfl:=oi hm;exact q_rt q_rm
  ·refine q_sk (q_sq ?_);refine s_vv [] 9 [55] [(12,vi 0)] ?_;obtain⟨u32,h31,hm⟩:=qC hm;refine zO (nd f9 8180) 0 (by kernel_rfl) FUEL (λo=>qEI v3 v11 v17 v19) (λv st=>RetQ Tryz.prog f9 (qDH v) (qDD v) .ret st) u32 (q_hl (OL v3 v11 v17 v19 0) (qL0 E v3 v11 v17 v19 FUEL 0 u32 h31)) ?_ ?_
   ·rintro v33 rfl st hr;obtain rfl:=oi hm;exact hr
   ·rintro o30 rfl;replace hm:_=some r:=hm;refine q_jn (qMT) (λp=>jF p=some r) ?_ ?_
    ·rintro x46 hm;obtain rfl:=oi hm;exact q_rt q_rm
    ·rcases bif_c hm with⟨b34,hm⟩|⟨b34,hm⟩
     ·rcases bif_c hm with⟨b35,hm⟩|⟨b35,hm⟩
      ·obtain⟨g36,hm⟩:=qJ hm;rcases bif_c hm with⟨b37,hm⟩|⟨b37,hm⟩
       ·rcases bif_c hm with⟨b38,hm⟩|⟨b38,hm⟩
        ·rcases bif_c hm with⟨b39,hm⟩|⟨b39,hm⟩
         ·obtain⟨g40,hm⟩:=qJ hm;rcases bif_c hm with⟨b41,hm⟩|⟨b41,hm⟩
          ·rcases bif_c hm with⟨b42,hm⟩|⟨b42,hm⟩
           ·rcases bif_c hm with⟨b43,hm⟩|⟨b43,hm⟩
            ·rcases bif_c hm with⟨b44,hm⟩|⟨b44,hm⟩
             ·rcases bif_c hm with⟨b45,hm⟩|⟨b45,hm⟩
              ·exact q_vn [qf 2 b34,qf 7 b35,qi 9 g36,qf 14 b37,qi 16 g36,qf 22 b38,qi 24 g36,qf 31 b39,qi 33 g36,qi 37 g40,qf 42 b41,qf 46 b42,qf 50 b43,qf 55 b44,qf 60 b45] 9 ⟨[(0,vb (v19.2==3))],[]⟩ (q_J (v19.2==3) hm)
              ·exact q_vn [qf 2 b34,qf 7 b35,qi 9 g36,qf 14 b37,qi 16 g36,qf 22 b38,qi 24 g36,qf 31 b39,qi 33 g36,qi 37 g40,qf 42 b41,qf 46 b42,qf 50 b43,qf 55 b44,qf 60 b45] 9 ⟨[(0,vb false)],[]⟩ (q_J (false) hm)
             ·exact q_vn [qf 2 b34,qf 7 b35,qi 9 g36,qf 14 b37,qi 16 g36,qf 22 b38,qi 24 g36,qf 31 b39,qi 33 g36,qi 37 g40,qf 42 b41,qf 46 b42,qf 50 b43,qf 55 b44] 9 ⟨[(0,vb false)],[]⟩ (q_J (false) hm)
            ·exact q_vn [qf 2 b34,qf 7 b35,qi 9 g36,qf 14 b37,qi 16 g36,qf 22 b38,qi 24 g36,qf 31 b39,qi 33 g36,qi 37 g40,qf 42 b41,qf 46 b42,qf 50 b43] 9 ⟨[(0,vb false)],[]⟩ (q_J (false) hm)
           ·exact q_vn [qf 2 b34,qf 7 b35,qi 9 g36,qf 14 b37,qi 16 g36,qf 22 b38,qi 24 g36,qf 31 b39,qi 33 g36,qi 37 g40,qf 42 b41,qf 46 b42] 9 ⟨[(0,vb false)],[]⟩ (q_J (false) hm)
          ·exact q_vn [qf 2 b34,qf 7 b35,qi 9 g36,qf 14 b37,qi 16 g36,qf 22 b38,qi 24 g36,qf 31 b39,qi 33 g36,qi 37 g40,qf 42 b41] 9 ⟨[(0,vb false)],[]⟩ (q_J (false) hm)
         ·exact q_vn [qf 2 b34,qf 7 b35,qi 9 g36,qf 14 b37,qi 16 g36,qf 22 b38,qi 24 g36,qf 31 b39] 9 ⟨[(0,vb false)],[]⟩ (q_J (false) hm)
        ·exact q_vn [qf 2 b34,qf 7 b35,qi 9 g36,qf 14 b37,qi 16 g36,qf 22 b38] 9 ⟨[(0,vb false)],[]⟩ (q_J (false) hm)
       ·exact q_vn [qf 2 b34,qf 7 b35,qi 9 g36,qf 14 b37] 9 ⟨[(0,vb false)],[]⟩ (q_J (false) hm)
      ·exact q_vn [qf 2 b34,qf 7 b35] 9 ⟨[(0,vb false)],[]⟩ (q_J (false) hm)
     ·exact q_vn [qf 2 b34] 9 ⟨[(0,vb false)],[]⟩ (q_J (false) hm)
 ·rcases bif_c hm with⟨b21,hm⟩|⟨b21,hm⟩
  ·exact q_vv [qf 3 b21] 9 [] [(55,vb true)] (q_J (true) hm)
  ·exact q_vv [qf 3 b21] 9 [] [(55,vb ((v11.1.length:Int) !=4))] (q_J ((v11.1.length:Int) !=4) hm)
end Saw
end Go.SL

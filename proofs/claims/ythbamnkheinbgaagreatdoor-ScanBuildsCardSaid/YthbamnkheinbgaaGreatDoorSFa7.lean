import Derived.Test.YthbamnkheinbgaaGreatDoorSBase
import Derived.Test.YthbamnkheinbgaaGreatDoorSFa6
set_option linter.unusedVariables false
set_option linter.unusedSimpArgs false
namespace Go.SL
namespace Saw
open Go.Proofs Go.Proofs.Tryz
set_option maxHeartbeats 4000000
set_option maxRecDepth 100000
def qI2 (r:Ring):V:=va [ci r.Z,.own 0 0 3 r.Read.length]
def qIY (r:Ring):List (Nat×(Nat×O)):=[(0,ro 0 73 3 r.Read.length (rf qG r.Read))]
theorem qIN (a1:Ring) (r:Ring) (hm:UE a1=some r):CtX Tryz.prog globs 134 0 0 [.agg (qN a1)] [] (qI2 r) (qIY r):=by
 unfold UE at hm;refine q_E f134 10 λE=>?_;refine s_vn [] 0 ⟨[(1,vp 0 0),(2,vp 1 0)],[(0,bx 45 (qN a1)),(1,bx 45 [ci 0,.emp])]⟩ ?_;obtain⟨g2,hm⟩:=qH hm;refine s_du [qd 2 (drw 2 0 (rf qG [])) (litP qG dd 3 (λ_=>rfl) ([]:List qE) 0 rfl),qd 5 (drw 2 1 (rf qG (([]:List qE)++a1.Read))) (apP qG dd ([]:List qE) a1.Read 0 a1.Read.length 3 24 (True) trivial rfl rfl (λ_=>rfl) (zK g2))] [0,1,0,0,8,28,63,127] 2 [1] [] [0,1] [(1,bx 45 [ci a1.Z,.own 2 1 3 (0+a1.Read.length)]),(2,ro 1 73 3 (0+a1.Read.length) (rf qG (([]:List qE)++a1.Read)))] ?_
 refine q_fu [.len 2 ((([]:List qE)++a1.Read).length)] [] [] [1,2] [(1,bx 45 [ci a1.Z,.own 2 1 3 ((([]:List qE)++a1.Read).length)]),(2,ro 1 73 3 ((([]:List qE)++a1.Read).length) (rf qG (([]:List qE)++a1.Read)))] (o1 (And.intro (Eq.symm (show(([]:List qE)++a1.Read).length=(0+a1.Read.length) from(zA rfl rfl))) (Eq.symm (show(([]:List qE)++a1.Read).length=(0+a1.Read.length) from(zA rfl rfl))))) ?_;obtain rfl:=oi hm;exact q_sw 2 0 (q_rt q_rm)
def UR (r:Bool):V:=vb r
def WC (r:Bool):List (Nat×(Nat×O)):=[]
theorem qJX (r:Bool):jO (WC r):=by
 intro i k o h;unfold WC at h;cases h
def qFP (a1:List qA) (x2:Int) (x8:Bool):St:=
 ⟨[(0,vc (tl qB dd a1)),(3,vi x2),(39,vb x8)],[]⟩
def GK (a1:List qA) (x2:Int):St:=
 ⟨[(0,vc (tl qB dd a1)),(3,vi x2)],[]⟩
def IH :St:=
 ⟨[],[]⟩
theorem qEz (E:Env 0) (a1:List qA):∀(n:Nat) (x2:Int) (res:Bool⊕Unit),zT a1 n x2=some res->HL (kx E 40 0) (nd f86 52) (wL 0 (λo=>IH) (λv st=>RetQ Tryz.prog f86 (UR v) (WC v) .ret st) res) n (GK a1 x2):=by
 intro n
 induction n with
 |zero=>
  intro x2 res hm;cases hm
 |succ n ih=>
  intro x2 res hm;refine qP (q_sq ?_);refine s_va 0 [(7,vb (decide (x2<(a1.length:Int))))] (q_cq hm (λhm=>?_) (λhm=>?_))
  ·refine q_sk (q_sq ?_);refine q_bk 1 (q_jn (qFP a1 x2) (λp=>yR x2 (zT a1 n) p=some res) ?_ ?_)
   ·rintro x8 hm;refine q_cq hm (λhm=>?_) (λhm=>?_)
    ·refine s_vn [] 0 ⟨[(2,vb false)],[]⟩ ?_;obtain rfl:=oi hm;refine q_rt (zG false ?_);exact q_rm
    ·refine q_sk (q_vv [] 0 [3,39] [(3,vi (w64 (x2+1)))] ?_);exact q_hl (GK a1 (w64 (x2+1))) (ih (w64 (x2+1)) _ hm)
   ·obtain⟨g4,hm⟩:=qH hm;rcases bif_c hm with⟨b5,hm⟩|⟨b5,hm⟩
    ·exact q_vv [qi 2 g4,qf 6 b5] 0 [7] [(39,vb true)] (q_J (true) hm)
    ·rcases bif_c hm with⟨b6,hm⟩|⟨b6,hm⟩
     ·exact q_vv [qi 2 g4,qf 6 b5,qi 9 g4,qf 14 b6] 0 [7] [(39,vb true)] (q_J (true) hm)
     ·rcases bif_c hm with⟨b7,hm⟩|⟨b7,hm⟩
      ·exact q_vv [qi 2 g4,qf 6 b5,qi 9 g4,qf 14 b6,qi 17 g4,qf 22 b7] 0 [7] [(39,vb true)] (q_J (true) hm)
      ·exact q_vv [qi 2 g4,qf 6 b5,qi 9 g4,qf 14 b6,qi 17 g4,qf 22 b7,qi 25 g4] 0 [7] [(39,vb (decide (((a1.getD x2.toNat dd).Y)>600)))] (q_J (decide (((a1.getD x2.toNat dd).Y)>600)) hm)
  ·refine q_ex 0 ?_;obtain rfl:=oi hm;exact q_l1 ()
theorem TA (a1:List qA) (r:Bool) (hm:jS a1=some r):CtX Tryz.prog globs 86 0 0 [.one (tl qB dd a1)] [] (UR r) (WC r):=by
 unfold jS at hm;refine q_E f86 40 λE=>?_;refine s_vn [] 0 ⟨[(0,vc (tl qB dd a1))],[]⟩ (q_sq ?_);refine s_va 0 [(3,vi 0)] ?_;obtain⟨u12,h11,hm⟩:=qD hm;refine zR (nd f86 52) 0 (by kernel_rfl) FUEL (λo=>IH) (λv st=>RetQ Tryz.prog f86 (UR v) (WC v) .ret st) u12 (q_hl (GK a1 0) (qEz E a1 FUEL 0 u12 h11)) ?_ ?_
 ·rintro v13 rfl st hr;obtain rfl:=oi hm;exact hr
 ·rintro o10 rfl;replace hm:_=some r:=hm;refine s_vn [] 0 ⟨[(2,vb true)],[]⟩ ?_;obtain rfl:=oi hm;exact q_rt q_rm
def AL (r:Int):V:=vi r
def AQ (r:Int):List (Nat×(Nat×O)):=[]
def qGW (a1:Ring) (x7:Int) (x16:Bool):St:=
 ⟨[(1,vp 0 0),(3,vi x7),(53,vb x16)],[(0,bx 45 (qN a1))]⟩
def qG2 (a1:Ring) (x7:Int) (x13:Bool):St:=
 ⟨[(1,vp 0 0),(3,vi x7),(4,vp 1 0),(44,vb x13)],[(0,bx 45 (qN a1)),(1,bx 73 (qG (a1.Read.getD x7.toNat dd)))]⟩
def BT (a1:Ring) (x7:Int):St:=
 ⟨[(1,vp 0 0),(3,vi x7)],[(0,bx 45 (qN a1))]⟩
def qAq :St:=
 ⟨[],[]⟩
def qG0 (a1:Ring) (x5:Bool):St:=
 ⟨[(1,vp 0 0),(15,vb x5)],[(0,bx 45 (qN a1))]⟩
theorem qFo (E:Env 0) (a1:Ring):∀(n:Nat) (x7:Int) (res:Int⊕Unit),jK a1 n x7=some res->HL (kx E 54 0) (nd f40 116) (wL 1 (λo=>qAq) (λv st=>RetQ Tryz.prog f40 (AL v) (AQ v) .ret st) res) n (BT a1 x7):=by
 intro n
 induction n with
 |zero=>
  intro x7 res hm;cases hm
 |succ n ih=>
  intro x7 res hm;refine qP (q_sq ?_);refine s_va 1 [(28,vb (decide (x7<(a1.Read.length:Int))))] (q_cq hm (λhm=>?_) (λhm=>?_))
  ·refine q_sk (q_sq ?_);refine q_bk 2 ?_;obtain⟨g9,hm⟩:=qH hm;refine s_vu [qi 3 g9] 1 [28] [(4,vp 1 0)] [] [(1,bx 73 (qG (a1.Read.getD x7.toNat dd)))] (q_sq ?_);refine q_jn (qG2 a1 x7) (λp=>VO a1 x7 (jK a1 n) p=some res) ?_ ?_
   ·rintro x13 hm;refine q_cq hm (λhm=>?_) (λhm=>?_)
    ·refine s_vn [] 3 ⟨[(2,vi 9)],[]⟩ ?_;obtain rfl:=oi hm;refine q_rt (zG 9 ?_);exact q_rm
    ·refine q_sk (q_jn (qGW a1 x7) (λp=>VF x7 (jK a1 n) p=some res) ?_ ?_)
     ·rintro x16 hm;refine q_cq hm (λhm=>?_) (λhm=>?_)
      ·refine s_vn [] 3 ⟨[(2,vi 19)],[]⟩ ?_;obtain rfl:=oi hm;refine q_rt (zG 19 ?_);exact q_rm
      ·refine q_sk (q_vv [] 3 [3,53] [(3,vi (w64 (x7+1)))] ?_);exact q_hl (BT a1 (w64 (x7+1))) (ih (w64 (x7+1)) _ hm)
     ·rcases bif_c hm with⟨b15,hm⟩|⟨b15,hm⟩
      ·exact q_vu [qf 3 b15] 3 [4,44] [(53,vb (!(((((a1.Read.getD x7.toNat dd).P).X)==0)&&(((((a1.Read.getD x7.toNat dd).P).Y)==0)&&true))))] [1] [] (q_J (!(((((a1.Read.getD x7.toNat dd).P).X)==0)&&(((((a1.Read.getD x7.toNat dd).P).Y)==0)&&true))) hm)
      ·exact q_vu [qf 3 b15] 3 [4,44] [(53,vb false)] [1] [] (q_J (false) hm)
   ·rcases bif_c hm with⟨b10,hm⟩|⟨b10,hm⟩
    ·obtain⟨v11,h12,hm⟩:=qD hm
     exact q_vv [qf 2 b10,qd 5 (drw 2 0 (rf qB [(a1.Read.getD x7.toNat dd).P])) (litP qB dd 2 (λ_=>rfl) ([(a1.Read.getD x7.toNat dd).P]:List qA) 1 rfl),qd 6 (dex (cen [] [] 3 0 (UR v11) (WC v11) [38,41] [2])) (zJ (K:=(kx E 54 0)) (xs':=[.one (.lst 1 (rf qB [(a1.Read.getD x7.toNat dd).P]))]) (b:=false) ⟨[(38,vb true),(41,vo 2 0 2 1)],[(2,ro 0 71 2 1 (rf qB [(a1.Read.getD x7.toNat dd).P]))]⟩ (opAt (rg f40 7460) 6) [] [] 3 (o1 (ki 1)) (by simp only[tl,rf,show([(a1.Read.getD x7.toNat dd).P]:List qA).length=1 from rfl]) (TA ([(a1.Read.getD x7.toNat dd).P]:List qA) v11 h12) (.inr ⟨(by kernel_rfl),qJX v11⟩) (by kernel_rfl))] 2 [] [(44,vb (!v11))] (q_J (!v11) hm)
    ·exact q_vv [qf 2 b10] 2 [] [(44,vb false)] (q_J (false) hm)
  ·refine q_ex 1 ?_;obtain rfl:=oi hm;exact q_l1 ()
theorem MW (a1:Ring) (r:Int) (hm:YO a1=some r):CtX Tryz.prog globs 40 0 0 [.agg (qN a1)] [] (AL r) (AQ r):=by
 unfold YO at hm;refine q_E f40 54 λE=>?_;refine s_vn [] 0 ⟨[(1,vp 0 0)],[(0,bx 45 (qN a1))]⟩ (q_sq ?_);refine q_bk 0 (s_va 1 [(5,vb (decide ((a1.Read.length:Int)<8)))] ?_);refine q_cq hm (λhm=>?_) (λhm=>?_)
 ·refine s_vn [] 1 ⟨[(2,vi 3)],[]⟩ ?_;obtain rfl:=oi hm;exact q_rt q_rm
 ·refine s_vv [] 1 [5] [(10,vb (decide ((a1.Read.length:Int)>32)))] (q_cq hm (λhm=>?_) (λhm=>?_))
  ·refine s_vn [] 1 ⟨[(2,vi 4)],[]⟩ ?_;obtain rfl:=oi hm;exact q_rt q_rm
  ·refine q_jn (qG0 a1) (λp=>VT a1 p=some r) ?_ ?_
   ·rintro x5 hm;refine q_cq hm (λhm=>?_) (λhm=>?_)
    ·refine s_vn [] 1 ⟨[(2,vi 9)],[]⟩ ?_;obtain rfl:=oi hm;exact q_rt q_rm
    ·refine q_sk (q_sq ?_);refine s_vv [] 1 [15] [(3,vi 0)] ?_;obtain⟨u20,h19,hm⟩:=qD hm;refine zR (nd f40 116) 1 (by kernel_rfl) FUEL (λo=>qAq) (λv st=>RetQ Tryz.prog f40 (AL v) (AQ v) .ret st) u20 (q_hl (BT a1 0) (qFo E a1 FUEL 0 u20 h19)) ?_ ?_
     ·rintro v21 rfl st hr;obtain rfl:=oi hm;exact hr
     ·rintro o18 rfl;replace hm:_=some r:=hm;refine s_vn [] 1 ⟨[(2,vi 0)],[]⟩ ?_;obtain rfl:=oi hm;exact q_rt q_rm
   ·rcases bif_c hm with⟨b4,hm⟩|⟨b4,hm⟩
    ·exact q_vv [qf 3 b4] 1 [10] [(15,vb true)] (q_J (true) hm)
    ·exact q_vv [qf 3 b4] 1 [10] [(15,vb (decide (a1.Z>20000)))] (q_J (decide (a1.Z>20000)) hm)
open Go.Proofs Go.Proofs.Tryz
def qLD (r:Ring):V:=va [ci r.Z,.own 0 0 3 r.Read.length]
def qLv (r:Ring):List (Nat×(Nat×O)):=[(0,ro 0 73 3 r.Read.length (rf qG r.Read))]
def JJ (a1:Ring) (a2:Int):St:=
 ⟨[(1,vi a2),(2,vp 0 0),(4,vp 1 0),(7,vp 3 0)],[(0,bx 45 (qN a1)),(1,bx 45 [ci 0,.emp])]⟩
def CB (a1:Ring) (a2:Int) (v5:Ring) (x13:Int) (l32:List qE) (l32n:Nat):St:=
 (JJ a1 a2).up [] [(8,vi x13)] [] [(2,ro 0 73 3 l32n (rf qG l32)),(3,bx 45 [ci v5.Z,.own 2 0 3 l32n])]
def qGl (a1:Ring) (a2:Int) (v5:Ring) (x13:Int) (l14:List qE) (x29:Bool):St:=
 (JJ a1 a2).up [] [(8,vi x13),(85,vb x29)] [] [(2,ro 0 73 3 l14.length (rf qG l14)),(3,bx 45 [ci v5.Z,.own 2 0 3 l14.length])]
def BN (a1:Ring) (a2:Int) (v5:Ring) (x13:Int) (l14:List qE) (l14n:Nat):St:=
 (JJ a1 a2).up [] [(8,vi x13)] [] [(2,ro 0 73 3 l14n (rf qG l14)),(3,bx 45 [ci v5.Z,.own 2 0 3 l14n])]
def OM (v5:Ring) (l33:List qE):St:=
 ⟨[(4,vp 1 0),(7,vp 3 0)],[(1,bx 45 [ci 0,.emp]),(2,ro 0 73 3 l33.length (rf qG l33)),(3,bx 45 [ci v5.Z,.own 2 0 3 l33.length])]⟩
def qGY (a1:Ring) (a2:Int) (v5:Ring) (x11:Bool):St:=
 (JJ a1 a2).up [] [(32,vb x11)] [] [(2,ro 0 73 3 v5.Read.length (rf qG v5.Read)),(3,bx 45 [ci v5.Z,.own 2 0 3 v5.Read.length])]
theorem qFk (E:Env 0) (a1:Ring) (a2:Int) (v5:Ring):∀(n:Nat) (x13:Int) (l14:List qE) (l14n:Nat) (res:(List qE)),l14.length=l14n->wR a1 a2 n x13 l14=some res->HL (kx E 92 0) (nd f96 500) (zH 0 (λo=>OM v5 o) res) n (BN a1 a2 v5 x13 l14 l14n):=by
 intro n
 induction n with
 |zero=>
  intro x13 l14 l14n res hl0 hm;cases hm
 |succ n ih=>
  intro x13 l14 l14n res hl0 hm;subst hl0;refine qP (q_sq ?_);refine s_va 4 [(38,vb (decide (x13<(a1.Read.length:Int))))] (q_cq hm (λhm=>?_) (λhm=>?_))
  ·refine q_sk (q_jn (ι:=(List qE)×Nat) (λp=>CB a1 a2 v5 x13 p.1 p.2) (λp=>p.1.length=p.2/\XF x13 (wR a1 a2 n) p.1=some res) ?_ ?_)
   ·rintro⟨l32,l32n⟩ ⟨el32,hm⟩;replace el32:l32.length=l32n:=el32;subst el32;show H _ (CB a1 a2 v5 x13 l32 l32.length) _ _;exact q_vv [] 6 [8] [(8,vi (w64 (x13+1)))] (q_hl (BN a1 a2 v5 (w64 (x13+1)) l32 l32.length) (ih (w64 (x13+1)) l32 l32.length _ rfl hm))
   ·refine q_bk 1 (q_sq ?_);obtain⟨g16,hm⟩:=qH hm;refine s_vv [qi 3 g16] 4 [38] [(47,vb (!((a1.Read.getD x13.toNat dd).Ok)))] (q_cq hm (λhm=>?_) (λhm=>?_))
    ·exact q_ex 1 (q_J (l14,l14.length) ⟨rfl,hm⟩)
    ·refine q_sk ?_;obtain⟨v18,h19,hm⟩:=qD hm;obtain⟨g20,hm⟩:=qH hm;obtain⟨v21,h22,hm⟩:=qD hm;obtain⟨g23,hm⟩:=qH hm
     refine s_du [qk 5 [51,52] 4 ⟨[(51,vc (tl qG dd a1.Read)),(52,vi x13)],[]⟩ (BD a1.Read x13 (-1) v18 h19),qi 6 g20,qk 13 [59,60] 4 ⟨[(59,vc (tl qG dd a1.Read)),(60,vi x13)],[]⟩ (BD a1.Read x13 1 v21 h22),qi 14 g23] [0,1,0,4,0,28,63,127,0,256,0,1024,0,7228,16188,32572,0,0,212223,524287] 4 [47] [(9,vp 4 0),(10,vp 5 0)] [] [(4,bx 73 (qG (a1.Read.getD v18.toNat dd))),(5,bx 73 (qG (a1.Read.getD v21.toNat dd)))] (q_jn (qGl a1 a2 v5 x13 l14) (λp=>VU x13 l14 (wR a1 a2 n) p=some res) ?_ ?_)
     ·rintro x29 hm;refine q_cq hm (λhm=>?_) (λhm=>?_)
      ·obtain⟨g31,hm⟩:=qH hm;exact q_vu [qi 4 g31,qd 5 (drw 0 0 (rf qG (l14.set x13.toNat (qE.mk (qA.mk 0 0) false)))) (stP qG dd (qE.mk (qA.mk 0 0) false) l14 l14.length x13.toNat 0 [ci 0,ci 0,cb false] rfl (zC (zO g31)) rfl)] 6 [85] [] [2] [(2,ro 0 73 3 l14.length (rf qG (l14.set x13.toNat (qE.mk (qA.mk 0 0) false))))] (q_J ((l14.set x13.toNat (qE.mk (qA.mk 0 0) false)),l14.length) ⟨(RA rfl),hm⟩)
      ·exact q_sk (q_J (l14,l14.length) ⟨rfl,hm⟩)
     ·obtain⟨v24,h25,hm⟩:=qD hm;rcases bif_c hm with⟨b26,hm⟩|⟨b26,hm⟩
      ·obtain⟨v27,h28,hm⟩:=qD hm
       exact q_du [qi 3 g16,qc 9 [69,71,72] 6 (HX ((a1.Read.getD x13.toNat dd).P) ((a1.Read.getD v18.toNat dd).P) a2 v24 h25),qf 10 b26,qi 14 g16,qk 20 [74,80,82,83] 6 ⟨[(74,vb true),(80,va [ci (((a1.Read.getD x13.toNat dd).P).X),ci (((a1.Read.getD x13.toNat dd).P).Y)]),(82,va [ci (((a1.Read.getD v21.toNat dd).P).X),ci (((a1.Read.getD v21.toNat dd).P).Y)]),(83,vi a2)],[]⟩ (HX ((a1.Read.getD x13.toNat dd).P) ((a1.Read.getD v21.toNat dd).P) a2 v27 h28)] [0,1,0,7,15,31,0,64,0,511,1023,2047,4095,2047,16383,32767,65535,2047,133119,2047,1048575,2097151] 6 [9,10] [(85,vb v27)] [4,5] [] (q_J (v27) hm)
      ·exact q_du [qi 3 g16,qc 9 [69,71,72] 6 (HX ((a1.Read.getD x13.toNat dd).P) ((a1.Read.getD v18.toNat dd).P) a2 v24 h25),qf 10 b26] [0,1,0,7,15,31,0,64,0,511,1023,2047,4095,2047,16383,32767,65535,2047,133119,2047,1048575,2097151] 6 [9,10] [(85,vb false)] [4,5] [] (q_J (false) hm)
  ·refine q_ex 0 ?_;obtain rfl:=oi hm;exact q_l0
theorem qJU (a1:Ring) (a2:Int) (r:Ring) (hm:DA a1 a2=some r):CtX Tryz.prog globs 96 0 0 [.agg (qN a1),.one (ci a2)] [] (qLD r) (qLv r):=by
 unfold DA at hm;refine q_E f96 92 λE=>?_;refine s_vn [] 0 ⟨[(1,vi a2),(2,vp 0 0),(4,vp 1 0)],[(0,bx 45 (qN a1)),(1,bx 45 [ci 0,.emp])]⟩ ?_;obtain⟨v3,h4,hm⟩:=qD hm;refine s_vv [qc 1 [12] 2 (qDd a1 v3 h4)] 2 [] [(5,vi v3.1)] ?_;obtain⟨v5,h6,hm⟩:=qD hm;refine s_vu [qc 1 [16] 2 (qIN a1 v5 h6)] 2 [] [(7,vp 3 0)] [] [(2,ro 0 73 3 v5.Read.length (rf qG v5.Read)),(3,bx 45 [ci v5.Z,.own 2 0 3 v5.Read.length])] (q_sq ?_);refine q_jn (qGY a1 a2 v5) (λp=>XX a1 a2 v5 p=some r) ?_ ?_
 ·rintro x11 hm;refine q_cq hm (λhm=>?_) (λhm=>?_)
  ·refine s_vu [] 4 [1,2,7,32] [] [0,1,3] [(1,bx 45 [ci v5.Z,.own 2 0 3 v5.Read.length])] ?_;obtain rfl:=oi hm;exact q_sw 2 0 (q_rt q_rm)
  ·refine q_sk (q_sq ?_);refine s_vv [] 4 [32] [(8,vi 0)] ?_;obtain⟨o34,h35,hm⟩:=qD hm;refine qY (nd f96 500) 0 (by kernel_rfl) FUEL (λo=>OM v5 o) o34 (q_hl (BN a1 a2 v5 0 v5.Read v5.Read.length) (qFk E a1 a2 v5 FUEL 0 v5.Read v5.Read.length o34 rfl h35)) (s_vu [] 4 [7] [] [1,3] [(1,bx 45 [ci v5.Z,.own 2 0 3 o34.length])] ?_);obtain rfl:=oi hm;exact q_sw 2 0 (q_rt q_rm)
 ·rcases bif_c hm with⟨b7,hm⟩|⟨b7,hm⟩
  ·exact q_vv [qf 2 b7] 4 [5] [(32,vb true)] (q_J (true) hm)
  ·rcases bif_c hm with⟨b8,hm⟩|⟨b8,hm⟩
   ·exact q_vv [qf 2 b7,qf 10 b8] 4 [5] [(32,vb true)] (q_J (true) hm)
   ·obtain⟨v9,h10,hm⟩:=qD hm;exact q_vv [qf 2 b7,qf 10 b8,qk 12 [28,29] 4 ⟨[(28,vb false),(29,va (qN a1))],[]⟩ (MW a1 v9 h10)] 4 [5] [(32,vb (v9 !=0))] (q_J (v9 !=0) hm)
def qKJ (r:Int):V:=vi r
def qKS (r:Int):List (Nat×(Nat×O)):=[]
def qGD (x5:Int):St:=
 ⟨[(5,vi x5)],[]⟩
theorem qBY (a1:Int) (a2:Int) (r:Int) (hm:RC a1 a2=some r):CtX Tryz.prog globs 152 0 0 [.one (ci a1),.one (ci a2)] [] (qKJ r) (qKS r):=by
 unfold RC at hm;refine q_E f152 17 λE=>?_;refine s_vn [] 0 ⟨[(0,vi a1),(1,vi a2)],[]⟩ ?_;obtain⟨g3,hm⟩:=qH hm;refine s_vv [qd 2 dN (WT g3)] 0 [] [(5,vi (w64 (Int.tdiv a1 a2)))] (q_jn (qGD) (λp=>VQ p=some r) ?_ ?_)
 ·rintro x5 hm;refine s_vn [] 0 ⟨[(4,vi x5)],[]⟩ ?_;obtain rfl:=oi hm;exact q_rt q_rm
 ·refine s_vv [] 0 [0,1] [(13,vb (decide ((w64 ((w64 (Int.tdiv a1 a2))*a2))>a1)))] (q_cq hm (λhm=>?_) (λhm=>?_))
  ·exact q_vn [] 0 ⟨[(5,vi (w64 ((w64 (Int.tdiv a1 a2))-1)))],[]⟩ (q_J (w64 ((w64 (Int.tdiv a1 a2))-1)) hm)
  ·exact q_sk (q_J (w64 (Int.tdiv a1 a2)) hm)
def qB3 (r:(List qA)×Int):V:= .tup [.one (.own 0 0 2 r.1.length),.one (ci r.2)]
def UM (r:(List qA)×Int):List (Nat×(Nat×O)):=[(0,ro 0 71 2 r.1.length (rf qB r.1))]
theorem qJd (r:(List qA)×Int):jO (UM r):=by
 intro i k o h;unfold UM at h;rw[look_cons] at h;split at h
 ·cases h;exact λ_ _=>rfl
 ·cases h
def AZ (a1:Ring) (x13:Int) (l30:List qA) (l30n:Nat):St:=
 ⟨[(2,vp 0 0),(7,vi (a1.Read.length:Int)),(10,vo 1 0 2 l30n),(11,vi x13)],[(0,bx 45 (qN a1)),(1,ro 0 71 2 l30n (rf qB l30))]⟩
def VZ (a1:Ring) (l12:List qA) (l12n:Nat) (x13:Int):St:=
 ⟨[(2,vp 0 0),(7,vi (a1.Read.length:Int)),(10,vo 1 0 2 l12n),(11,vi x13)],[(0,bx 45 (qN a1)),(1,ro 0 71 2 l12n (rf qB l12))]⟩
def IB (l31:List qA):St:=
 ⟨[(10,vo 1 0 2 l31.length)],[(1,ro 0 71 2 l31.length (rf qB l31))]⟩
def qFJ (a1:Ring) (x10:Bool):St:=
 ⟨[(2,vp 0 0),(7,vi (a1.Read.length:Int)),(43,vb x10)],[(0,bx 45 (qN a1))]⟩
theorem qEM (E:Env 0) (a1:Ring):∀(n:Nat) (l12:List qA) (l12n:Nat) (x13:Int) (res:(List qA)),l12.length=l12n->wX a1 n l12 x13=some res->HL (kx E 127 0) (nd f95 2036) (zH 0 IB res) n (VZ a1 l12 l12n x13):=by
 intro n
 induction n with
 |zero=>
  intro l12 l12n x13 res hl0 hm;cases hm
 |succ n ih=>
  intro l12 l12n x13 res hl0 hm;subst hl0;refine qP (q_sq ?_);refine s_va 2 [(46,vb (decide (x13<(a1.Read.length:Int))))] (q_cq hm (λhm=>?_) (λhm=>?_))
  ·refine q_sk (q_jn (ι:=(List qA)×Nat) (λp=>AZ a1 x13 p.1 p.2) (λp=>p.1.length=p.2/\RQ x13 (wX a1 n) p.1=some res) ?_ ?_)
   ·rintro⟨l30,l30n⟩ ⟨el30,hm⟩;replace el30:l30.length=l30n:=el30;subst el30;show H _ (AZ a1 x13 l30 l30.length) _ _;exact q_vv [] 5 [11] [(11,vi (w64 (x13+1)))] (q_hl (VZ a1 l30 l30.length (w64 (x13+1))) (ih l30 l30.length (w64 (x13+1)) _ rfl hm))
   ·refine q_bk 1 (q_sq ?_);obtain⟨g15,hm⟩:=qH hm;refine s_vv [qi 3 g15] 2 [46] [(54,vb ((a1.Read.getD x13.toNat dd).Ok))] (q_cq hm (λhm=>?_) (λhm=>?_))
    ·obtain⟨g17,hm⟩:=qH hm;refine s_vu [qi 4 g15,qd 7 (drw 2 0 (rf qB [(a1.Read.getD x13.toNat dd).P])) (litP qB dd 2 (λ_=>rfl) ([(a1.Read.getD x13.toNat dd).P]:List qA) 1 rfl),qd 8 (drw 1 1 (rf qB (l12++[(a1.Read.getD x13.toNat dd).P]))) (apP qB dd l12 ([(a1.Read.getD x13.toNat dd).P]:List qA) l12.length 1 2 16 (1<=1) (ki _) rfl rfl (λ_=>rfl) (zK g17))] 2 [10,54] [(10,vo 1 1 2 (l12.length+1))] [1] [(1,ro 1 71 2 (l12.length+1) (rf qB (l12++[(a1.Read.getD x13.toNat dd).P])))] (q_ex 1 ?_);exact q_J ((l12++[(a1.Read.getD x13.toNat dd).P]),(l12.length+1)) ⟨(zA rfl rfl),hm⟩
    ·refine q_sk ?_;obtain⟨v18,h19,hm⟩:=qD hm;obtain⟨v20,h21,hm⟩:=qD hm;refine s_du [qk 3 [65,66] 2 ⟨[(65,vc (tl qG dd a1.Read)),(66,vi x13)],[]⟩ (BD a1.Read x13 (-1) v18 h19),qk 7 [69,70] 2 ⟨[(69,vc (tl qG dd a1.Read)),(70,vi x13)],[]⟩ (BD a1.Read x13 1 v20 h21)] [0,1,0,7,0,16,0,127,255,511] 2 [54] [(12,vi v18),(13,vi v20)] [] [] ?_;obtain⟨g22,hm⟩:=qH hm
     refine s_du [qd 6 dN (WT g22),qd 13 dN (WT g22)] [0,0,3,0,15,0,63,0,0,384,0,1920,0,8064,127,32767] 2 [] [(14,vi (Int.tmod (w64 ((w64 (x13-v18))+(a1.Read.length:Int))) (a1.Read.length:Int))),(15,vi (Int.tmod (w64 ((w64 (v20-v18))+(a1.Read.length:Int))) (a1.Read.length:Int)))] [] [] ?_;obtain⟨g23,hm⟩:=qH hm;obtain⟨g24,hm⟩:=qH hm;refine s_du [qi 3 g23,qi 9 g24] [0,1,0,7,15,31,0,64,0,448,960,1984,0,0,12351,32767] 2 [12,13] [(16,vp 2 0),(17,vp 3 0)] [] [(2,bx 71 (qB ((a1.Read.getD v18.toNat dd).P))),(3,bx 71 (qB ((a1.Read.getD v20.toNat dd).P)))] ?_;obtain⟨v25,h26,hm⟩:=qD hm
     obtain⟨v27,h28,hm⟩:=qD hm;obtain⟨g29,hm⟩:=qH hm
     refine q_du [qc 11 [107,108] 4 (qBY (w64 ((w64 ((((a1.Read.getD v20.toNat dd).P).X)-(((a1.Read.getD v18.toNat dd).P).X)))*(Int.tmod (w64 ((w64 (x13-v18))+(a1.Read.length:Int))) (a1.Read.length:Int)))) (Int.tmod (w64 ((w64 (v20-v18))+(a1.Read.length:Int))) (a1.Read.length:Int)) v25 h26),qc 23 [119,120] 4 (qBY (w64 ((w64 ((((a1.Read.getD v20.toNat dd).P).Y)-(((a1.Read.getD v18.toNat dd).P).Y)))*(Int.tmod (w64 ((w64 (x13-v18))+(a1.Read.length:Int))) (a1.Read.length:Int)))) (Int.tmod (w64 ((w64 (v20-v18))+(a1.Read.length:Int))) (a1.Read.length:Int)) v27 h28),qd 26 (drw 4 0 (rf qB [(qA.mk (w64 ((((a1.Read.getD v18.toNat dd).P).X)+v25)) (w64 ((((a1.Read.getD v18.toNat dd).P).Y)+v27)))])) (litP qB dd 2 (λ_=>rfl) ([(qA.mk (w64 ((((a1.Read.getD v18.toNat dd).P).X)+v25)) (w64 ((((a1.Read.getD v18.toNat dd).P).Y)+v27)))]:List qA) 1 rfl),qd 27 (drw 1 1 (rf qB (l12++[(qA.mk (w64 ((((a1.Read.getD v18.toNat dd).P).X)+v25)) (w64 ((((a1.Read.getD v18.toNat dd).P).Y)+v27)))]))) (apP qB dd l12 ([(qA.mk (w64 ((((a1.Read.getD v18.toNat dd).P).X)+v25)) (w64 ((((a1.Read.getD v18.toNat dd).P).Y)+v27)))]:List qA) l12.length 1 2 16 (1<=1) (ki _) rfl rfl (λ_=>rfl) (zK g29))] [0,0,2,0,8,0,32,120,0,504,0,2040,4094,0,8192,0,32768,0,131072,491520,0,2064384,0,8359928,16773112,33554430,67108862,134217727,268435455] 4 [10,14,15,16,17] [(10,vo 1 1 2 (l12.length+1))] [1,2,3] [(1,ro 1 71 2 (l12.length+1) (rf qB (l12++[(qA.mk (w64 ((((a1.Read.getD v18.toNat dd).P).X)+v25)) (w64 ((((a1.Read.getD v18.toNat dd).P).Y)+v27)))])))] ?_
     exact q_J ((l12++[(qA.mk (w64 ((((a1.Read.getD v18.toNat dd).P).X)+v25)) (w64 ((((a1.Read.getD v18.toNat dd).P).Y)+v27)))]),(l12.length+1)) ⟨(zA rfl rfl),hm⟩
  ·refine q_ex 0 ?_;obtain rfl:=oi hm;exact q_l0
theorem qHD (a1:Ring) (a2:Int) (r:(List qA)×Int) (hm:UJ a1 a2=some r):CtX Tryz.prog globs 95 0 0 [.agg (qN a1),.one (ci a2)] [] (qB3 r) (UM r):=by
 unfold UJ at hm;refine q_E f95 127 λE=>?_;refine s_vn [] 0 ⟨[(1,vi a2),(2,vp 0 0)],[(0,bx 45 (qN a1))]⟩ (q_sq ?_);obtain⟨v3,h4,hm⟩:=qD hm;refine s_vv [qc 1 [18] 1 (MW a1 v3 h4)] 1 [] [(6,vi v3)] (s_va 1 [(21,vb (v3 !=0))] ?_);refine q_cq hm (λhm=>?_) (λhm=>?_)
 ·refine s_vn [] 1 ⟨[(4,vc (.emp)),(5,vi v3)],[]⟩ (q_fo 4 1 71 2 qB ?_);refine q_fl 4 1 71 2 qB ?_;obtain rfl:=oi hm;exact q_sw 1 0 (q_rt q_rm)
 ·refine q_sk (s_vv [] 1 [6,21] [(7,vi (a1.Read.length:Int))] ?_);obtain⟨v6,h7,hm⟩:=qD hm;refine s_vv [qc 1 [27] 1 (qDd a1 v6 h7)] 1 [] [(8,vi v6.1),(9,vi v6.2)] (q_sq ?_);refine q_jn (qFJ a1) (λp=>YD a1 p=some r) ?_ ?_
  ·rintro x10 hm;refine q_cq hm (λhm=>?_) (λhm=>?_)
   ·refine s_vn [] 1 ⟨[(4,vc (.emp)),(5,vi 30)],[]⟩ (q_fo 4 1 71 2 qB ?_);refine q_fl 4 1 71 2 qB ?_;obtain rfl:=oi hm;exact q_sw 1 0 (q_rt q_rm)
   ·refine q_sk (s_vv [] 1 [43] [(10,vc (.emp))] ?_);refine q_sq (s_va 1 [(11,vi 0)] ?_);refine q_fo 10 1 71 2 qB ?_;obtain⟨o32,h33,hm⟩:=qD hm;refine qY (nd f95 2036) 0 (by kernel_rfl) FUEL IB o32 (q_hl (VZ a1 ([]:List qA) 0 0) (qEM E a1 FUEL ([]:List qA) 0 0 o32 rfl h33)) (s_vv [] 2 [10] [(4,vo 1 0 2 o32.length),(5,vi 0)] ?_);obtain rfl:=oi hm;exact q_sw 1 0 (q_rt q_rm)
  ·rcases bif_c hm with⟨b8,hm⟩|⟨b8,hm⟩
   ·exact q_vv [qf 4 b8] 1 [1,8,9] [(43,vb true)] (q_J (true) hm)
   ·rcases bif_c hm with⟨b9,hm⟩|⟨b9,hm⟩
    ·exact q_vv [qf 4 b8,qf 7 b9] 1 [1,8,9] [(43,vb (decide (v6.2>a2)))] (q_J (decide (v6.2>a2)) hm)
    ·exact q_vv [qf 4 b8,qf 7 b9] 1 [1,8,9] [(43,vb false)] (q_J (false) hm)
open Go.Proofs Go.Proofs.Tryz
def qJp (r:Bool):V:=vb r
def qJs (r:Bool):List (Nat×(Nat×O)):=[]
def qFh (x5:Bool):St:=
 ⟨[(4,vb x5)],[]⟩
theorem qIv (a1:qA) (a2:qA) (r:Bool) (hm:TO a1 a2=some r):CtX Tryz.prog globs 204 0 0 [.agg (qB a1),.agg (qB a2)] [] (qJp r) (qJs r):=by
 unfold TO at hm;refine q_E f204 24 λE=>?_;refine s_vn [] 0 ⟨[(2,vp 0 0),(3,vp 1 0)],[(0,bx 71 (qB a1)),(1,bx 71 (qB a2))]⟩ (q_jn (qFh) (λp=>YG p=some r) ?_ ?_)
 ·rintro x5 hm;obtain rfl:=oi hm;exact q_rt q_rm
 ·rcases bif_c hm with⟨b3,hm⟩|⟨b3,hm⟩
  ·exact q_vn [qf 5 b3] 2 ⟨[(4,vb true)],[]⟩ (q_J (true) hm)
  ·rcases bif_c hm with⟨b4,hm⟩|⟨b4,hm⟩
   ·exact q_vn [qf 5 b3,qf 11 b4] 2 ⟨[(4,vb (decide (a1.Y<a2.Y)))],[]⟩ (q_J (decide (a1.Y<a2.Y)) hm)
   ·exact q_vn [qf 5 b3,qf 11 b4] 2 ⟨[(4,vb false)],[]⟩ (q_J (false) hm)
def qJG (r:(List qA)):V:=vo 0 0 2 r.length
def qJP (r:(List qA)):List (Nat×(Nat×O)):=[(0,ro 0 71 2 r.length (rf qB r))]
def QH (a1:List qA) (l2:List qA) (x3:Int):St:=
 ⟨[(0,vc (tl qB dd a1)),(3,vo 0 0 2 l2.length),(4,vi x3)],[(0,ro 0 71 2 l2.length (rf qB l2))]⟩
def qFL (a1:List qA) (l2:List qA) (x3:Int) (x5:Int) (x11:Bool):St:=
 (QH a1 l2 x3).up [] [(5,vi x5),(27,vb x11)] [] []
def GH (a1:List qA) (l2:List qA) (x3:Int) (x5:Int):St:=
 (QH a1 l2 x3).up [] [(5,vi x5)] [] []
def IA (a1:List qA) (l2:List qA) (x3:Int) (x13:Int):St:=
 (QH a1 l2 x3).up [] [(5,vi x13)] [] []
def IG (a1:List qA) (x3:Int) (l27:List qA) (l27n:Nat):St:=
 ⟨[(0,vc (tl qB dd a1)),(3,vo 0 0 2 l27n),(4,vi x3)],[(0,ro 0 71 2 l27n (rf qB l27))]⟩
def qFC (a1:List qA) (l2:List qA) (x3:Int) (o14:Int) (x19:Bool):St:=
 (QH a1 l2 x3).up [] [(5,vi o14),(44,vb x19)] [] []
def GD (a1:List qA) (l2:List qA) (l2n:Nat) (x3:Int):St:=
 (QH a1 l2 x3).up [3] [(3,vo 0 0 2 l2n)] [0] [(0,ro 0 71 2 l2n (rf qB l2))]
def IE (l28:List qA):St:=
 ⟨[(3,vo 0 0 2 l28.length)],[(0,ro 0 71 2 l28.length (rf qB l28))]⟩
theorem qDR (E:Env 0) (a1:List qA) (l2:List qA) (x3:Int):∀(n:Nat) (x5:Int) (res:Int),yI a1 l2 x3 n x5=some res->HL (kx E 63 0) (nd f196 14920) (zH 2 (λo=>IA a1 l2 x3 o) res) n (GH a1 l2 x3 x5):=by
 intro n
 induction n with
 |zero=>
  intro x5 res hm;cases hm
 |succ n ih=>
  intro x5 res hm;refine qP (q_sq ?_);refine q_jn (qFL a1 l2 x3 x5) (λp=>RT x5 (yI a1 l2 x3 n) p=some res) ?_ ?_
  ·rintro x11 hm;refine q_cq hm (λhm=>?_) (λhm=>?_)
   ·refine q_sk (q_bk 3 ?_);exact q_vv [] 1 [5,27] [(5,vi (w64 (x5+1)))] (q_hl (GH a1 l2 x3 (w64 (x5+1))) (ih (w64 (x5+1)) _ hm))
   ·refine q_ex 2 ?_;obtain rfl:=oi hm;exact q_l0
  ·rcases bif_c hm with⟨b6,hm⟩|⟨b6,hm⟩
   ·obtain⟨g7,hm⟩:=qH hm;obtain⟨g8,hm⟩:=qH hm;obtain⟨v9,h10,hm⟩:=qD hm;exact q_du [qf 4 b6,qi 7 g7,qd 8 dN (zC (zO g7)),qi 11 g8,qk 13 [17,21,25] 1 ⟨[(17,vb true),(21,va [ci ((l2.getD x5.toNat dd).X),ci ((l2.getD x5.toNat dd).Y)]),(25,va [ci ((a1.getD x3.toNat dd).X),ci ((a1.getD x3.toNat dd).Y)])],[]⟩ (qIv (l2.getD x5.toNat dd) (a1.getD x3.toNat dd) v9 h10)] [0,0,2,7,15,31,31,127,255,31,31,1567,3615,8191,16383] 1 [] [(27,vb v9)] [] [] (q_J (v9) hm)
   ·exact q_du [qf 4 b6] [0,0,2,7,15,31,31,127,255,31,31,1567,3615,8191,16383] 1 [] [(27,vb false)] [] [] (q_J (false) hm)
theorem qD2 (E:Env 0) (a1:List qA):∀(n:Nat) (l2:List qA) (l2n:Nat) (x3:Int) (res:(List qA)),l2.length=l2n->wZ a1 n l2 x3=some res->HL (kx E 63 0) (nd f196 116) (zH 0 IE res) n (GD a1 l2 l2n x3):=by
 intro n
 induction n with
 |zero=>
  intro l2 l2n x3 res hl0 hm;cases hm
 |succ n ih=>
  intro l2 l2n x3 res hl0 hm;subst hl0;refine qP (q_sq ?_);refine s_va 1 [(10,vb (decide (x3<(a1.length:Int))))] (q_cq hm (λhm=>?_) (λhm=>?_))
  ·refine q_sk (q_jn (ι:=(List qA)×Nat) (λp=>IG a1 x3 p.1 p.2) (λp=>p.1.length=p.2/\RU x3 (wZ a1 n) p.1=some res) ?_ ?_)
   ·rintro⟨l27,l27n⟩ ⟨el27,hm⟩;replace el27:l27.length=l27n:=el27;subst el27;show H _ (IG a1 x3 l27 l27.length) _ _;exact q_vv [] 3 [4] [(4,vi (w64 (x3+1)))] (q_hl (GD a1 l27 l27.length (w64 (x3+1))) (ih l27 l27.length (w64 (x3+1)) _ rfl hm))
   ·refine q_bk 1 (s_vv [] 1 [10] [(5,vi 0)] ?_);refine q_sq ?_;obtain⟨o14,h15,hm⟩:=qD hm;refine qY (nd f196 14920) 2 (by kernel_rfl) FUEL (λo=>IA a1 l2 x3 o) o14 (q_hl (GH a1 l2 x3 0) (qDR E a1 l2 x3 FUEL 0 o14 h15)) (q_sq ?_);refine q_jn (qFC a1 l2 x3 o14) (λp=>RZ a1 l2 x3 (wZ a1 n) o14 p=some res) ?_ ?_
    ·rintro x19 hm;refine q_cq hm (λhm=>?_) (λhm=>?_)
     ·exact q_ex 1 (q_J (l2,l2.length) ⟨rfl,hm⟩)
     ·refine q_sk ?_;obtain⟨g21,hm⟩:=qH hm;obtain⟨g22,hm⟩:=qH hm;refine s_vu [qd 0 (drw 1 0 (rf qB [])) (litP qB dd 2 (λ_=>rfl) ([]:List qA) 0 rfl),qd 3 dN (And.intro (qT g21).2.1 (qT g21).2.2),qd 4 (drw 1 1 (rf qB (([]:List qA)++(l2.take o14.toNat)))) (apPt qB dd ([]:List qA) l2 0 o14.toNat l2.length 2 16 (show o14.toNat<=l2.length by have:=(qT g21);omega) rfl rfl (λ_=>rfl) (zK g22))] 1 [44] [(6,vo 1 1 2 (0+o14.toNat))] [] [(1,ro 1 71 2 (0+o14.toNat) (rf qB (([]:List qA)++(l2.take o14.toNat))))] ?_;obtain⟨g23,hm⟩:=qH hm;obtain⟨g24,hm⟩:=qH hm
      refine s_vu [qi 3 g23,qd 5 (drw 2 0 (rf qB [(a1.getD x3.toNat dd)])) (litP qB dd 2 (λ_=>rfl) ([(a1.getD x3.toNat dd)]:List qA) 1 rfl),qd 6 (drw 1 2 (rf qB ((([]:List qA)++(l2.take o14.toNat))++[(a1.getD x3.toNat dd)]))) (apP qB dd (([]:List qA)++(l2.take o14.toNat)) ([(a1.getD x3.toNat dd)]:List qA) (0+o14.toNat) 1 2 16 (1<=1) (ki _) (zA rfl (wV rfl (show o14.toNat<=l2.length by have:=(qT g21);omega))) rfl (λ_=>rfl) (zK g24))] 2 [6] [(6,vo 1 2 2 ((0+o14.toNat)+1))] [1] [(1,ro 2 71 2 ((0+o14.toNat)+1) (rf qB ((([]:List qA)++(l2.take o14.toNat))++[(a1.getD x3.toNat dd)])))] ?_
      obtain⟨g25,hm⟩:=qH hm;obtain⟨g26,hm⟩:=qH hm
      refine q_wu [qd 3 dN (And.intro (qT g25).1 (qT g25).2.1),qd 4 (drw 1 3 (rf qB (((([]:List qA)++(l2.take o14.toNat))++[(a1.getD x3.toNat dd)])++((l2.drop o14.toNat).take (l2.length-o14.toNat))))) (apPd qB dd ((([]:List qA)++(l2.take o14.toNat))++[(a1.getD x3.toNat dd)]) l2 ((0+o14.toNat)+1) o14.toNat (l2.length-o14.toNat) l2.length 2 16 (show o14.toNat+(l2.length-o14.toNat)<=l2.length by have:=(qT g25);omega) (zA (zA rfl (wV rfl (show o14.toNat<=l2.length by have:=(qT g21);omega))) rfl) rfl (λ_=>rfl) (zK g26))] [.swp 1 0] o0 3 [3,5,6] [(3,vo 0 3 2 (((0+o14.toNat)+1)+(l2.length-o14.toNat)))] [0,1] [(0,ro 3 71 2 (((0+o14.toNat)+1)+(l2.length-o14.toNat)) (rf qB (((([]:List qA)++(l2.take o14.toNat))++[(a1.getD x3.toNat dd)])++((l2.drop o14.toNat).take (l2.length-o14.toNat)))))] ?_
      exact q_J ((((([]:List qA)++(l2.take o14.toNat))++[(a1.getD x3.toNat dd)])++((l2.drop o14.toNat).take (l2.length-o14.toNat))),(((0+o14.toNat)+1)+(l2.length-o14.toNat))) ⟨(zA (zA (zA rfl (wV rfl (show o14.toNat<=l2.length by have:=(qT g21);omega))) rfl) (qQ8 rfl (show o14.toNat+(l2.length-o14.toNat)<=l2.length by have:=(qT g25);omega))),hm⟩
    ·rcases bif_c hm with⟨b16,hm⟩|⟨b16,hm⟩
     ·obtain⟨g17,hm⟩:=qH hm;obtain⟨g18,hm⟩:=qH hm;exact q_du [qf 4 b16,qi 7 g17,qd 8 dN (zC (zO g17)),qi 11 g18] [0,0,2,7,15,31,31,127,255,31,31,1567,3615,8191,16383] 1 [] [(44,vb ((((l2.getD o14.toNat dd).X)==((a1.getD x3.toNat dd).X))&&((((l2.getD o14.toNat dd).Y)==((a1.getD x3.toNat dd).Y))&&true)))] [] [] (q_J (((((l2.getD o14.toNat dd).X)==((a1.getD x3.toNat dd).X))&&((((l2.getD o14.toNat dd).Y)==((a1.getD x3.toNat dd).Y))&&true))) hm)
     ·exact q_du [qf 4 b16] [0,0,2,7,15,31,31,127,255,31,31,1567,3615,8191,16383] 1 [] [(44,vb false)] [] [] (q_J (false) hm)
  ·refine q_ex 0 ?_;obtain rfl:=oi hm;exact q_l0
theorem qHk (a1:List qA) (r:(List qA)) (hm:TL a1=some r):CtX Tryz.prog globs 196 0 0 [.one (tl qB dd a1)] [] (qJG r) (qJP r):=by
 unfold TL at hm;refine q_E f196 63 λE=>?_;refine s_vn [] 0 ⟨[(0,vc (tl qB dd a1))],[]⟩ (s_va 0 [(3,vc (.emp))] ?_);refine q_sq (s_va 0 [(4,vi 0)] ?_);refine q_fo 3 0 71 2 qB ?_;obtain⟨o29,h30,hm⟩:=qD hm;refine qY (nd f196 116) 0 (by kernel_rfl) FUEL IE o29 (q_hl (GD a1 ([]:List qA) 0 0) (qD2 E a1 FUEL ([]:List qA) 0 0 o29 rfl h30)) (s_vv [] 1 [3] [(2,vo 0 0 2 o29.length)] ?_);obtain rfl:=oi hm;exact q_rt q_rm
def qLg (r:Int):V:=vi r
def qKK (r:Int):List (Nat×(Nat×O)):=[]
theorem qJE (a1:qA) (a2:qA) (a3:qA) (r:Int) (hm:GU a1 a2 a3=some r):CtX Tryz.prog globs 205 0 0 [.agg (qB a1),.agg (qB a2),.agg (qB a3)] [] (qLg r) (qKK r):=by
 unfold GU at hm;refine q_E f205 30 λE=>?_;refine s_vn [] 0 ⟨[(3,vp 0 0),(4,vp 1 0),(5,vp 2 0)],[(0,bx 71 (qB a1)),(1,bx 71 (qB a2)),(2,bx 71 (qB a3))]⟩ (s_vn [] 3 ⟨[(6,vi (w64 ((w64 ((w64 (a2.X-a1.X))*(w64 (a3.Y-a1.Y))))-(w64 ((w64 (a2.Y-a1.Y))*(w64 (a3.X-a1.X)))))))],[]⟩ ?_);obtain rfl:=oi hm;exact q_rt q_rm
open Go.Proofs Go.Proofs.Tryz
def AO (r:(List qA)):V:=vo 0 0 2 r.length
def PA (r:(List qA)):List (Nat×(Nat×O)):=[(0,ro 0 71 2 r.length (rf qB r))]
theorem qDh (r:(List qA)):jO (PA r):=by
 intro i k o h;unfold PA at h;rw[look_cons] at h;split at h
 ·cases h;exact λ_ _=>rfl
 ·cases h
def qGU (a1:List qA) (x3:Int) (l5:List qA) (x12:Bool):St:=
 ⟨[(0,vc (tl qB dd a1)),(3,vo 0 0 2 l5.length),(4,vi x3),(33,vb x12)],[(0,ro 0 71 2 l5.length (rf qB l5))]⟩
def BM (a1:List qA) (x3:Int) (l5:List qA) (l5n:Nat):St:=
 ⟨[(0,vc (tl qB dd a1)),(3,vo 0 0 2 l5n),(4,vi x3)],[(0,ro 0 71 2 l5n (rf qB l5))]⟩
def OS (a1:List qA) (x3:Int) (l15:List qA):St:=
 ⟨[(0,vc (tl qB dd a1)),(3,vo 0 0 2 l15.length),(4,vi x3)],[(0,ro 0 71 2 l15.length (rf qB l15))]⟩
def BW (a1:List qA) (l2:List qA) (l2n:Nat) (x3:Int):St:=
 ⟨[(0,vc (tl qB dd a1)),(3,vo 0 0 2 l2n),(4,vi x3)],[(0,ro 0 71 2 l2n (rf qB l2))]⟩
def OO (l20:List qA):St:=
 ⟨[(3,vo 0 0 2 l20.length)],[(0,ro 0 71 2 l20.length (rf qB l20))]⟩
theorem qFb (E:Env 0) (a1:List qA) (x3:Int):∀(n:Nat) (l5:List qA) (l5n:Nat) (res:(List qA)),l5.length=l5n->QM a1 x3 n l5=some res->HL (kx E 47 0) (nd f197 7456) (zH 2 (λo=>OS a1 x3 o) res) n (BM a1 x3 l5 l5n):=by
 intro n
 induction n with
 |zero=>
  intro l5 l5n res hl0 hm;cases hm
 |succ n ih=>
  intro l5 l5n res hl0 hm;subst hl0;refine qP (q_sq ?_);refine q_jn (qGU a1 x3 l5) (λp=>VC l5 (QM a1 x3 n) p=some res) ?_ ?_
  ·rintro x12 hm;refine q_cq hm (λhm=>?_) (λhm=>?_)
   ·refine q_sk (q_bk 3 ?_);obtain⟨g14,hm⟩:=qH hm
    exact q_wu [qd 4 dN (And.intro (qT g14).2.1 (qT g14).2.2)] [.row 0 ((w64 ((l5.length:Int)-1)).toNat) (rf qB (l5.take ((w64 ((l5.length:Int)-1)).toNat)))] (o1 (tkP qB dd l5 l5.length ((w64 ((l5.length:Int)-1)).toNat) (show(w64 ((l5.length:Int)-1)).toNat<=l5.length by have:=(qT g14);omega))) 1 [3,33] [(3,vo 0 0 2 ((w64 ((l5.length:Int)-1)).toNat))] [0] [(0,ro 0 71 2 ((w64 ((l5.length:Int)-1)).toNat) (rf qB (l5.take ((w64 ((l5.length:Int)-1)).toNat))))] (q_hl (BM a1 x3 (l5.take ((w64 ((l5.length:Int)-1)).toNat)) ((w64 ((l5.length:Int)-1)).toNat)) (ih (l5.take ((w64 ((l5.length:Int)-1)).toNat)) ((w64 ((l5.length:Int)-1)).toNat) _ (wV rfl (show(w64 ((l5.length:Int)-1)).toNat<=l5.length by have:=(qT g14);omega)) hm))
   ·refine q_ex 2 ?_;obtain rfl:=oi hm;exact q_l0
  ·rcases bif_c hm with⟨b6,hm⟩|⟨b6,hm⟩
   ·obtain⟨g7,hm⟩:=qH hm;obtain⟨g8,hm⟩:=qH hm;obtain⟨g9,hm⟩:=qH hm;obtain⟨v10,h11,hm⟩:=qD hm
    exact q_du [qf 3 b6,qi 8 g7,qd 9 dN (zC (zO g7)),qi 14 g8,qd 15 dN (zC (zO g8)),qi 18 g9,qk 20 [14,20,26,30] 1 ⟨[(14,vb true),(20,va [ci ((l5.getD ((w64 ((l5.length:Int)-2)).toNat) dd).X),ci ((l5.getD ((w64 ((l5.length:Int)-2)).toNat) dd).Y)]),(26,va [ci ((l5.getD ((w64 ((l5.length:Int)-1)).toNat) dd).X),ci ((l5.getD ((w64 ((l5.length:Int)-1)).toNat) dd).Y)]),(30,va [ci ((a1.getD x3.toNat dd).X),ci ((a1.getD x3.toNat dd).Y)])],[]⟩ (qJE (l5.getD ((w64 ((l5.length:Int)-2)).toNat) dd) (l5.getD ((w64 ((l5.length:Int)-1)).toNat) dd) (a1.getD x3.toNat dd) v10 h11)] [0,1,3,7,15,15,47,111,255,511,15,15,2063,6159,15375,31759,15,15,196623,458767,1048575,2097151,4194303] 1 [] [(33,vb (decide (v10<=0)))] [] [] (q_J (decide (v10<=0)) hm)
   ·exact q_du [qf 3 b6] [0,1,3,7,15,15,47,111,255,511,15,15,2063,6159,15375,31759,15,15,196623,458767,1048575,2097151,4194303] 1 [] [(33,vb false)] [] [] (q_J (false) hm)
theorem qFG (E:Env 0) (a1:List qA):∀(n:Nat) (l2:List qA) (l2n:Nat) (x3:Int) (res:(List qA)),l2.length=l2n->XT a1 n l2 x3=some res->HL (kx E 47 0) (nd f197 116) (zH 0 OO res) n (BW a1 l2 l2n x3):=by
 intro n
 induction n with
 |zero=>
  intro l2 l2n x3 res hl0 hm;cases hm
 |succ n ih=>
  intro l2 l2n x3 res hl0 hm;subst hl0;refine qP (q_sq ?_);refine s_va 1 [(8,vb (decide (x3<(a1.length:Int))))] (q_cq hm (λhm=>?_) (λhm=>?_))
  ·refine q_sk (q_sq ?_);refine q_bk 1 (q_sq ?_);obtain⟨o16,h17,hm⟩:=qD hm;refine qY (nd f197 7456) 2 (by kernel_rfl) FUEL (λo=>OS a1 x3 o) o16 (q_hl (BM a1 x3 l2 l2.length) (qFb E a1 x3 FUEL l2 l2.length o16 rfl h17)) ?_;obtain⟨g18,hm⟩:=qH hm;obtain⟨g19,hm⟩:=qH hm
   refine q_vu [qi 3 g18,qd 5 (drw 1 0 (rf qB [(a1.getD x3.toNat dd)])) (litP qB dd 2 (λ_=>rfl) ([(a1.getD x3.toNat dd)]:List qA) 1 rfl),qd 6 (drw 0 1 (rf qB (o16++[(a1.getD x3.toNat dd)]))) (apP qB dd o16 ([(a1.getD x3.toNat dd)]:List qA) o16.length 1 2 16 (1<=1) (ki _) rfl rfl (λ_=>rfl) (zK g19))] 1 [3] [(3,vo 0 1 2 (o16.length+1))] [0] [(0,ro 1 71 2 (o16.length+1) (rf qB (o16++[(a1.getD x3.toNat dd)])))] (q_vv [] 2 [4] [(4,vi (w64 (x3+1)))] ?_)
   exact q_hl (BW a1 (o16++[(a1.getD x3.toNat dd)]) (o16.length+1) (w64 (x3+1))) (ih (o16++[(a1.getD x3.toNat dd)]) (o16.length+1) (w64 (x3+1)) _ (zA rfl rfl) hm)
  ·refine q_ex 0 ?_;obtain rfl:=oi hm;exact q_l0
theorem qBT (a1:List qA) (r:(List qA)) (hm:PT a1=some r):CtX Tryz.prog globs 197 0 0 [.one (tl qB dd a1)] [] (AO r) (PA r):=by
 unfold PT at hm;refine q_E f197 47 λE=>?_;refine s_vn [] 0 ⟨[(0,vc (tl qB dd a1))],[]⟩ (s_va 0 [(3,vc (.emp))] ?_);refine q_sq (s_va 0 [(4,vi 0)] ?_);refine q_fo 3 0 71 2 qB ?_;obtain⟨o21,h22,hm⟩:=qD hm;refine qY (nd f197 116) 0 (by kernel_rfl) FUEL OO o21 (q_hl (BW a1 ([]:List qA) 0 0) (qFG E a1 FUEL ([]:List qA) 0 0 o21 rfl h22)) (s_vv [] 1 [3] [(2,vo 0 0 2 o21.length)] ?_);obtain rfl:=oi hm;exact q_rt q_rm
end Saw
end Go.SL

import Derived.Test.YtigmogcdifllhaaGreatDoorEBase
import Derived.Test.YtigmogcdifllhaaGreatDoorEFa4
import Derived.Test.YtigmogcdifllhaaGreatDoorEFa1
import Derived.Test.YtigmogcdifllhaaGreatDoorEFa3
set_option linter.unusedVariables false
set_option linter.unusedSimpArgs false
namespace Go.SL
namespace Saw
open Go.Proofs Go.Proofs.Tryz
set_option maxHeartbeats 4000000
set_option maxRecDepth 100000
def qB9 (r:Bool):V:=vb r
def qCj (r:Bool):List (Nat×(Nat×O)):=[]
def qL5 (a1:Rect) (x2:Int) (x7:Bool):St:=
 ⟨[(9,va (qR a1)),(10,vi x2),(27,vb x7)],[]⟩
def AL (a1:Rect) (x2:Int):St:=
 ⟨[(9,va (qR a1)),(10,vi x2)],[]⟩
def qEi :St:=
 ⟨[],[]⟩
theorem qLA (E:Env 0) (a1:Rect):∀(n:Nat) (x2:Int) (res:Bool⊕Unit),yZ a1 n x2=some res->HL (kx E 29 0) (nd f278 52) (wY 0 (λo=>qEi) (λv st=>RetQ Tryz.prog f278 (qB9 v) (qCj v) .ret st) res) n (AL a1 x2):=by
 intro n
 induction n with
 |zero=>
  intro x2 res hm;cases hm
 |succ n ih=>
  intro x2 res hm;refine qU (s_va 1 [(11,vb (decide (x2<2)))] ?_);refine q_sq (q_cq hm (λhm=>?_) (λhm=>?_))
  ·refine q_sk (q_sq ?_);refine q_bk 1 ?_;obtain⟨g4,hm⟩:=qJ hm;refine s_vu [qi 0 g4] 1 [11] [(4,vp 1 0)] [] [(1,bx 53 [ci (([a1.X.A,a1.X.B,a1.Y.A,a1.Y.B]:List Int).getD (x2.toNat*2+0) 0),ci (([a1.X.A,a1.X.B,a1.Y.A,a1.Y.B]:List Int).getD (x2.toNat*2+1) 0)])] (q_jn (qL5 a1 x2) (λp=>VH x2 (yZ a1 n) p=some res) ?_ ?_)
   ·rintro x7 hm;refine q_cq hm (λhm=>?_) (λhm=>?_)
    ·refine s_vn [] 2 ⟨[(2,vb false)],[]⟩ ?_;obtain rfl:=oi hm;refine q_rt (zQ false ?_);exact q_rm
    ·refine q_sk (q_vv [] 2 [10,27] [(10,vi (w64 (x2+1)))] ?_);exact q_hl (AL a1 (w64 (x2+1))) (ih (w64 (x2+1)) _ hm)
   ·rcases bif_c hm with⟨b5,hm⟩|⟨b5,hm⟩
    ·exact q_vu [qf 3 b5] 2 [4] [(27,vb true)] [1] [] (q_J (true) hm)
    ·rcases bif_c hm with⟨b6,hm⟩|⟨b6,hm⟩
     ·exact q_vu [qf 3 b5,qf 8 b6] 2 [4] [(27,vb true)] [1] [] (q_J (true) hm)
     ·exact q_vu [qf 3 b5,qf 8 b6] 2 [4] [(27,vb (decide ((([a1.X.A,a1.X.B,a1.Y.A,a1.Y.B]:List Int).getD (x2.toNat*2+0) 0)≥(([a1.X.A,a1.X.B,a1.Y.A,a1.Y.B]:List Int).getD (x2.toNat*2+1) 0))))] [1] [] (q_J (decide ((([a1.X.A,a1.X.B,a1.Y.A,a1.Y.B]:List Int).getD (x2.toNat*2+0) 0)≥(([a1.X.A,a1.X.B,a1.Y.A,a1.Y.B]:List Int).getD (x2.toNat*2+1) 0))) hm)
  ·refine q_ex 0 ?_;obtain rfl:=oi hm;exact q_l1 ()
theorem qOZ (a1:Rect) (r:Bool) (hm:HZ a1=some r):CtX Tryz.prog globs 278 0 0 [.agg (qR a1)] [] (qB9 r) (qCj r):=by
 unfold HZ at hm;refine q_E f278 29 λE=>?_;refine s_vn [] 0 ⟨[(1,vp 0 0)],[(0,bx 55 (qR a1))]⟩ (q_sq ?_);refine s_vn [] 1 ⟨[(9,va (qR a1)),(10,vi 0)],[]⟩ ?_;obtain⟨u11,h10,hm⟩:=qC hm;refine zY (nd f278 52) 0 (by kernel_rfl) FUEL (λo=>qEi) (λv st=>RetQ Tryz.prog f278 (qB9 v) (qCj v) .ret st) u11 (q_hl (AL a1 0) (qLA E a1 FUEL 0 u11 h10)) ?_ ?_
 ·rintro v12 rfl st hr;obtain rfl:=oi hm;exact hr
 ·rintro o9 rfl;replace hm:_=some r:=hm;refine s_vn [] 1 ⟨[(2,vb true)],[]⟩ ?_;obtain rfl:=oi hm;exact q_rt q_rm
def qVb (r:zG×Bool):V:= .tup [.agg [cs r.1.product.Name,ci r.1.product.Thick,ci r.1.product.Width,ci r.1.product.Allow,ci r.1.product.Wane,tl qE du r.1.product.Lengths,tl qE du r.1.product.Prices,ci r.1.rect.X.A,ci r.1.rect.X.B,ci r.1.rect.Y.A,ci r.1.rect.Y.B,ci r.1.length,.own 0 0 3 r.1.zones.length,.own 1 0 7 r.1.defects.length],.one (cb r.2)]
def qU1 (r:zG×Bool):List (Nat×(Nat×O)):=[(0,ro 0 305 3 r.1.zones.length (rf zJ r.1.zones)),(1,ro 0 87 7 r.1.defects.length (rf qN r.1.defects))]
def AR (v25:(List qY)):St:=
 ⟨[(8,vp 2 0),(13,vp 6 0)],[(2,bx 282 [cs (ByteArray.mk #[]),ci 0,ci 0,ci 0,ci 0,.emp,.emp,ci 0,ci 0,ci 0,ci 0,ci 0,.emp,.emp]),(5,ro 0 305 3 v25.length (rf zJ v25))]⟩
def qD7 (a1:List qO) (a2:List qH) (a3:qD) (a4:Rect):St:=
 ⟨[(0,vc (tl qS du a1)),(1,vc (tl qN du a2)),(6,vp 0 0),(7,vp 1 0),(8,vp 2 0)],[(0,bx 74 (qM a3)),(1,bx 55 (qR a4)),(2,bx 282 [cs (ByteArray.mk #[]),ci 0,ci 0,ci 0,ci 0,.emp,.emp,ci 0,ci 0,ci 0,ci 0,ci 0,.emp,.emp])]⟩
def qGJ (a2:List qH) (a3:qD) (a4:Rect) (v23:Int) (v25:(List qY)) (v27:Box) (x29:Int) (l37:List qH) (l37n:Nat):St:=
 (AR v25).up [] [(14,vp 7 0),(83,vc (tl qN du a2)),(84,vi (a2.length:Int)),(85,vi x29)] [] [(6,bx 282 [cs a3.Name,ci a3.Thick,ci a3.Width,ci a3.Allow,ci a3.Wane,tl qE du a3.Lengths,tl qE du a3.Prices,ci a4.X.A,ci a4.X.B,ci a4.Y.A,ci a4.Y.B,ci v23,.own 5 0 3 v25.length,.own 8 0 7 l37n]),(7,bx 85 (JW v27)),(8,ro 0 87 7 l37n (rf qN l37))]
def qA2 (a2:List qH) (a3:qD) (a4:Rect) (v23:Int) (v25:(List qY)) (v27:Box) (x29:Int) (l30:List qH) (l30n:Nat):St:=
 (AR v25).up [] [(14,vp 7 0),(83,vc (tl qN du a2)),(84,vi (a2.length:Int)),(85,vi x29)] [] [(6,bx 282 [cs a3.Name,ci a3.Thick,ci a3.Width,ci a3.Allow,ci a3.Wane,tl qE du a3.Lengths,tl qE du a3.Prices,ci a4.X.A,ci a4.X.B,ci a4.Y.A,ci a4.Y.B,ci v23,.own 5 0 3 v25.length,.own 8 0 7 l30n]),(7,bx 85 (JW v27)),(8,ro 0 87 7 l30n (rf qN l30))]
def qF4 (a3:qD) (a4:Rect) (v23:Int) (v25:(List qY)) (l38:List qH):St:=
 (AR v25).up [] [] [] [(6,bx 282 [cs a3.Name,ci a3.Thick,ci a3.Width,ci a3.Allow,ci a3.Wane,tl qE du a3.Lengths,tl qE du a3.Prices,ci a4.X.A,ci a4.X.B,ci a4.Y.A,ci a4.Y.B,ci v23,.own 5 0 3 v25.length,.own 8 0 7 l38.length]),(8,ro 0 87 7 l38.length (rf qN l38))]
def qPt (a1:List qO) (a2:List qH) (a3:qD) (a4:Rect) (x21:Bool):St:=
 (qD7 a1 a2 a3 a4).up [] [(68,vb x21)] [] []
def qPb (a1:List qO) (a2:List qH) (a3:qD) (a4:Rect) (x16:Bool):St:=
 (qD7 a1 a2 a3 a4).up [] [(35,vb x16)] [] []
theorem qNN (E:Env 0) (a2:List qH) (a3:qD) (a4:Rect) (v23:Int) (v25:(List qY)) (v27:Box):∀(n:Nat) (x29:Int) (l30:List qH) (l30n:Nat) (res:(List qH)),l30.length=l30n->JN a2 v27 n x29 l30=some res->HL (kx E 100 0) (nd f263 4084) (zN 0 (λo=>qF4 a3 a4 v23 v25 o) res) n (qA2 a2 a3 a4 v23 v25 v27 x29 l30 l30n):=by
 intro n
 induction n with
 |zero=>
  intro x29 l30 l30n res hl0 hm;cases hm
 |succ n ih=>
  intro x29 l30 l30n res hl0 hm;subst hl0;refine qU (s_va 9 [(86,vb (decide (x29<(a2.length:Int))))] ?_);refine q_sq (q_cq hm (λhm=>?_) (λhm=>?_))
  ·refine q_sk (q_jn (ι:=(List qH)×Nat) (λp=>qGJ a2 a3 a4 v23 v25 v27 x29 p.1 p.2) (λp=>p.1.length=p.2/\qDI x29 (JN a2 v27 n) p.1=some res) ?_ ?_)
   ·rintro⟨l37,l37n⟩ ⟨el37,hm⟩;replace el37:l37.length=l37n:=el37;subst el37;show H _ (qGJ a2 a3 a4 v23 v25 v27 x29 l37 l37.length) _ _;exact q_vv [] 11 [85] [(85,vi (w64 (x29+1)))] (q_hl (qA2 a2 a3 a4 v23 v25 v27 (w64 (x29+1)) l37 l37.length) (ih (w64 (x29+1)) l37 l37.length _ rfl hm))
   ·refine q_bk 1 ?_;obtain⟨g32,hm⟩:=qJ hm;refine s_vu [qi 0 g32] 9 [86] [(16,vp 9 0)] [] [(9,bx 87 (qN (a2.getD x29.toNat du)))] ?_;obtain⟨v33,h34,hm⟩:=qC hm;refine s_vv [qc 2 [89,90] 10 (qDT (a2.getD x29.toNat du) v27 v33 h34)] 10 [] [(91,vb v33)] (q_cq hm (λhm=>?_) (λhm=>?_))
    ·obtain⟨g36,hm⟩:=qJ hm
     exact q_vu [qd 3 (drw 10 0 (rf qN [(a2.getD x29.toNat du)])) (litP qN du 7 (λ_=>rfl) ([(a2.getD x29.toNat du)]:List qH) 1 rfl),qd 4 (drw 8 1 (rf qN (l30++[(a2.getD x29.toNat du)]))) (apP qN du l30 ([(a2.getD x29.toNat du)]:List qH) l30.length 1 7 56 (1<=1) (ke _) rfl rfl (λ_=>rfl) (wB g36))] 10 [16,91] [] [6,8,9] [(6,bx 282 [cs a3.Name,ci a3.Thick,ci a3.Width,ci a3.Allow,ci a3.Wane,tl qE du a3.Lengths,tl qE du a3.Prices,ci a4.X.A,ci a4.X.B,ci a4.Y.A,ci a4.Y.B,ci v23,.own 5 0 3 v25.length,.own 8 1 7 (l30.length+1)]),(8,ro 1 87 7 (l30.length+1) (rf qN (l30++[(a2.getD x29.toNat du)])))] (q_J ((l30++[(a2.getD x29.toNat du)]),(l30.length+1)) ⟨(wC rfl rfl),hm⟩)
    ·exact q_sk (q_J (l30,l30.length) ⟨rfl,hm⟩)
  ·refine q_ex 0 ?_;obtain rfl:=oi hm;exact q_l0
theorem qTk (a1:List qO) (a2:List qH) (a3:qD) (a4:Rect) (r:zG×Bool) (hm:qAj a1 a2 a3 a4=some r):CtX Tryz.prog globs 263 0 0 [.one (tl qS du a1),.one (tl qN du a2),.agg (qM a3),.agg (qR a4)] [] (qVb r) (qU1 r):=by
 unfold qAj at hm;refine q_E f263 100 λE=>?_;refine s_vn [] 0 ⟨[(0,vc (tl qS du a1)),(1,vc (tl qN du a2)),(6,vp 0 0),(7,vp 1 0),(8,vp 2 0)],[(0,bx 74 (qM a3)),(1,bx 55 (qR a4)),(2,bx 282 [cs (ByteArray.mk #[]),ci 0,ci 0,ci 0,ci 0,.emp,.emp,ci 0,ci 0,ci 0,ci 0,ci 0,.emp,.emp])]⟩ (q_sq ?_);refine q_jn (qPb a1 a2 a3 a4) (λp=>UE a1 a2 a3 a4 p=some r) ?_ ?_
 ·rintro x16 hm;refine q_cq hm (λhm=>?_) (λhm=>?_)
  ·refine s_vu [] 4 [0,1,6,7,35] [(9,vb false)] [0,1] [] (q_fu [.ownB 2 5 4 3 1 (rf qE [])] [] [] [2] [(2,bx 282 [cs (ByteArray.mk #[]),ci 0,ci 0,ci 0,ci 0,.own 4 0 1 0,.emp,ci 0,ci 0,ci 0,ci 0,ci 0,.emp,.emp]),(4,ro 0 3 1 0 (rf qE []))] o0 ?_)
   refine q_fu [.ownB 2 6 5 3 1 (rf qE [])] [] [] [2] [(2,bx 282 [cs (ByteArray.mk #[]),ci 0,ci 0,ci 0,ci 0,.own 4 0 1 0,.own 5 0 1 0,ci 0,ci 0,ci 0,ci 0,ci 0,.emp,.emp]),(5,ro 0 3 1 0 (rf qE []))] o0 (q_fu [.ownB 2 12 6 305 3 (rf zJ [])] [] [] [2] [(2,bx 282 [cs (ByteArray.mk #[]),ci 0,ci 0,ci 0,ci 0,.own 4 0 1 0,.own 5 0 1 0,ci 0,ci 0,ci 0,ci 0,ci 0,.own 6 0 3 0,.emp]),(6,ro 0 305 3 0 (rf zJ []))] o0 ?_)
   refine q_fu [.ownB 2 13 7 87 7 (rf qN [])] [] [] [2] [(2,bx 282 [cs (ByteArray.mk #[]),ci 0,ci 0,ci 0,ci 0,.own 4 0 1 0,.own 5 0 1 0,ci 0,ci 0,ci 0,ci 0,ci 0,.own 6 0 3 0,.own 7 0 7 0]),(7,ro 0 87 7 0 (rf qN []))] o0 (q_fu [.len 4 (([]:List Int).length),.frz 4] [] [] [2,4] [(2,bx 282 [cs (ByteArray.mk #[]),ci 0,ci 0,ci 0,ci 0,tl qE du ([]:List Int),.own 5 0 1 0,ci 0,ci 0,ci 0,ci 0,ci 0,.own 6 0 3 0,.own 7 0 7 0])] (o1 (And.intro (And.intro (show 0=([]:List Int).length from rfl) (show 0=([]:List Int).length from rfl)) (ke (([]:List Int).length)))) ?_)
   refine q_fu [.len 5 (([]:List Int).length),.frz 5] [] [] [2,5] [(2,bx 282 [cs (ByteArray.mk #[]),ci 0,ci 0,ci 0,ci 0,tl qE du ([]:List Int),tl qE du ([]:List Int),ci 0,ci 0,ci 0,ci 0,ci 0,.own 6 0 3 0,.own 7 0 7 0])] (o1 (And.intro (And.intro (show 0=([]:List Int).length from rfl) (show 0=([]:List Int).length from rfl)) (ke (([]:List Int).length)))) (q_fu [.len 6 (([]:List qY).length)] [] [] [2,6] [(2,bx 282 [cs (ByteArray.mk #[]),ci 0,ci 0,ci 0,ci 0,tl qE du ([]:List Int),tl qE du ([]:List Int),ci 0,ci 0,ci 0,ci 0,ci 0,.own 6 0 3 (([]:List qY).length),.own 7 0 7 0]),(6,ro 0 305 3 (([]:List qY).length) (rf zJ []))] (o1 (And.intro (show 0=([]:List qY).length from rfl) (show 0=([]:List qY).length from rfl))) ?_)
   refine q_fu [.len 7 (([]:List qH).length)] [] [] [2,7] [(2,bx 282 [cs (ByteArray.mk #[]),ci 0,ci 0,ci 0,ci 0,tl qE du ([]:List Int),tl qE du ([]:List Int),ci 0,ci 0,ci 0,ci 0,ci 0,.own 6 0 3 (([]:List qY).length),.own 7 0 7 (([]:List qH).length)]),(7,ro 0 87 7 (([]:List qH).length) (rf qN []))] (o1 (And.intro (show 0=([]:List qH).length from rfl) (show 0=([]:List qH).length from rfl))) ?_;obtain rfl:=oi hm;refine q_sw 6 0 (q_sw 7 1 ?_);exact q_rt q_rm
  ·refine q_sk ?_;obtain⟨v18,h19,hm⟩:=qC hm;refine s_vv [qc 1 [38] 4 (RS a3 v18 h19)] 4 [35] [(10,vi v18.1),(11,vi v18.2)] (s_vu [] 4 [] [(12,vp 4 0)] [] [(4,bx 213 [ci (w64 (a4.X.B-a4.X.A)),ci (w64 (a4.Y.B-a4.Y.A))])] ?_);refine q_sq (q_jn (qPt a1 a2 a3 a4) (λp=>FC a1 a2 a3 a4 p=some r) ?_ ?_)
   ·rintro x21 hm;refine q_cq hm (λhm=>?_) (λhm=>?_)
    ·refine s_vu [] 5 [0,1,6,7,68] [(9,vb false)] [0,1] [] (q_fu [.ownB 2 5 5 3 1 (rf qE [])] [] [] [2] [(2,bx 282 [cs (ByteArray.mk #[]),ci 0,ci 0,ci 0,ci 0,.own 5 0 1 0,.emp,ci 0,ci 0,ci 0,ci 0,ci 0,.emp,.emp]),(5,ro 0 3 1 0 (rf qE []))] o0 ?_)
     refine q_fu [.ownB 2 6 6 3 1 (rf qE [])] [] [] [2] [(2,bx 282 [cs (ByteArray.mk #[]),ci 0,ci 0,ci 0,ci 0,.own 5 0 1 0,.own 6 0 1 0,ci 0,ci 0,ci 0,ci 0,ci 0,.emp,.emp]),(6,ro 0 3 1 0 (rf qE []))] o0 (q_fu [.ownB 2 12 7 305 3 (rf zJ [])] [] [] [2] [(2,bx 282 [cs (ByteArray.mk #[]),ci 0,ci 0,ci 0,ci 0,.own 5 0 1 0,.own 6 0 1 0,ci 0,ci 0,ci 0,ci 0,ci 0,.own 7 0 3 0,.emp]),(7,ro 0 305 3 0 (rf zJ []))] o0 ?_)
     refine q_fu [.ownB 2 13 8 87 7 (rf qN [])] [] [] [2] [(2,bx 282 [cs (ByteArray.mk #[]),ci 0,ci 0,ci 0,ci 0,.own 5 0 1 0,.own 6 0 1 0,ci 0,ci 0,ci 0,ci 0,ci 0,.own 7 0 3 0,.own 8 0 7 0]),(8,ro 0 87 7 0 (rf qN []))] o0 (q_fu [.len 5 (([]:List Int).length),.frz 5] [] [] [2,5] [(2,bx 282 [cs (ByteArray.mk #[]),ci 0,ci 0,ci 0,ci 0,tl qE du ([]:List Int),.own 6 0 1 0,ci 0,ci 0,ci 0,ci 0,ci 0,.own 7 0 3 0,.own 8 0 7 0])] (o1 (And.intro (And.intro (show 0=([]:List Int).length from rfl) (show 0=([]:List Int).length from rfl)) (ke (([]:List Int).length)))) ?_)
     refine q_fu [.len 6 (([]:List Int).length),.frz 6] [] [] [2,6] [(2,bx 282 [cs (ByteArray.mk #[]),ci 0,ci 0,ci 0,ci 0,tl qE du ([]:List Int),tl qE du ([]:List Int),ci 0,ci 0,ci 0,ci 0,ci 0,.own 7 0 3 0,.own 8 0 7 0])] (o1 (And.intro (And.intro (show 0=([]:List Int).length from rfl) (show 0=([]:List Int).length from rfl)) (ke (([]:List Int).length)))) (q_fu [.len 7 (([]:List qY).length)] [] [] [2,7] [(2,bx 282 [cs (ByteArray.mk #[]),ci 0,ci 0,ci 0,ci 0,tl qE du ([]:List Int),tl qE du ([]:List Int),ci 0,ci 0,ci 0,ci 0,ci 0,.own 7 0 3 (([]:List qY).length),.own 8 0 7 0]),(7,ro 0 305 3 (([]:List qY).length) (rf zJ []))] (o1 (And.intro (show 0=([]:List qY).length from rfl) (show 0=([]:List qY).length from rfl))) ?_)
     refine q_fu [.len 8 (([]:List qH).length)] [] [] [2,8] [(2,bx 282 [cs (ByteArray.mk #[]),ci 0,ci 0,ci 0,ci 0,tl qE du ([]:List Int),tl qE du ([]:List Int),ci 0,ci 0,ci 0,ci 0,ci 0,.own 7 0 3 (([]:List qY).length),.own 8 0 7 (([]:List qH).length)]),(8,ro 0 87 7 (([]:List qH).length) (rf qN []))] (o1 (And.intro (show 0=([]:List qH).length from rfl) (show 0=([]:List qH).length from rfl))) ?_;obtain rfl:=oi hm;refine q_sw 7 0 (q_sw 8 1 ?_);exact q_rt q_rm
    ·refine q_sk ?_;obtain⟨v23,h24,hm⟩:=qC hm;obtain⟨v25,h26,hm⟩:=qC hm;refine s_du [qc 3 [72] 5 (LZ a1 v23 h24),qc 6 [74,75] 5 (qQ7 a1 a4 v25 h26)] [0,0,0,4,0,0,60,127,0,511] 5 [0,6,7,68] [(13,vp 6 0)] [0,1] [(5,ro 0 305 3 v25.length (rf zJ v25)),(6,bx 282 [cs a3.Name,ci a3.Thick,ci a3.Width,ci a3.Allow,ci a3.Wane,tl qE du a3.Lengths,tl qE du a3.Prices,ci a4.X.A,ci a4.X.B,ci a4.Y.A,ci a4.Y.B,ci v23,.own 5 0 3 v25.length,.emp])] ?_;obtain⟨v27,h28,hm⟩:=qC hm
     refine s_vu [qd 4 (dex (cen [] [] 7 0 (qE4 v27) (NP v27) [78,81] [5])) (wO (K:=(kx E 100 0)) (b:=false) ⟨[(78,va [cs a3.Name,ci a3.Thick,ci a3.Width,ci a3.Allow,ci a3.Wane,tl qE du a3.Lengths,tl qE du a3.Prices,ci a4.X.A,ci a4.X.B,ci a4.Y.A,ci a4.Y.B,ci v23,.own 5 0 3 v25.length,.emp]),(81,va [ci 0,ci v23])],[(5,ro 0 305 3 v25.length (rf zJ v25))]⟩ (opAt (rg f263 254) 4) [] [] 7 (o1 (ke v25.length)) rfl (CtX.emp (xs':=[.agg [cs a3.Name,ci a3.Thick,ci a3.Width,ci a3.Allow,ci a3.Wane,tl qE du a3.Lengths,tl qE du a3.Prices,ci a4.X.A,ci a4.X.B,ci a4.Y.A,ci a4.Y.B,ci v23,tl zJ du v25,.emp],.agg [ci 0,ci v23]]) (qD0 (zG.mk a3 a4 v23 v25 ([]:List qH)) (Span.mk 0 v23) v27 h28) (And.intro (And.intro rfl (And.intro rfl (And.intro rfl (And.intro rfl (And.intro rfl (And.intro rfl (And.intro rfl (And.intro rfl (And.intro rfl (And.intro rfl (And.intro rfl (And.intro rfl (And.intro rfl (And.intro rfl trivial)))))))))))))) (And.intro (And.intro rfl (And.intro rfl trivial)) trivial))) (.inr ⟨(by kernel_rfl),qNB v27⟩) (by kernel_rfl))] 7 [] [(14,vp 7 0)] [] [(7,bx 85 (JW v27))] ?_
     refine q_sq (s_vv [] 8 [1] [(83,vc (tl qN du a2)),(84,vi (a2.length:Int)),(85,vi 0)] ?_);refine q_fu [.ownB 6 13 8 87 7 (rf qN [])] [] [] [6] [(6,bx 282 [cs a3.Name,ci a3.Thick,ci a3.Width,ci a3.Allow,ci a3.Wane,tl qE du a3.Lengths,tl qE du a3.Prices,ci a4.X.A,ci a4.X.B,ci a4.Y.A,ci a4.Y.B,ci v23,.own 5 0 3 v25.length,.own 8 0 7 0]),(8,ro 0 87 7 0 (rf qN []))] o0 ?_;obtain⟨o39,h40,hm⟩:=qC hm
     refine zI (nd f263 4084) 0 (by kernel_rfl) FUEL (λo=>qF4 a3 a4 v23 v25 o) o39 (q_hl (qA2 a2 a3 a4 v23 v25 v27 0 ([]:List qH) 0) (qNN E a2 a3 a4 v23 v25 v27 FUEL 0 ([]:List qH) 0 o39 rfl h40)) (s_vu [] 9 [13] [(9,vb true)] [2,6] [(2,bx 282 [cs a3.Name,ci a3.Thick,ci a3.Width,ci a3.Allow,ci a3.Wane,tl qE du a3.Lengths,tl qE du a3.Prices,ci a4.X.A,ci a4.X.B,ci a4.Y.A,ci a4.Y.B,ci v23,.own 5 0 3 v25.length,.own 8 0 7 o39.length])] ?_);obtain rfl:=oi hm;refine q_sw 5 0 (q_sw 8 1 ?_);exact q_rt q_rm
   ·rcases bif_c hm with⟨b20,hm⟩|⟨b20,hm⟩
    ·exact q_vu [qf 5 b20] 5 [10,11,12] [(68,vb (!(((w64 (a4.X.B-a4.X.A))==v18.2)&&(((w64 (a4.Y.B-a4.Y.A))==v18.1)&&true))))] [4] [] (q_J (!(((w64 (a4.X.B-a4.X.A))==v18.2)&&(((w64 (a4.Y.B-a4.Y.A))==v18.1)&&true))) hm)
    ·exact q_vu [qf 5 b20] 5 [10,11,12] [(68,vb false)] [4] [] (q_J (false) hm)
 ·obtain⟨v5,h6,hm⟩:=qC hm;rcases bif_c hm with⟨b7,hm⟩|⟨b7,hm⟩
  ·exact q_vv [qc 1 [17] 3 (YL a1 v5 h6),qf 3 b7] 3 [] [(35,vb true)] (q_J (true) hm)
  ·obtain⟨v8,h9,hm⟩:=qC hm;rcases bif_c hm with⟨b10,hm⟩|⟨b10,hm⟩
   ·exact q_vv [qc 1 [17] 3 (YL a1 v5 h6),qf 3 b7,qk 5 [20,21] 3 ⟨[(20,vb false),(21,vc (tl qN du a2))],[]⟩ (JF a2 v8 h9),qf 8 b10] 3 [] [(35,vb true)] (q_J (true) hm)
   ·obtain⟨v11,h12,hm⟩:=qC hm;rcases bif_c hm with⟨b13,hm⟩|⟨b13,hm⟩
    ·exact q_vv [qc 1 [17] 3 (YL a1 v5 h6),qf 3 b7,qk 5 [20,21] 3 ⟨[(20,vb false),(21,vc (tl qN du a2))],[]⟩ (JF a2 v8 h9),qf 8 b10,qd 10 (drw 3 0 (rf qM [a3])) (litP qM du 7 (λ_=>rfl) ([a3]:List qD) 1 rfl),qd 11 (dex (cen [] [] 4 0 (VN v11) (WW v11) [25,27] [3])) (wO (K:=(kx E 100 0)) (xs':=[.one (.lst 1 (rf qM [a3]))]) (b:=false) ⟨[(25,vb false),(27,vo 3 0 7 1)],[(3,ro 0 74 7 1 (rf qM [a3]))]⟩ (opAt (rg f263 12) 11) [] [] 4 (o1 (ke 1)) (by simp only[tl,rf,show([a3]:List qD).length=1 from rfl]) (YU ([a3]:List qD) v11 h12) (.inr ⟨(by kernel_rfl),qGq v11⟩) (by kernel_rfl)),qf 14 b13] 3 [] [(35,vb true)] (q_J (true) hm)
    ·obtain⟨v14,h15,hm⟩:=qC hm
     refine q_vv [qc 1 [17] 3 (YL a1 v5 h6),qf 3 b7,qk 5 [20,21] 3 ⟨[(20,vb false),(21,vc (tl qN du a2))],[]⟩ (JF a2 v8 h9),qf 8 b10,qd 10 (drw 3 0 (rf qM [a3])) (litP qM du 7 (λ_=>rfl) ([a3]:List qD) 1 rfl),qd 11 (dex (cen [] [] 4 0 (VN v11) (WW v11) [25,27] [3])) (wO (K:=(kx E 100 0)) (xs':=[.one (.lst 1 (rf qM [a3]))]) (b:=false) ⟨[(25,vb false),(27,vo 3 0 7 1)],[(3,ro 0 74 7 1 (rf qM [a3]))]⟩ (opAt (rg f263 12) 11) [] [] 4 (o1 (ke 1)) (by simp only[tl,rf,show([a3]:List qD).length=1 from rfl]) (YU ([a3]:List qD) v11 h12) (.inr ⟨(by kernel_rfl),qGq v11⟩) (by kernel_rfl)),qf 14 b13,qk 16 [31,32] 4 ⟨[(31,vb false),(32,va (qR a4))],[]⟩ (qOZ a4 v14 h15)] 3 [] [(35,vb (!v14))] ?_
     exact q_J (!v14) hm
def qVx (r:Span×Int×Bool):V:= .tup [.agg (qL r.1),.one (ci r.2.1),.one (cb r.2.2)]
def qVW (r:Span×Int×Bool):List (Nat×(Nat×O)):=[]
def PE (a3:qD) (a5:Int) (a6:Int) (v14:zG×Bool) (x19:Int):St:=
 ⟨[(4,vi a5),(5,vi a6),(8,vp 0 0),(12,vp 2 0),(15,vp 5 0),(17,vp 6 0),(20,vi x19)],[(0,bx 74 (qM a3)),(2,bx 53 [ci 0,ci 0]),(3,ro 0 305 3 v14.1.zones.length (rf zJ v14.1.zones)),(4,ro 0 87 7 v14.1.defects.length (rf qN v14.1.defects)),(5,bx 282 [cs v14.1.product.Name,ci v14.1.product.Thick,ci v14.1.product.Width,ci v14.1.product.Allow,ci v14.1.product.Wane,tl qE du v14.1.product.Lengths,tl qE du v14.1.product.Prices,ci v14.1.rect.X.A,ci v14.1.rect.X.B,ci v14.1.rect.Y.A,ci v14.1.rect.Y.B,ci v14.1.length,.own 3 0 3 v14.1.zones.length,.own 4 0 7 v14.1.defects.length])]⟩
def qF7 (a3:qD) (a5:Int) (a6:Int) (v14:zG×Bool) (x19:Int) (x24:Int) (x34:Int) (x35:Bool) (x36:Span):St:=
 (PE a3 a5 a6 v14 x19).up [] [(18,vi x34),(19,vb x35),(54,vc (tl qE du a3.Lengths)),(55,vi (a3.Lengths.length:Int)),(56,vi x24)] [] [(6,bx 53 (qL x36))]
def qOJ (a3:qD) (a5:Int) (a6:Int) (v14:zG×Bool) (x19:Int) (x22:Int) (x23:Bool) (x24:Int) (x25:Span) (v28:Int×Bool) (x32:Bool):St:=
 (PE a3 a5 a6 v14 x19).up [] [(18,vi x22),(19,vb x23),(23,vp 7 0),(24,vi v28.1),(54,vc (tl qE du a3.Lengths)),(55,vi (a3.Lengths.length:Int)),(56,vi x24),(81,vb x32)] [] [(6,bx 53 (qL x25)),(7,bx 53 [ci x19,ci (w64 (x19+(a3.Lengths.getD x24.toNat du)))])]
def qAn (a3:qD) (a5:Int) (a6:Int) (v14:zG×Bool) (x19:Int) (x22:Int) (x23:Bool) (x24:Int) (x25:Span):St:=
 (PE a3 a5 a6 v14 x19).up [] [(18,vi x22),(19,vb x23),(54,vc (tl qE du a3.Lengths)),(55,vi (a3.Lengths.length:Int)),(56,vi x24)] [] [(6,bx 53 (qL x25))]
def qFT (a3:qD) (a5:Int) (a6:Int) (v14:zG×Bool) (x19:Int) (x37:Int) (x38:Bool) (x39:Span):St:=
 (PE a3 a5 a6 v14 x19).up [] [(18,vi x37),(19,vb x38)] [] [(6,bx 53 (qL x39))]
def qAB (a3:qD) (a5:Int) (a6:Int) (v14:zG×Bool) (x17:Int) (x18:Bool) (x19:Int) (x20:Span):St:=
 (PE a3 a5 a6 v14 x19).up [] [(18,vi x17),(19,vb x18)] [] [(6,bx 53 (qL x20))]
def qGG (x42:Int) (x43:Bool) (x44:Span):St:=
 ⟨[(12,vp 2 0),(17,vp 6 0),(18,vi x42),(19,vb x43)],[(2,bx 53 [ci 0,ci 0]),(6,bx 53 (qL x44))]⟩
def qQn (a1:List qO) (a2:List qH) (a3:qD) (a4:Rect) (a5:Int) (a6:Int) (x12:Bool):St:=
 ⟨[(0,vc (tl qS du a1)),(1,vc (tl qN du a2)),(4,vi a5),(5,vi a6),(8,vp 0 0),(9,vp 1 0),(12,vp 2 0),(33,vb x12)],[(0,bx 74 (qM a3)),(1,bx 55 (qR a4)),(2,bx 53 [ci 0,ci 0])]⟩
theorem qNH (E:Env 0) (a3:qD) (a5:Int) (a6:Int) (v14:zG×Bool) (x19:Int):∀(n:Nat) (x22:Int) (x23:Bool) (x24:Int) (x25:Span) (res:Int×Bool×Span),yR a3 a6 v14 x19 n x22 x23 x24 x25=some res->HL (kx E 88 0) (nd f249 130340) (zN 2 (λo=>qFT a3 a5 a6 v14 x19 o.1 o.2.1 o.2.2) res) n (qAn a3 a5 a6 v14 x19 x22 x23 x24 x25):=by
 intro n
 induction n with
 |zero=>
  intro x22 x23 x24 x25 res hm;cases hm
 |succ n ih=>
  intro x22 x23 x24 x25 res hm;refine qU (s_va 7 [(57,vb (decide (x24<(a3.Lengths.length:Int))))] ?_);refine q_sq (q_cq hm (λhm=>?_) (λhm=>?_))
  ·refine q_sk (q_jn (ι:=Int×Bool×Span) (λp=>qF7 a3 a5 a6 v14 x19 x24 p.1 p.2.1 p.2.2) (λp=>qDF x24 (yR a3 a6 v14 x19 n) p.1 p.2.1 p.2.2=some res) ?_ ?_)
   ·rintro⟨x34,x35,x36⟩ hm;show H _ (qF7 a3 a5 a6 v14 x19 x24 x34 x35 x36) _ _;exact q_vv [] 8 [56] [(56,vi (w64 (x24+1)))] (q_hl (qAn a3 a5 a6 v14 x19 x34 x35 (w64 (x24+1)) x36) (ih x34 x35 (w64 (x24+1)) x36 _ hm))
   ·refine q_bk 3 ?_;obtain⟨g27,hm⟩:=qJ hm;refine s_vv [qi 0 g27] 7 [57] [(22,vi (a3.Lengths.getD x24.toNat du))] (s_vu [] 7 [22] [(23,vp 7 0)] [] [(7,bx 53 [ci x19,ci (w64 (x19+(a3.Lengths.getD x24.toNat du)))])] ?_);obtain⟨v28,h29,hm⟩:=qC hm
    refine s_vv [qd 3 (dex (cen [] [] 8 0 (UN v28) (WC v28) [66,67,68] [3,4])) (wO (K:=(kx E 88 0)) (b:=false) ⟨[(66,va [cs v14.1.product.Name,ci v14.1.product.Thick,ci v14.1.product.Width,ci v14.1.product.Allow,ci v14.1.product.Wane,tl qE du v14.1.product.Lengths,tl qE du v14.1.product.Prices,ci v14.1.rect.X.A,ci v14.1.rect.X.B,ci v14.1.rect.Y.A,ci v14.1.rect.Y.B,ci v14.1.length,.own 3 0 3 v14.1.zones.length,.own 4 0 7 v14.1.defects.length]),(67,va [ci x19,ci (w64 (x19+(a3.Lengths.getD x24.toNat du)))]),(68,vi a6)],[(3,ro 0 305 3 v14.1.zones.length (rf zJ v14.1.zones)),(4,ro 0 87 7 v14.1.defects.length (rf qN v14.1.defects))]⟩ (opAt (rg f249 16683622) 3) [] [] 8 (o1 (And.intro (ke v14.1.zones.length) (ke v14.1.defects.length))) rfl (qJ0 (zG.mk v14.1.product v14.1.rect v14.1.length v14.1.zones v14.1.defects) (Span.mk x19 (w64 (x19+(a3.Lengths.getD x24.toNat du)))) a6 v28 h29) (.inr ⟨(by kernel_rfl),qKh v28⟩) (by kernel_rfl))] 8 [] [(24,vi v28.1),(25,vb v28.2)] ?_
    refine q_jn (qOJ a3 a5 a6 v14 x19 x22 x23 x24 x25 v28) (λp=>TX a3 x19 x22 x23 x24 x25 (yR a3 a6 v14 x19 n) v28 p=some res) ?_ ?_
    ·rintro x32 hm;refine q_cq hm (λhm=>?_) (λhm=>?_)
     ·exact q_vu [] 8 [18,19,23,24,81] [(18,vi v28.1),(19,vb true)] [6,7] [(6,bx 53 [ci x19,ci (w64 (x19+(a3.Lengths.getD x24.toNat du)))])] (q_J (v28.1,true,(Span.mk x19 (w64 (x19+(a3.Lengths.getD x24.toNat du))))) hm)
     ·exact q_sk (q_J (x22,x23,x25) hm)
    ·rcases bif_c hm with⟨b30,hm⟩|⟨b30,hm⟩
     ·rcases bif_c hm with⟨b31,hm⟩|⟨b31,hm⟩
      ·exact q_vv [qf 1 b30,qf 4 b31] 8 [25] [(81,vb true)] (q_J (true) hm)
      ·exact q_vv [qf 1 b30,qf 4 b31] 8 [25] [(81,vb (decide (v28.1>x22)))] (q_J (decide (v28.1>x22)) hm)
     ·exact q_vv [qf 1 b30] 8 [25] [(81,vb false)] (q_J (false) hm)
  ·refine q_ex 2 ?_;obtain rfl:=oi hm;exact q_l0
theorem qNS (E:Env 0) (a3:qD) (a5:Int) (a6:Int) (v14:zG×Bool):∀(n:Nat) (x17:Int) (x18:Bool) (x19:Int) (x20:Span) (res:Int×Bool×Span),TQ a3 a5 a6 v14 n x17 x18 x19 x20=some res->HL (kx E 88 0) (nd f249 2036) (zN 0 (λo=>qGG o.1 o.2.1 o.2.2) res) n (qAB a3 a5 a6 v14 x17 x18 x19 x20):=by
 intro n
 induction n with
 |zero=>
  intro x17 x18 x19 x20 res hm;cases hm
 |succ n ih=>
  intro x17 x18 x19 x20 res hm;refine qU (q_sq ?_);refine s_va 7 [(49,vb (decide (x19<v14.1.length)))] (q_cq hm (λhm=>?_) (λhm=>?_))
  ·refine q_sk (q_sq ?_);refine q_bk 1 (s_vv [] 7 [49] [(54,vc (tl qE du a3.Lengths)),(55,vi (a3.Lengths.length:Int)),(56,vi 0)] ?_);obtain⟨o40,h41,hm⟩:=qC hm;refine zI (nd f249 130340) 2 (by kernel_rfl) FUEL (λo=>qFT a3 a5 a6 v14 x19 o.1 o.2.1 o.2.2) o40 (q_hl (qAn a3 a5 a6 v14 x19 x17 x18 0 x20) (qNH E a3 a5 a6 v14 x19 FUEL x17 x18 0 x20 o40 h41)) (q_vv [] 7 [20] [(20,vi (w64 (x19+a5)))] ?_);exact q_hl (qAB a3 a5 a6 v14 o40.1 o40.2.1 (w64 (x19+a5)) o40.2.2) (ih o40.1 o40.2.1 (w64 (x19+a5)) o40.2.2 _ hm)
  ·refine q_ex 0 ?_;obtain rfl:=oi hm;exact q_l0
theorem qTf (a1:List qO) (a2:List qH) (a3:qD) (a4:Rect) (a5:Int) (a6:Int) (r:Span×Int×Bool) (hm:qAH a1 a2 a3 a4 a5 a6=some r):CtX Tryz.prog globs 249 0 0 [.one (tl qS du a1),.one (tl qN du a2),.agg (qM a3),.agg (qR a4),.one (ci a5),.one (ci a6)] [] (qVx r) (qVW r):=by
 unfold qAH at hm;refine q_E f249 88 λE=>?_;refine s_vn [] 0 ⟨[(0,vc (tl qS du a1)),(1,vc (tl qN du a2)),(4,vi a5),(5,vi a6),(8,vp 0 0),(9,vp 1 0),(12,vp 2 0)],[(0,bx 74 (qM a3)),(1,bx 55 (qR a4)),(2,bx 53 [ci 0,ci 0])]⟩ (q_sq ?_);refine q_jn (qQn a1 a2 a3 a4 a5 a6) (λp=>IW a1 a2 a3 a4 a5 a6 p=some r) ?_ ?_
 ·rintro x12 hm;refine q_cq hm (λhm=>?_) (λhm=>?_)
  ·refine s_vu [] 3 [0,1,4,5,8,9,33] [(13,vi 0),(14,vb false)] [0,1] [] ?_;obtain rfl:=oi hm;exact q_rt q_rm
  ·refine q_sk ?_;obtain⟨v14,h15,hm⟩:=qC hm
   refine s_vu [qc 4 [36,37,38,39] 3 (qTk a1 a2 a3 a4 v14 h15)] 3 [0,1,9,33] [(15,vp 5 0),(16,vb v14.2)] [1] [(3,ro 0 305 3 v14.1.zones.length (rf zJ v14.1.zones)),(4,ro 0 87 7 v14.1.defects.length (rf qN v14.1.defects)),(5,bx 282 [cs v14.1.product.Name,ci v14.1.product.Thick,ci v14.1.product.Width,ci v14.1.product.Allow,ci v14.1.product.Wane,tl qE du v14.1.product.Lengths,tl qE du v14.1.product.Prices,ci v14.1.rect.X.A,ci v14.1.rect.X.B,ci v14.1.rect.Y.A,ci v14.1.rect.Y.B,ci v14.1.length,.own 3 0 3 v14.1.zones.length,.own 4 0 7 v14.1.defects.length])] (q_sq ?_)
   refine s_vv [] 6 [16] [(44,vb (!v14.2))] (q_cq hm (λhm=>?_) (λhm=>?_))
   ·refine s_vu [] 6 [4,5,8,15,44] [(13,vi 0),(14,vb false)] [0,3,4,5] [] ?_;obtain rfl:=oi hm;exact q_rt q_rm
   ·refine q_sk (s_vu [] 6 [44] [(17,vp 6 0)] [] [(6,bx 53 [ci 0,ci 0])] ?_);refine s_va 7 [(18,vi 0),(19,vb false)] (q_sq ?_);refine s_va 7 [(20,vi 0)] ?_;obtain⟨o45,h46,hm⟩:=qC hm;refine zI (nd f249 2036) 0 (by kernel_rfl) FUEL (λo=>qGG o.1 o.2.1 o.2.2) o45 (q_hl (qAB a3 a5 a6 v14 0 false 0 (Span.mk 0 0)) (qNS E a3 a5 a6 v14 FUEL 0 false 0 (Span.mk 0 0) o45 h46)) (s_vn [] 7 ⟨[(12,vp 2 0),(13,vi o45.1),(14,vb o45.2.1)],[(2,bx 53 (qL o45.2.2))]⟩ ?_);obtain rfl:=oi hm;exact q_rt q_rm
 ·obtain⟨v7,h8,hm⟩:=qC hm;rcases bif_c hm with⟨b9,hm⟩|⟨b9,hm⟩
  ·exact q_vv [qc 1 [26] 3 (qAJ a5 v7 h8),qf 3 b9] 3 [] [(33,vb true)] (q_J (true) hm)
  ·obtain⟨v10,h11,hm⟩:=qC hm;exact q_vv [qc 1 [26] 3 (qAJ a5 v7 h8),qf 3 b9,qk 5 [29,30] 3 ⟨[(29,vb false),(30,vi a6)],[]⟩ (qGw a6 v10 h11)] 3 [] [(33,vb (!v10))] (q_J (!v10) hm)
def qPX (r:(List Span)):V:=vo 0 0 2 r.length
def qOL (r:(List Span)):List (Nat×(Nat×O)):=[(0,ro 0 53 2 r.length (rf qL r))]
def MW (a1:List qO) (l3:List Span) (l3n:Nat) (x4:Int) (x5:Int):St:=
 ⟨[(3,vo 0 0 2 l3n),(4,vi x4),(10,vc (tl qS du a1)),(11,vi (a1.length:Int)),(12,vi x5)],[(0,ro 0 53 2 l3n (rf qL l3))]⟩
def qC9 (l9:List Span):St:=
 ⟨[(3,vo 0 0 2 l9.length)],[(0,ro 0 53 2 l9.length (rf qL l9))]⟩
theorem qJ6 (E:Env 0) (a1:List qO):∀(n:Nat) (l3:List Span) (l3n:Nat) (x4:Int) (x5:Int) (res:(List Span)),l3.length=l3n->YW a1 n l3 x4 x5=some res->HL (kx E 32 0) (nd f183 244) (zN 0 qC9 res) n (MW a1 l3 l3n x4 x5):=by
 intro n
 induction n with
 |zero=>
  intro l3 l3n x4 x5 res hl0 hm;cases hm
 |succ n ih=>
  intro l3 l3n x4 x5 res hl0 hm;subst hl0;refine qU (s_va 1 [(13,vb (decide (x5<(a1.length:Int))))] ?_);refine q_sq (q_cq hm (λhm=>?_) (λhm=>?_))
  ·refine q_sk (q_sq ?_);refine q_bk 1 ?_;obtain⟨g7,hm⟩:=qJ hm;refine s_vu [qi 1 g7] 1 [13] [(5,vi x5),(6,vp 1 0)] [] [(1,bx 80 (qS (a1.getD x5.toNat du)))] ?_;obtain⟨g8,hm⟩:=qJ hm
   refine s_vu [qi 8 g8,qd 9 (drw 0 0 (rf qL (l3.set x5.toNat (Span.mk x4 (w64 (x4+((a1.getD x5.toNat du).Len))))))) (stP qL du (Span.mk x4 (w64 (x4+((a1.getD x5.toNat du).Len)))) l3 l3.length x5.toNat 0 [ci x4,ci (w64 (x4+((a1.getD x5.toNat du).Len)))] rfl (qT (zB g8)) rfl)] 2 [5] [] [0] [(0,ro 0 53 2 l3.length (rf qL (l3.set x5.toNat (Span.mk x4 (w64 (x4+((a1.getD x5.toNat du).Len)))))))] (q_vu [] 2 [4,6] [(4,vi (w64 (x4+((a1.getD x5.toNat du).Len))))] [1] [] ?_)
   exact q_vv [] 2 [12] [(12,vi (w64 (x5+1)))] (q_hl (MW a1 (l3.set x5.toNat (Span.mk x4 (w64 (x4+((a1.getD x5.toNat du).Len))))) l3.length (w64 (x4+((a1.getD x5.toNat du).Len))) (w64 (x5+1))) (ih (l3.set x5.toNat (Span.mk x4 (w64 (x4+((a1.getD x5.toNat du).Len))))) l3.length (w64 (x4+((a1.getD x5.toNat du).Len))) (w64 (x5+1)) _ (QE rfl) hm))
  ·refine q_ex 0 ?_;obtain rfl:=oi hm;exact q_l0
theorem qNJ (a1:List qO) (r:(List Span)) (hm:FK a1=some r):CtX Tryz.prog globs 183 0 0 [.one (tl qS du a1)] [] (qPX r) (qOL r):=by
 unfold FK at hm;refine q_E f183 32 λE=>?_;refine s_vn [] 0 ⟨[(0,vc (tl qS du a1))],[]⟩ ?_;obtain⟨g2,hm⟩:=qJ hm;refine s_vu [qd 2 (drw 0 0 (rf qL (List.replicate ((a1.length:Int).toNat) (Span.mk 0 0)))) (mkP qL du (Span.mk 0 0) (a1.length:Int) 16 [ci 0,ci 0] (GH g2) rfl)] 0 [] [(3,vo 0 0 2 ((a1.length:Int).toNat))] [] [(0,ro 0 53 2 ((a1.length:Int).toNat) (rf qL (List.replicate ((a1.length:Int).toNat) (Span.mk 0 0))))] (s_va 1 [(4,vi 0)] ?_);refine q_sq (s_vv [] 1 [0] [(10,vc (tl qS du a1)),(11,vi (a1.length:Int)),(12,vi 0)] ?_);obtain⟨o10,h11,hm⟩:=qC hm
 refine zI (nd f183 244) 0 (by kernel_rfl) FUEL qC9 o10 (q_hl (MW a1 (List.replicate ((a1.length:Int).toNat) (Span.mk 0 0)) ((a1.length:Int).toNat) 0 0) (qJ6 E a1 FUEL (List.replicate ((a1.length:Int).toNat) (Span.mk 0 0)) ((a1.length:Int).toNat) 0 0 o10 DS h11)) (s_vv [] 1 [3] [(2,vo 0 0 2 o10.length)] ?_);obtain rfl:=oi hm;exact q_rt q_rm
def qQ5 (r:Int):V:=vi r
def qRV (r:Int):List (Nat×(Nat×O)):=[]
def qMn (a2:Box) (v3:(List qO)) (v5:(List Span)) (x8:Int) (x19:Int):St:=
 ⟨[(0,vc (tl qS du v3)),(3,vp 0 0),(5,vi x19),(12,vo 1 0 2 v5.length),(13,vi (v5.length:Int)),(14,vi x8)],[(0,bx 85 (JW a2)),(1,ro 0 53 2 v5.length (rf qL v5))]⟩
def AM (a2:Box) (v3:(List qO)) (v5:(List Span)) (x7:Int) (x8:Int):St:=
 ⟨[(0,vc (tl qS du v3)),(3,vp 0 0),(5,vi x7),(12,vo 1 0 2 v5.length),(13,vi (v5.length:Int)),(14,vi x8)],[(0,bx 85 (JW a2)),(1,ro 0 53 2 v5.length (rf qL v5))]⟩
def qDR (x20:Int):St:=
 ⟨[(5,vi x20)],[]⟩
theorem qKt (E:Env 0) (a2:Box) (v3:(List qO)) (v5:(List Span)):∀(n:Nat) (x7:Int) (x8:Int) (res:Int),ZJ a2 v3 v5 n x7 x8=some res->HL (kx E 43 0) (nd f121 244) (zN 0 qDR res) n (AM a2 v3 v5 x7 x8):=by
 intro n
 induction n with
 |zero=>
  intro x7 x8 res hm;cases hm
 |succ n ih=>
  intro x7 x8 res hm;refine qU (s_va 2 [(15,vb (decide (x8<(v5.length:Int))))] ?_);refine q_sq (q_cq hm (λhm=>?_) (λhm=>?_))
  ·refine q_sk (q_jn (qMn a2 v3 v5 x8) (λp=>qAz x8 (ZJ a2 v3 v5 n) p=some res) ?_ ?_)
   ·rintro x19 hm;exact q_vv [] 3 [14] [(14,vi (w64 (x8+1)))] (q_hl (AM a2 v3 v5 x19 (w64 (x8+1))) (ih x19 (w64 (x8+1)) _ hm))
   ·refine q_bk 1 ?_;obtain⟨g10,hm⟩:=qJ hm;refine s_vu [qi 1 g10,qd 2 dN (qT (zB g10))] 2 [15] [(6,vi x8),(7,vp 2 0)] [] [(2,bx 53 (qL (v5.getD x8.toNat du)))] ?_;obtain⟨v11,h12,hm⟩:=qC hm;obtain⟨v13,h14,hm⟩:=qC hm;refine s_vu [qc 3 [19,21] 3 (RZ (v5.getD x8.toNat du) a2.Z v11 h12),qc 4 [22] 3 (FU v11 v13 h14)] 3 [7] [(8,vi v13)] [2] [] (s_va 3 [(25,vb (decide (v13>0)))] ?_);refine q_cq hm (λhm=>?_) (λhm=>?_)
    ·obtain⟨g16,hm⟩:=qJ hm;obtain⟨v17,h18,hm⟩:=qC hm;exact q_du [qi 4 g16,qc 12 [32,37] 3 (qEf ((v3.getD x8.toNat du).Sec) (Rect.mk a2.X a2.Y) v17 h18)] [0,0,0,0,12,28,60,0,128,0,512,1920,4092,8190,16383,32767] 3 [5,6,8,25] [(5,vi (w64 (x7+(w64 (v13*v17)))))] [] [] (q_J (w64 (x7+(w64 (v13*v17)))) hm)
    ·exact q_sk (q_J (x7) hm)
  ·refine q_ex 0 ?_;obtain rfl:=oi hm;exact q_l0
theorem qGO (a1:List qO) (a2:Box) (r:Int) (hm:DF a1 a2=some r):CtX Tryz.prog globs 121 0 0 [.one (tl qS du a1),.agg (JW a2)] [] (qQ5 r) (qRV r):=by
 unfold DF at hm;refine q_E f121 43 λE=>?_;refine s_vn [] 0 ⟨[(0,vc (tl qS du a1)),(3,vp 0 0)],[(0,bx 85 (JW a2))]⟩ ?_;obtain⟨v3,h4,hm⟩:=qC hm;refine s_vv [qc 1 [9] 1 (SZ a1 v3 h4)] 1 [0] [(0,vc (tl qS du v3))] (s_va 1 [(5,vi 0)] ?_);refine q_sq ?_;obtain⟨v5,h6,hm⟩:=qC hm;refine s_vu [qc 1 [11] 1 (qNJ v3 v5 h6)] 1 [] [(12,vo 1 0 2 v5.length),(13,vi (v5.length:Int)),(14,vi 0)] [] [(1,ro 0 53 2 v5.length (rf qL v5))] ?_;obtain⟨o21,h22,hm⟩:=qC hm;refine zI (nd f121 244) 0 (by kernel_rfl) FUEL qDR o21 (q_hl (AM a2 v3 v5 0 0) (qKt E a2 v3 v5 FUEL 0 0 o21 h22)) (s_vn [] 2 ⟨[(4,vi o21)],[]⟩ ?_)
 obtain rfl:=oi hm;exact q_rt q_rm
def qSM (r:Int):V:=vi r
def qS1 (r:Int):List (Nat×(Nat×O)):=[]
theorem GY (a1:List qO) (a2:Rect) (a3:Span) (r:Int) (hm:PR a1 a2 a3=some r):CtX Tryz.prog globs 216 0 0 [.one (tl qS du a1),.agg (qR a2),.agg (qL a3)] [] (qSM r) (qS1 r):=by
 unfold PR at hm;refine q_E f216 15 λE=>?_;refine s_vn [] 0 ⟨[(0,vc (tl qS du a1)),(4,vp 0 0),(5,vp 1 0)],[(0,bx 55 (qR a2)),(1,bx 53 (qL a3))]⟩ ?_;obtain⟨v4,h5,hm⟩:=qC hm;refine s_vn [qc 7 [7,13] 2 (qGO a1 (Box.mk a2.X a2.Y a3) v4 h5)] 2 ⟨[(6,vi v4)],[]⟩ ?_;obtain rfl:=oi hm;exact q_rt q_rm
def qWv (r:Int):V:=vi r
def qWt (r:Int):List (Nat×(Nat×O)):=[]
theorem qUc (a1:List qO) (a2:List qH) (a3:qD) (a4:Rect) (a5:Saw) (a6:Rates) (r:Int) (hm:qDl a1 a2 a3 a4 a5 a6=some r):CtX Tryz.prog globs 215 0 0 [.one (tl qS du a1),.one (tl qN du a2),.agg (qM a3),.agg (qR a4),.agg (yK a5),.agg (wI a6)] [] (qWv r) (qWt r):=by
 unfold qDl at hm;refine q_E f215 89 λE=>?_;refine s_vn [] 0 ⟨[(0,vc (tl qS du a1)),(1,vc (tl qN du a2)),(8,vp 0 0),(9,vp 1 0),(10,vp 2 0),(11,vp 3 0)],[(0,bx 74 (qM a3)),(1,bx 55 (qR a4)),(2,bx 39 (yK a5)),(3,bx 41 (wI a6))]⟩ ?_;obtain⟨v7,h8,hm⟩:=qC hm;refine s_vu [qc 8 [21,22,23,24,26,28] 4 (qTf a1 a2 a3 a4 a5.Step a6.Fine v7 h8)] 4 [1,8] [(13,vp 4 0),(14,vi v7.2.1),(15,vb v7.2.2)] [0] [(4,bx 53 (qL v7.1))] (q_sq ?_);refine s_vv [] 5 [15] [(34,vb (!v7.2.2))] (q_cq hm (λhm=>?_) (λhm=>?_))
 ·refine s_vn [] 5 ⟨[(12,vi (-1))],[]⟩ ?_;obtain rfl:=oi hm;exact q_rt q_rm
 ·refine q_sk ?_;obtain⟨v10,h11,hm⟩:=qC hm;refine s_vv [qc 1 [35] 5 (LZ a1 v10 h11)] 5 [34] [(16,vi v10)] ?_;obtain⟨v12,h13,hm⟩:=qC hm;refine s_vv [qc 4 [37,38,40] 5 (GY a1 a4 (Span.mk 0 v10) v12 h13)] 5 [] [(17,vi v12)] ?_;obtain⟨v14,h15,hm⟩:=qC hm;refine s_vv [qc 3 [42,43,44] 5 (GY a1 a4 v7.1 v14 h15)] 5 [] [(18,vi v14)] ?_;obtain⟨v16,h17,hm⟩:=qC hm;refine s_vv [qc 11 [46,47,56] 5 (GY a1 a4 (Span.mk (imax 0 (w64 (v7.1.A-a5.Trim))) v7.1.A) v16 h17)] 5 [] [(19,vi v16)] ?_;obtain⟨v18,h19,hm⟩:=qC hm
  refine s_vu [qc 13 [59,60,70] 5 (GY a1 a4 (Span.mk v7.1.B (imin (w64 (v7.1.B+a5.Trim)) v10)) v18 h19)] 5 [0,9,10,13,16,19] [(19,vi (w64 (v16+v18)))] [1,2,4] [] (s_vn [] 5 ⟨[(12,vi (w64 ((w64 ((w64 (1000000*v7.2.1))+(w64 (a6.Dust*(w64 (v16+v18))))))+(w64 (a6.Chip*(w64 ((w64 (v12-v14))-(w64 (v16+v18)))))))))],[]⟩ ?_);obtain rfl:=oi hm;exact q_rt q_rm
def qEY (r:Int):V:=vi r
def qFl (r:Int):List (Nat×(Nat×O)):=[]
def qOW (a4:Rect) (x22:Int) (x26:Bool):St:=
 ⟨[(68,va (qR a4)),(69,vi x22),(77,vb x26)],[]⟩
def qAK (a4:Rect) (x22:Int):St:=
 ⟨[(68,va (qR a4)),(69,vi x22)],[]⟩
def qGI :St:=
 ⟨[],[]⟩
def qQy (a4:Rect) (x20:Bool):St:=
 ⟨[(9,vp 0 0),(55,vb x20)],[(0,bx 55 (qR a4))]⟩
theorem qM6 (E:Env 0) (a4:Rect):∀(n:Nat) (x22:Int) (res:Int⊕Unit),JP a4 n x22=some res->HL (kx E 79 0) (nd f214 2036) (wY 0 (λo=>qGI) (λv st=>RetQ Tryz.prog f214 (qEY v) (qFl v) .ret st) res) n (qAK a4 x22):=by
 intro n
 induction n with
 |zero=>
  intro x22 res hm;cases hm
 |succ n ih=>
  intro x22 res hm;refine qU (s_va 3 [(70,vb (decide (x22<4)))] ?_);refine q_sq (q_cq hm (λhm=>?_) (λhm=>?_))
  ·refine q_sk (q_sq ?_);refine q_bk 1 ?_;obtain⟨g24,hm⟩:=qJ hm;refine s_vv [qi 0 g24] 3 [70] [(18,vi (([a4.X.A,a4.X.B,a4.Y.A,a4.Y.B]:List Int).getD x22.toNat 0))] (q_jn (qOW a4 x22) (λp=>IS x22 (JP a4 n) p=some res) ?_ ?_)
   ·rintro x26 hm;refine q_cq hm (λhm=>?_) (λhm=>?_)
    ·refine s_vn [] 3 ⟨[(12,vi 9)],[]⟩ ?_;obtain rfl:=oi hm;refine q_rt (zQ 9 ?_);exact q_rm
    ·refine q_sk (q_vv [] 3 [69,77] [(69,vi (w64 (x22+1)))] ?_);exact q_hl (qAK a4 (w64 (x22+1))) (ih (w64 (x22+1)) _ hm)
   ·rcases bif_c hm with⟨b25,hm⟩|⟨b25,hm⟩
    ·exact q_vv [qf 2 b25] 3 [18] [(77,vb true)] (q_J (true) hm)
    ·exact q_vv [qf 2 b25] 3 [18] [(77,vb (decide ((([a4.X.A,a4.X.B,a4.Y.A,a4.Y.B]:List Int).getD x22.toNat 0)>600)))] (q_J (decide ((([a4.X.A,a4.X.B,a4.Y.A,a4.Y.B]:List Int).getD x22.toNat 0)>600)) hm)
  ·refine q_ex 0 ?_;obtain rfl:=oi hm;exact q_l1 ()
theorem qS9 (a1:List qO) (a2:List qH) (a3:List qD) (a4:Rect) (a5:Saw) (a6:Rates) (r:Int) (hm:qBc a1 a2 a3 a4 a5 a6=some r):CtX Tryz.prog globs 214 0 0 [.one (tl qS du a1),.one (tl qN du a2),.one (tl qM du a3),.agg (qR a4),.agg (yK a5),.agg (wI a6)] [] (qEY r) (qFl r):=by
 unfold qBc at hm;refine q_E f214 79 λE=>?_;refine s_vn [] 0 ⟨[(0,vc (tl qS du a1)),(1,vc (tl qN du a2)),(2,vc (tl qM du a3)),(9,vp 0 0),(10,vp 1 0),(11,vp 2 0)],[(0,bx 55 (qR a4)),(1,bx 39 (yK a5)),(2,bx 41 (wI a6))]⟩ (q_sq ?_);obtain⟨v7,h8,hm⟩:=qC hm;refine s_vv [qc 1 [19] 3 (YL a1 v7 h8)] 3 [0] [(13,vi v7)] (s_va 3 [(22,vb (v7 !=0))] ?_);refine q_cq hm (λhm=>?_) (λhm=>?_)
 ·refine s_vn [] 3 ⟨[(12,vi v7)],[]⟩ ?_;obtain rfl:=oi hm;exact q_rt q_rm
 ·refine q_sk (q_sq ?_);obtain⟨v10,h11,hm⟩:=qC hm;refine s_vv [qc 1 [24] 3 (JF a2 v10 h11)] 3 [1,13,22] [(14,vi v10)] (s_va 3 [(27,vb (v10 !=0))] ?_);refine q_cq hm (λhm=>?_) (λhm=>?_)
  ·refine s_vn [] 3 ⟨[(12,vi v10)],[]⟩ ?_;obtain rfl:=oi hm;exact q_rt q_rm
  ·refine q_sk (q_sq ?_);obtain⟨v13,h14,hm⟩:=qC hm;refine s_vv [qc 1 [29] 3 (YU a3 v13 h14)] 3 [2,14,27] [(15,vi v13)] (s_va 3 [(32,vb (v13 !=0))] ?_);refine q_cq hm (λhm=>?_) (λhm=>?_)
   ·refine s_vn [] 3 ⟨[(12,vi v13)],[]⟩ ?_;obtain rfl:=oi hm;exact q_rt q_rm
   ·refine q_sk (q_sq ?_);obtain⟨v16,h17,hm⟩:=qC hm;refine s_vu [qc 2 [34,35] 3 (qH6 a5 a6 v16 h17)] 3 [10,11,15,32] [(16,vi v16)] [1,2] [] (s_va 3 [(38,vb (v16 !=0))] ?_);refine q_cq hm (λhm=>?_) (λhm=>?_)
    ·refine s_vn [] 3 ⟨[(12,vi v16)],[]⟩ ?_;obtain rfl:=oi hm;exact q_rt q_rm
    ·refine q_sk (q_sq ?_);refine q_jn (qQy a4) (λp=>OC a4 p=some r) ?_ ?_
     ·rintro x20 hm;refine q_cq hm (λhm=>?_) (λhm=>?_)
      ·refine s_vn [] 3 ⟨[(12,vi 19)],[]⟩ ?_;obtain rfl:=oi hm;exact q_rt q_rm
      ·refine q_sk (q_sq ?_);refine s_vn [] 3 ⟨[(68,va (qR a4)),(69,vi 0)],[]⟩ ?_;obtain⟨u30,h29,hm⟩:=qC hm;refine zY (nd f214 2036) 0 (by kernel_rfl) FUEL (λo=>qGI) (λv st=>RetQ Tryz.prog f214 (qEY v) (qFl v) .ret st) u30 (q_hl (qAK a4 0) (qM6 E a4 FUEL 0 u30 h29)) ?_ ?_
       ·rintro v31 rfl st hr;obtain rfl:=oi hm;exact hr
       ·rintro o28 rfl;replace hm:_=some r:=hm;refine s_vn [] 3 ⟨[(12,vi 0)],[]⟩ ?_;obtain rfl:=oi hm;exact q_rt q_rm
     ·rcases bif_c hm with⟨b19,hm⟩|⟨b19,hm⟩
      ·exact q_vv [qf 7 b19] 3 [16,38] [(55,vb true)] (q_J (true) hm)
      ·exact q_vv [qf 7 b19] 3 [16,38] [(55,vb (decide (a4.Y.A≥a4.Y.B)))] (q_J (decide (a4.Y.A≥a4.Y.B)) hm)
def qV0 (r:(List Int)×(List Int)):V:= .tup [.one (.own 0 0 1 r.1.length),.one (.own 1 0 1 r.2.length)]
def qU5 (r:(List Int)×(List Int)):List (Nat×(Nat×O)):=[(0,ro 0 3 1 r.1.length (rf qE r.1)),(1,ro 0 3 1 r.2.length (rf qE r.2))]
def qF3 (a1:List qD) (a2:Int) (x8:Int) (l19:List Int) (l19n:Nat) (l20:List Int) (l20n:Nat):St:=
 ⟨[(1,vi a2),(6,vo 0 0 1 l19n),(7,vo 1 0 1 l20n),(15,vc (tl qM du a1)),(16,vi (a1.length:Int)),(17,vi x8)],[(0,ro 0 3 1 l19n (rf qE l19)),(1,ro 0 3 1 l20n (rf qE l20))]⟩
def qFW (a1:List qD) (a2:Int) (l7:List Int) (x8:Int) (l17:List Int) (l17n:Nat):St:=
 ⟨[(1,vi a2),(6,vo 0 0 1 l17n),(7,vo 1 0 1 l7.length),(8,vi x8),(15,vc (tl qM du a1)),(16,vi (a1.length:Int)),(17,vi x8)],[(0,ro 0 3 1 l17n (rf qE l17)),(1,ro 0 3 1 l7.length (rf qE l7))]⟩
def qAT (a1:List qD) (a2:Int) (l6:List Int) (l6n:Nat) (l7:List Int) (l7n:Nat) (x8:Int):St:=
 ⟨[(1,vi a2),(6,vo 0 0 1 l6n),(7,vo 1 0 1 l7n),(15,vc (tl qM du a1)),(16,vi (a1.length:Int)),(17,vi x8)],[(0,ro 0 3 1 l6n (rf qE l6)),(1,ro 0 3 1 l7n (rf qE l7))]⟩
def qGA (l21:List Int) (l22:List Int):St:=
 ⟨[(6,vo 0 0 1 l21.length),(7,vo 1 0 1 l22.length)],[(0,ro 0 3 1 l21.length (rf qE l21)),(1,ro 0 3 1 l22.length (rf qE l22))]⟩
theorem qNr (E:Env 0) (a1:List qD) (a2:Int):∀(n:Nat) (l6:List Int) (l6n:Nat) (l7:List Int) (l7n:Nat) (x8:Int) (res:(List Int)×(List Int)),l6.length=l6n->l7.length=l7n->yQ a1 a2 n l6 l7 x8=some res->HL (kx E 49 0) (nd f173 244) (zN 0 (λo=>qGA o.1 o.2) res) n (qAT a1 a2 l6 l6n l7 l7n x8):=by
 intro n
 induction n with
 |zero=>
  intro l6 l6n l7 l7n x8 res hl0 hl1 hm;cases hm
 |succ n ih=>
  intro l6 l6n l7 l7n x8 res hl0 hl1 hm;subst hl0;subst hl1;refine qU (s_va 2 [(18,vb (decide (x8<(a1.length:Int))))] ?_);refine q_sq (q_cq hm (λhm=>?_) (λhm=>?_))
  ·refine q_sk (q_jn (ι:=(List Int)×Nat×(List Int)×Nat) (λp=>qF3 a1 a2 x8 p.1 p.2.1 p.2.2.1 p.2.2.2) (λp=>p.1.length=p.2.1/\p.2.2.1.length=p.2.2.2/\qDJ x8 (yQ a1 a2 n) p.1 p.2.2.1=some res) ?_ ?_)
   ·rintro⟨l19,l19n,l20,l20n⟩ ⟨el19,el20,hm⟩;replace el19:l19.length=l19n:=el19;subst el19;replace el20:l20.length=l20n:=el20;subst el20;show H _ (qF3 a1 a2 x8 l19 l19.length l20 l20.length) _ _;exact q_vv [] 5 [17] [(17,vi (w64 (x8+1)))] (q_hl (qAT a1 a2 l19 l19.length l20 l20.length (w64 (x8+1))) (ih l19 l19.length l20 l20.length (w64 (x8+1)) _ rfl rfl hm))
   ·refine q_bk 1 ?_;obtain⟨g10,hm⟩:=qJ hm;refine s_vu [qi 1 g10] 2 [18] [(8,vi x8),(9,vp 2 0)] [] [(2,bx 74 (qM (a1.getD x8.toNat du)))] ?_;obtain⟨v11,h12,hm⟩:=qC hm;refine s_vu [qc 1 [23] 3 (RS (a1.getD x8.toNat du) v11 h12)] 3 [9] [(10,vi v11.1),(11,vi v11.2)] [2] [] (q_jn (ι:=(List Int)×Nat) (λp=>qFW a1 a2 l7 x8 p.1 p.2) (λp=>p.1.length=p.2/\NT l7 x8 (yQ a1 a2 n) p.1=some res) ?_ ?_)
    ·rintro⟨l17,l17n⟩ ⟨el17,hm⟩;replace el17:l17.length=l17n:=el17;subst el17;show H _ (qFW a1 a2 l7 x8 l17 l17.length) _ _;obtain⟨g18,hm⟩:=qJ hm;exact q_vu [qd 2 (drw 4 0 (rf qE [x8])) (litP qE du 1 (λ_=>rfl) ([x8]:List Int) 1 rfl),qd 3 (drw 1 1 (rf qE (l7++[x8]))) (apP qE du l7 ([x8]:List Int) l7.length 1 1 8 (1<=1) (ke _) rfl rfl (λ_=>rfl) (wB g18))] 4 [7,8] [(7,vo 1 1 1 (l7.length+1))] [1] [(1,ro 1 3 1 (l7.length+1) (rf qE (l7++[x8])))] (q_J (l17,l17.length,(l7++[x8]),(l7.length+1)) ⟨rfl,(wC rfl rfl),hm⟩)
    ·refine s_va 3 [(27,vi a2)] (q_bk 2 ?_);refine s_va 3 [(28,vb (a2==v11.1))] (q_cq hm (λhm=>?_) (λhm=>?_))
     ·obtain⟨g14,hm⟩:=qJ hm;exact q_vu [qd 2 (drw 3 0 (rf qE [v11.2])) (litP qE du 1 (λ_=>rfl) ([v11.2]:List Int) 1 rfl),qd 3 (drw 0 1 (rf qE (l6++[v11.2]))) (apP qE du l6 ([v11.2]:List Int) l6.length 1 1 8 (1<=1) (ke _) rfl rfl (λ_=>rfl) (wB g14))] 3 [6,10,11,27,28] [(6,vo 0 1 1 (l6.length+1))] [0] [(0,ro 1 3 1 (l6.length+1) (rf qE (l6++[v11.2])))] (q_J ((l6++[v11.2]),(l6.length+1)) ⟨(wC rfl rfl),hm⟩)
     ·refine s_vv [] 3 [11,27,28] [(35,vb (a2==v11.2))] (q_cq hm (λhm=>?_) (λhm=>?_))
      ·obtain⟨g16,hm⟩:=qJ hm;exact q_vu [qd 2 (drw 3 0 (rf qE [v11.1])) (litP qE du 1 (λ_=>rfl) ([v11.1]:List Int) 1 rfl),qd 3 (drw 0 1 (rf qE (l6++[v11.1]))) (apP qE du l6 ([v11.1]:List Int) l6.length 1 1 8 (1<=1) (ke _) rfl rfl (λ_=>rfl) (wB g16))] 3 [6,10,35] [(6,vo 0 1 1 (l6.length+1))] [0] [(0,ro 1 3 1 (l6.length+1) (rf qE (l6++[v11.1])))] (q_J ((l6++[v11.1]),(l6.length+1)) ⟨(wC rfl rfl),hm⟩)
      ·exact q_ex 1 (q_J (l6,l6.length,l7,l7.length) ⟨rfl,rfl,hm⟩)
  ·refine q_ex 0 ?_;obtain rfl:=oi hm;exact q_l0
theorem qJw (a1:List qD) (a2:Int) (r:(List Int)×(List Int)) (hm:UQ a1 a2=some r):CtX Tryz.prog globs 173 0 0 [.one (tl qM du a1),.one (ci a2)] [] (qV0 r) (qU5 r):=by
 unfold UQ at hm;refine q_E f173 49 λE=>?_;refine s_vn [] 0 ⟨[(0,vc (tl qM du a1)),(1,vi a2)],[]⟩ (q_sq ?_);obtain⟨v3,h4,hm⟩:=qC hm;refine s_vv [qc 1 [12] 0 (YU a1 v3 h4)] 0 [] [(14,vb (v3 !=0))] (q_cq hm (λhm=>?_) (λhm=>?_))
 ·refine s_vn [] 0 ⟨[(4,vc (.emp)),(5,vc (.emp))],[]⟩ (q_fo 4 0 3 1 qE ?_);refine q_fo 5 1 3 1 qE (q_fl 4 0 3 1 qE ?_);refine q_fl 5 1 3 1 qE ?_;obtain rfl:=oi hm;exact q_rt q_rm
 ·refine q_sk (s_vv [] 0 [14] [(6,vc (.emp)),(7,vc (.emp))] ?_);refine q_sq (s_vv [] 0 [0] [(15,vc (tl qM du a1)),(16,vi (a1.length:Int)),(17,vi 0)] ?_);refine q_fo 6 0 3 1 qE (q_fo 7 1 3 1 qE ?_);obtain⟨o23,h24,hm⟩:=qC hm;refine zI (nd f173 244) 0 (by kernel_rfl) FUEL (λo=>qGA o.1 o.2) o23 (q_hl (qAT a1 a2 ([]:List Int) 0 ([]:List Int) 0 0) (qNr E a1 a2 FUEL ([]:List Int) 0 ([]:List Int) 0 0 o23 rfl rfl h24)) (s_vv [] 2 [6,7] [(4,vo 0 0 1 o23.1.length),(5,vo 1 0 1 o23.2.length)] ?_);obtain rfl:=oi hm;exact q_rt q_rm
def qWW (r:Line×Int):V:= .tup [.agg [ci r.1.Len,ci r.1.Kerf,ci r.1.Pitch,.own 0 0 1 r.1.Sizes.length,.own 1 0 1 r.1.Gain.length,.own 2 0 1 r.1.Chip.length,.own 3 0 1 r.1.Dust.length],.one (ci r.2)]
def qWE (r:Line×Int):List (Nat×(Nat×O)):=[(0,ro 0 3 1 r.1.Sizes.length (rf qE r.1.Sizes)),(1,ro 0 72 1 r.1.Gain.length (rf (qW qE) r.1.Gain)),(2,ro 0 3 1 r.1.Chip.length (rf qE r.1.Chip)),(3,ro 0 3 1 r.1.Dust.length (rf qE r.1.Dust))]
def NA (a1:List qO) (a2:List qH) (a3:List qD) (a4:Rect) (a5:Saw) (a6:Rates) (v10:(List Int)×(List Int)) (x12:Int) (l13:List (List Int)):St:=
 ⟨[(0,vc (tl qS du a1)),(1,vc (tl qN du a2)),(2,vc (tl qM du a3)),(9,vp 0 0),(10,vp 1 0),(11,vp 2 0),(12,vp 3 0),(15,vi (w64 (a4.X.B-a4.X.A))),(17,vo 5 0 1 v10.2.length),(18,vp 6 0),(62,vo 4 0 1 v10.1.length),(63,vi (v10.1.length:Int)),(64,vi x12)],[(0,bx 55 (qR a4)),(1,bx 39 (yK a5)),(2,bx 41 (wI a6)),(3,bx 123 [ci 0,ci 0,ci 0,.emp,.emp,.emp,.emp]),(4,ro 0 3 1 v10.1.length (rf qE v10.1)),(5,ro 0 3 1 v10.2.length (rf qE v10.2)),(6,bx 123 [ci (w64 (a4.X.B-a4.X.A)),ci a5.Kerf,ci 1,.own 4 0 1 v10.1.length,.own 7 0 1 l13.length,.emp,.emp]),(7,ro 0 72 1 l13.length (rf (qW qE) l13))]⟩
def CH (v10:(List Int)×(List Int)):St:=
 ⟨[(12,vp 3 0),(18,vp 6 0)],[(3,bx 123 [ci 0,ci 0,ci 0,.emp,.emp,.emp,.emp]),(4,ro 0 3 1 v10.1.length (rf qE v10.1))]⟩
def qRd (a1:List qO) (a2:List qH) (a3:List qD) (a4:Rect) (a5:Saw) (a6:Rates) (v10:(List Int)×(List Int)) (x12:Int) (l13:List (List Int)) (l16:List Int) (x17:Int) (x27:Int):St:=
 (NA a1 a2 a3 a4 a5 a6 v10 x12 l13).up [] [(19,vi x12),(20,vi (v10.1.getD x12.toNat du)),(21,vo 8 0 1 l16.length),(22,vi x17),(23,vi x27)] [] [(8,ro 0 3 1 l16.length (rf qE l16))]
def qB8 (a1:List qO) (a2:List qH) (a3:List qD) (a4:Rect) (a5:Saw) (a6:Rates) (v10:(List Int)×(List Int)) (x12:Int) (l13:List (List Int)) (l16:List Int) (l16n:Nat) (x17:Int):St:=
 (NA a1 a2 a3 a4 a5 a6 v10 x12 l13).up [] [(19,vi x12),(20,vi (v10.1.getD x12.toNat du)),(21,vo 8 0 1 l16n),(22,vi x17)] [] [(8,ro 0 3 1 l16n (rf qE l16))]
def qHE (a1:List qO) (a2:List qH) (a3:List qD) (a4:Rect) (a5:Saw) (a6:Rates) (v10:(List Int)×(List Int)) (x12:Int) (l13:List (List Int)) (l29:List Int):St:=
 (NA a1 a2 a3 a4 a5 a6 v10 x12 l13).up [] [(21,vo 8 0 1 l29.length)] [] [(8,ro 0 3 1 l29.length (rf qE l29))]
def qBX (a1:List qO) (a2:List qH) (a3:List qD) (a4:Rect) (a5:Saw) (a6:Rates) (v10:(List Int)×(List Int)) (x12:Int) (l13:List (List Int)) (l13n:Nat):St:=
 (NA a1 a2 a3 a4 a5 a6 v10 x12 l13).up [] [] [6,7] [(6,bx 123 [ci (w64 (a4.X.B-a4.X.A)),ci a5.Kerf,ci 1,.own 4 0 1 v10.1.length,.own 7 0 1 l13n,.emp,.emp]),(7,ro 0 72 1 l13n (rf (qW qE) l13))]
def qIf (a1:List qO) (a4:Rect) (a5:Saw) (a6:Rates) (v10:(List Int)×(List Int)) (l33:List (List Int)):St:=
 (CH v10).up [] [(0,vc (tl qS du a1)),(9,vp 0 0),(11,vp 2 0),(15,vi (w64 (a4.X.B-a4.X.A)))] [] [(0,bx 55 (qR a4)),(2,bx 41 (wI a6)),(6,bx 123 [ci (w64 (a4.X.B-a4.X.A)),ci a5.Kerf,ci 1,.own 4 0 1 v10.1.length,.own 7 0 1 l33.length,.emp,.emp]),(7,ro 0 72 1 l33.length (rf (qW qE) l33))]
def qBu (a1:List qO) (a4:Rect) (a5:Saw) (a6:Rates) (v10:(List Int)×(List Int)) (o34:(List (List Int))) (v36:Int) (x38:Int) (l39:List Int) (l39n:Nat) (l40:List Int) (l40n:Nat):St:=
 (CH v10).up [] [(0,vc (tl qS du a1)),(9,vp 0 0),(11,vp 2 0),(24,vp 8 0),(113,vi (w64 (a4.X.B-a4.X.A))),(114,vi x38)] [] [(0,bx 55 (qR a4)),(2,bx 41 (wI a6)),(6,bx 123 [ci (w64 (a4.X.B-a4.X.A)),ci a5.Kerf,ci 1,.own 4 0 1 v10.1.length,.own 7 0 1 o34.length,.own 9 0 1 l39n,.own 10 0 1 l40n]),(7,ro 0 72 1 o34.length (rf (qW qE) o34)),(8,bx 53 [ci 0,ci v36]),(9,ro 0 3 1 l39n (rf qE l39)),(10,ro 0 3 1 l40n (rf qE l40))]
def qHR (a4:Rect) (a5:Saw) (v10:(List Int)×(List Int)) (o34:(List (List Int))) (l48:List Int) (l49:List Int):St:=
 (CH v10).up [] [] [] [(6,bx 123 [ci (w64 (a4.X.B-a4.X.A)),ci a5.Kerf,ci 1,.own 4 0 1 v10.1.length,.own 7 0 1 o34.length,.own 9 0 1 l48.length,.own 10 0 1 l49.length]),(7,ro 0 72 1 o34.length (rf (qW qE) o34)),(9,ro 0 3 1 l48.length (rf qE l48)),(10,ro 0 3 1 l49.length (rf qE l49))]
theorem qQj (E:Env 0) (a1:List qO) (a2:List qH) (a3:List qD) (a4:Rect) (a5:Saw) (a6:Rates) (v10:(List Int)×(List Int)) (x12:Int) (l13:List (List Int)):∀(n:Nat) (l16:List Int) (l16n:Nat) (x17:Int) (res:(List Int)),l16.length=l16n->JC a1 a2 a3 a4 a5 a6 v10 x12 n l16 x17=some res->HL (kx E 145 0) (nd f172 1037108) (zN 2 (λo=>qHE a1 a2 a3 a4 a5 a6 v10 x12 l13 o) res) n (qB8 a1 a2 a3 a4 a5 a6 v10 x12 l13 l16 l16n x17):=by
 intro n
 induction n with
 |zero=>
  intro l16 l16n x17 res hl0 hm;cases hm
 |succ n ih=>
  intro l16 l16n x17 res hl0 hm;subst hl0;refine qU (q_sq ?_);refine s_va 9 [(73,vb (decide ((w64 (x17+(v10.1.getD x12.toNat du)))<=(w64 (a4.X.B-a4.X.A)))))] (q_cq hm (λhm=>?_) (λhm=>?_))
  ·refine q_sk (q_sq ?_);refine q_bk 3 (s_vv [] 9 [73] [(23,vi (-1))] ?_);refine q_jn (qRd a1 a2 a3 a4 a5 a6 v10 x12 l13 l16 x17) (λp=>MI l16 x17 (JC a1 a2 a3 a4 a5 a6 v10 x12 n) p=some res) ?_ ?_
   ·rintro x27 hm;obtain⟨g28,hm⟩:=qJ hm;refine q_vu [qd 2 (drw 9 0 (rf qE [x27])) (litP qE du 1 (λ_=>rfl) ([x27]:List Int) 1 rfl),qd 3 (drw 8 1 (rf qE (l16++[x27]))) (apP qE du l16 ([x27]:List Int) l16.length 1 1 8 (1<=1) (ke _) rfl rfl (λ_=>rfl) (wB g28))] 9 [21,23] [(21,vo 8 1 1 (l16.length+1))] [8] [(8,ro 1 3 1 (l16.length+1) (rf qE (l16++[x27])))] (q_vv [] 10 [22] [(22,vi (w64 (x17+1)))] ?_);exact q_hl (qB8 a1 a2 a3 a4 a5 a6 v10 x12 l13 (l16++[x27]) (l16.length+1) (w64 (x17+1))) (ih (l16++[x27]) (l16.length+1) (w64 (x17+1)) _ (wC rfl rfl) hm)
   ·obtain⟨g19,hm⟩:=qJ hm;refine s_vv [qd 3 dN (OA g19)] 9 [] [(80,vb ((Int.tmod x17 a5.Pitch)==0))] (q_cq hm (λhm=>?_) (λhm=>?_))
    ·obtain⟨g21,hm⟩:=qJ hm;obtain⟨g22,hm⟩:=qJ hm;obtain⟨v23,h24,hm⟩:=qC hm;obtain⟨v25,h26,hm⟩:=qC hm;exact q_du [qi 5 g21,qd 6 dN (qT (zB g21)),qi 7 g22,qc 14 [90,91,94] 9 (qFc a4 x17 (w64 (x17+(v10.1.getD x12.toNat du))) v23 h24),qc 17 [81,82,89,95,96,97] 9 (qUc a1 a2 (a3.getD (v10.2.getD x12.toNat du).toNat du) v23 a5 a6 v25 h26)] [0,0,0,0,0,24,56,124,252,0,0,0,0,6144,15872,0,0,131071,262143] 9 [23,80] [(23,vi v25)] [] [] (q_J (v25) hm)
    ·exact q_sk (q_J ((-1)) hm)
  ·refine q_ex 2 ?_;obtain rfl:=oi hm;exact q_l0
theorem qPD (E:Env 0) (a1:List qO) (a2:List qH) (a3:List qD) (a4:Rect) (a5:Saw) (a6:Rates) (v10:(List Int)×(List Int)):∀(n:Nat) (x12:Int) (l13:List (List Int)) (l13n:Nat) (res:(List (List Int))),l13.length=l13n->GV a1 a2 a3 a4 a5 a6 v10 n x12 l13=some res->HL (kx E 145 0) (nd f172 1012) (zN 0 (λo=>qIf a1 a4 a5 a6 v10 o) res) n (qBX a1 a2 a3 a4 a5 a6 v10 x12 l13 l13n):=by
 intro n
 induction n with
 |zero=>
  intro x12 l13 l13n res hl0 hm;cases hm
 |succ n ih=>
  intro x12 l13 l13n res hl0 hm;subst hl0;refine qU (s_va 8 [(65,vb (decide (x12<(v10.1.length:Int))))] ?_);refine q_sq (q_cq hm (λhm=>?_) (λhm=>?_))
  ·refine q_sk (q_sq ?_);refine q_bk 1 ?_;obtain⟨g15,hm⟩:=qJ hm;refine s_vv [qi 1 g15,qd 2 dN (qT (zB g15))] 8 [65] [(19,vi x12),(20,vi (v10.1.getD x12.toNat du))] (s_va 8 [(21,vc (.emp))] ?_);refine q_sq (s_va 8 [(22,vi 0)] ?_);refine q_fo 21 8 3 1 qE ?_;obtain⟨o30,h31,hm⟩:=qC hm;refine zI (nd f172 1037108) 2 (by kernel_rfl) FUEL (λo=>qHE a1 a2 a3 a4 a5 a6 v10 x12 l13 o) o30 (q_hl (qB8 a1 a2 a3 a4 a5 a6 v10 x12 l13 ([]:List Int) 0 0) (qQj E a1 a2 a3 a4 a5 a6 v10 x12 l13 FUEL ([]:List Int) 0 0 o30 rfl h31)) ?_;obtain⟨g32,hm⟩:=qJ hm
   refine q_vu [qd 3 (dpr [.frz 8] (drw 9 0 (rf (qW qE) [o30]))) (And.intro (ke o30.length) (ke o30.length)),qd 3 dN (litP (qW qE) du 1 (λ_=>rfl) ([o30]:List (List Int)) 1 rfl),qd 4 (drw 7 1 (rf (qW qE) (l13++[o30]))) (apP (qW qE) du l13 ([o30]:List (List Int)) l13.length 1 1 24 (1<=1) (ke _) rfl rfl (λ_=>rfl) (wB g32))] 9 [21] [] [6,7,8] [(6,bx 123 [ci (w64 (a4.X.B-a4.X.A)),ci a5.Kerf,ci 1,.own 4 0 1 v10.1.length,.own 7 1 1 (l13.length+1),.emp,.emp]),(7,ro 1 72 1 (l13.length+1) (rf (qW qE) (l13++[o30])))] (q_vv [] 10 [64] [(64,vi (w64 (x12+1)))] ?_)
   exact q_hl (qBX a1 a2 a3 a4 a5 a6 v10 (w64 (x12+1)) (l13++[o30]) (l13.length+1)) (ih (w64 (x12+1)) (l13++[o30]) (l13.length+1) _ (wC rfl rfl) hm)
  ·refine q_ex 0 ?_;obtain rfl:=oi hm;exact q_l0
theorem qPN (E:Env 0) (a1:List qO) (a4:Rect) (a5:Saw) (a6:Rates) (v10:(List Int)×(List Int)) (o34:(List (List Int))) (v36:Int):∀(n:Nat) (x38:Int) (l39:List Int) (l39n:Nat) (l40:List Int) (l40n:Nat) (res:(List Int)×(List Int)),l39.length=l39n->l40.length=l40n->DZ a1 a4 a6 v36 n x38 l39 l40=some res->HL (kx E 145 0) (nd f172 4084) (zN 4 (λo=>qHR a4 a5 v10 o34 o.1 o.2) res) n (qBu a1 a4 a5 a6 v10 o34 v36 x38 l39 l39n l40 l40n):=by
 intro n
 induction n with
 |zero=>
  intro x38 l39 l39n l40 l40n res hl0 hl1 hm;cases hm
 |succ n ih=>
  intro x38 l39 l39n l40 l40n res hl0 hl1 hm;subst hl0;subst hl1;refine qU (s_va 11 [(115,vb (decide (x38<(w64 (a4.X.B-a4.X.A)))))] ?_);refine q_sq (q_cq hm (λhm=>?_) (λhm=>?_))
  ·refine q_sk (q_sq ?_);refine q_bk 5 (s_vv [] 11 [115] [(25,vi x38)] ?_);obtain⟨v42,h43,hm⟩:=qC hm;obtain⟨v44,h45,hm⟩:=qC hm;refine s_du [qc 5 [118,119,121] 11 (qFc a4 x38 (w64 (x38+1)) v42 h43),qc 7 [117,122,123] 11 (GY a1 v42 (Span.mk 0 v36) v44 h45)] [0,0,0,0,8,30,0,127,255] 11 [25] [(26,vi v44)] [] [] ?_;obtain⟨g46,hm⟩:=qJ hm
   refine s_vu [qd 6 (drw 11 0 (rf qE [w64 (a6.Chip*v44)])) (litP qE du 1 (λ_=>rfl) ([w64 (a6.Chip*v44)]:List Int) 1 rfl),qd 7 (drw 9 1 (rf qE (l39++[w64 (a6.Chip*v44)]))) (apP qE du l39 ([w64 (a6.Chip*v44)]:List Int) l39.length 1 1 8 (1<=1) (ke _) rfl rfl (λ_=>rfl) (wB g46))] 11 [] [] [6,9] [(6,bx 123 [ci (w64 (a4.X.B-a4.X.A)),ci a5.Kerf,ci 1,.own 4 0 1 v10.1.length,.own 7 0 1 o34.length,.own 9 1 1 (l39.length+1),.own 10 0 1 l40.length]),(9,ro 1 3 1 (l39.length+1) (rf qE (l39++[w64 (a6.Chip*v44)])))] ?_;obtain⟨g47,hm⟩:=qJ hm
   refine q_vu [qd 6 (drw 12 0 (rf qE [w64 (a6.Dust*v44)])) (litP qE du 1 (λ_=>rfl) ([w64 (a6.Dust*v44)]:List Int) 1 rfl),qd 7 (drw 10 1 (rf qE (l40++[w64 (a6.Dust*v44)]))) (apP qE du l40 ([w64 (a6.Dust*v44)]:List Int) l40.length 1 1 8 (1<=1) (ke _) rfl rfl (λ_=>rfl) (wB g47))] 12 [26] [] [6,10] [(6,bx 123 [ci (w64 (a4.X.B-a4.X.A)),ci a5.Kerf,ci 1,.own 4 0 1 v10.1.length,.own 7 0 1 o34.length,.own 9 1 1 (l39.length+1),.own 10 1 1 (l40.length+1)]),(10,ro 1 3 1 (l40.length+1) (rf qE (l40++[w64 (a6.Dust*v44)])))] (q_vv [] 13 [114] [(114,vi (w64 (x38+1)))] ?_)
   exact q_hl (qBu a1 a4 a5 a6 v10 o34 v36 (w64 (x38+1)) (l39++[w64 (a6.Chip*v44)]) (l39.length+1) (l40++[w64 (a6.Dust*v44)]) (l40.length+1)) (ih (w64 (x38+1)) (l39++[w64 (a6.Chip*v44)]) (l39.length+1) (l40++[w64 (a6.Dust*v44)]) (l40.length+1) _ (wC rfl rfl) (wC rfl rfl) hm)
  ·refine q_ex 4 ?_;obtain rfl:=oi hm;exact q_l0
theorem qUw (a1:List qO) (a2:List qH) (a3:List qD) (a4:Rect) (a5:Saw) (a6:Rates) (r:Line×Int) (hm:CY a1 a2 a3 a4 a5 a6=some r):CtX Tryz.prog globs 172 0 0 [.one (tl qS du a1),.one (tl qN du a2),.one (tl qM du a3),.agg (qR a4),.agg (yK a5),.agg (wI a6)] [] (qWW r) (qWE r):=by
 unfold CY at hm;refine q_E f172 145 λE=>?_;refine s_vn [] 0 ⟨[(0,vc (tl qS du a1)),(1,vc (tl qN du a2)),(2,vc (tl qM du a3)),(9,vp 0 0),(10,vp 1 0),(11,vp 2 0),(12,vp 3 0)],[(0,bx 55 (qR a4)),(1,bx 39 (yK a5)),(2,bx 41 (wI a6)),(3,bx 123 [ci 0,ci 0,ci 0,.emp,.emp,.emp,.emp])]⟩ (q_sq ?_);obtain⟨v7,h8,hm⟩:=qC hm;refine s_vv [qc 6 [27,28,29,30,31,32] 4 (qS9 a1 a2 a3 a4 a5 a6 v7 h8)] 4 [] [(14,vi v7)] (s_va 4 [(35,vb (v7 !=0))] ?_);refine q_cq hm (λhm=>?_) (λhm=>?_)
 ·refine s_vu [] 4 [0,1,2,9,10,11,14,35] [(13,vi v7)] [0,1,2] [] (q_fu [.ownB 3 3 4 3 1 (rf qE [])] [] [] [3] [(3,bx 123 [ci 0,ci 0,ci 0,.own 4 0 1 0,.emp,.emp,.emp]),(4,ro 0 3 1 0 (rf qE []))] o0 ?_);refine q_fu [.ownB 3 4 5 72 1 (rf (qW qE) [])] [] [] [3] [(3,bx 123 [ci 0,ci 0,ci 0,.own 4 0 1 0,.own 5 0 1 0,.emp,.emp]),(5,ro 0 72 1 0 (rf (qW qE) []))] o0 (q_fu [.ownB 3 5 6 3 1 (rf qE [])] [] [] [3] [(3,bx 123 [ci 0,ci 0,ci 0,.own 4 0 1 0,.own 5 0 1 0,.own 6 0 1 0,.emp]),(6,ro 0 3 1 0 (rf qE []))] o0 ?_)
  refine q_fu [.ownB 3 6 7 3 1 (rf qE [])] [] [] [3] [(3,bx 123 [ci 0,ci 0,ci 0,.own 4 0 1 0,.own 5 0 1 0,.own 6 0 1 0,.own 7 0 1 0]),(7,ro 0 3 1 0 (rf qE []))] o0 (q_fu [.len 4 (([]:List Int).length)] [] [] [3,4] [(3,bx 123 [ci 0,ci 0,ci 0,.own 4 0 1 (([]:List Int).length),.own 5 0 1 0,.own 6 0 1 0,.own 7 0 1 0]),(4,ro 0 3 1 (([]:List Int).length) (rf qE []))] (o1 (And.intro (show 0=([]:List Int).length from rfl) (show 0=([]:List Int).length from rfl))) ?_)
  refine q_fu [.len 5 (([]:List (List Int)).length)] [] [] [3,5] [(3,bx 123 [ci 0,ci 0,ci 0,.own 4 0 1 (([]:List Int).length),.own 5 0 1 (([]:List (List Int)).length),.own 6 0 1 0,.own 7 0 1 0]),(5,ro 0 72 1 (([]:List (List Int)).length) (rf (qW qE) []))] (o1 (And.intro (show 0=([]:List (List Int)).length from rfl) (show 0=([]:List (List Int)).length from rfl))) (q_fu [.len 6 (([]:List Int).length)] [] [] [3,6] [(3,bx 123 [ci 0,ci 0,ci 0,.own 4 0 1 (([]:List Int).length),.own 5 0 1 (([]:List (List Int)).length),.own 6 0 1 (([]:List Int).length),.own 7 0 1 0]),(6,ro 0 3 1 (([]:List Int).length) (rf qE []))] (o1 (And.intro (show 0=([]:List Int).length from rfl) (show 0=([]:List Int).length from rfl))) ?_)
  refine q_fu [.len 7 (([]:List Int).length)] [] [] [3,7] [(3,bx 123 [ci 0,ci 0,ci 0,.own 4 0 1 (([]:List Int).length),.own 5 0 1 (([]:List (List Int)).length),.own 6 0 1 (([]:List Int).length),.own 7 0 1 (([]:List Int).length)]),(7,ro 0 3 1 (([]:List Int).length) (rf qE []))] (o1 (And.intro (show 0=([]:List Int).length from rfl) (show 0=([]:List Int).length from rfl))) ?_;obtain rfl:=oi hm;refine q_sw 4 0 (q_sw 5 1 ?_);refine q_sw 6 2 (q_sw 7 3 ?_);exact q_rt q_rm
 ·refine q_sk (s_vv [] 4 [14,35] [(15,vi (w64 (a4.X.B-a4.X.A)))] ?_);obtain⟨v10,h11,hm⟩:=qC hm;refine s_vu [qc 8 [46,53] 4 (qJw a3 (w64 (a4.Y.B-a4.Y.A)) v10 h11)] 4 [] [(16,vo 4 0 1 v10.1.length),(17,vo 5 0 1 v10.2.length)] [] [(4,ro 0 3 1 v10.1.length (rf qE v10.1)),(5,ro 0 3 1 v10.2.length (rf qE v10.2))] (s_vu [] 6 [] [(18,vp 6 0)] [] [(6,bx 123 [ci (w64 (a4.X.B-a4.X.A)),ci a5.Kerf,ci 1,.own 4 0 1 v10.1.length,.emp,.emp,.emp])] ?_);refine q_sq (s_vv [] 7 [16] [(62,vo 4 0 1 v10.1.length),(63,vi (v10.1.length:Int)),(64,vi 0)] ?_)
  refine q_fu [.ownB 6 4 7 72 1 (rf (qW qE) [])] [] [] [6] [(6,bx 123 [ci (w64 (a4.X.B-a4.X.A)),ci a5.Kerf,ci 1,.own 4 0 1 v10.1.length,.own 7 0 1 0,.emp,.emp]),(7,ro 0 72 1 0 (rf (qW qE) []))] o0 ?_;obtain⟨o34,h35,hm⟩:=qC hm;refine zI (nd f172 1012) 0 (by kernel_rfl) FUEL (λo=>qIf a1 a4 a5 a6 v10 o) o34 (q_hl (qBX a1 a2 a3 a4 a5 a6 v10 0 ([]:List (List Int)) 0) (qPD E a1 a2 a3 a4 a5 a6 v10 FUEL 0 ([]:List (List Int)) 0 o34 rfl h35)) ?_;obtain⟨v36,h37,hm⟩:=qC hm;refine s_vu [qc 1 [110] 8 (LZ a1 v36 h37)] 8 [] [(24,vp 8 0)] [] [(8,bx 53 [ci 0,ci v36])] (q_sq ?_)
  refine s_vv [] 9 [15] [(113,vi (w64 (a4.X.B-a4.X.A))),(114,vi 0)] (q_fu [.ownB 6 5 9 3 1 (rf qE [])] [] [] [6] [(6,bx 123 [ci (w64 (a4.X.B-a4.X.A)),ci a5.Kerf,ci 1,.own 4 0 1 v10.1.length,.own 7 0 1 o34.length,.own 9 0 1 0,.emp]),(9,ro 0 3 1 0 (rf qE []))] o0 ?_);refine q_fu [.ownB 6 6 10 3 1 (rf qE [])] [] [] [6] [(6,bx 123 [ci (w64 (a4.X.B-a4.X.A)),ci a5.Kerf,ci 1,.own 4 0 1 v10.1.length,.own 7 0 1 o34.length,.own 9 0 1 0,.own 10 0 1 0]),(10,ro 0 3 1 0 (rf qE []))] o0 ?_;obtain⟨o50,h51,hm⟩:=qC hm
  refine zI (nd f172 4084) 4 (by kernel_rfl) FUEL (λo=>qHR a4 a5 v10 o34 o.1 o.2) o50 (q_hl (qBu a1 a4 a5 a6 v10 o34 v36 0 ([]:List Int) 0 ([]:List Int) 0) (qPN E a1 a4 a5 a6 v10 o34 v36 FUEL 0 ([]:List Int) 0 ([]:List Int) 0 o50 rfl rfl h51)) (s_vu [] 11 [18] [(13,vi 0)] [3,6] [(3,bx 123 [ci (w64 (a4.X.B-a4.X.A)),ci a5.Kerf,ci 1,.own 4 0 1 v10.1.length,.own 7 0 1 o34.length,.own 9 0 1 o50.1.length,.own 10 0 1 o50.2.length])] ?_);obtain rfl:=oi hm;refine q_sw 4 0 (q_sw 7 1 ?_);refine q_sw 9 2 (q_sw 10 3 ?_);exact q_rt q_rm
def qM8 (r:Int):V:=vi r
def qN9 (r:Int):List (Nat×(Nat×O)):=[]
theorem qDV (a1:Line) (a2:Int) (r:Int) (hm:RE a1 a2=some r):CtX Tryz.prog globs 115 0 0 [.agg (QJ a1),.one (ci a2)] [] (qM8 r) (qN9 r):=by
 unfold RE at hm;refine q_E f115 16 λE=>?_;refine s_vn [] 0 ⟨[(1,vi a2),(2,vp 0 0)],[(0,bx 123 (QJ a1))]⟩ (q_sq ?_);refine s_va 1 [(8,vb (a2==a1.Len))] (q_cq hm (λhm=>?_) (λhm=>?_))
 ·refine s_vn [] 1 ⟨[(4,vi (-1))],[]⟩ ?_;obtain rfl:=oi hm;exact q_rt q_rm
 ·refine q_sk (s_vn [] 1 ⟨[(4,vi (imin (w64 (a2+a1.Kerf)) a1.Len))],[]⟩ ?_);obtain rfl:=oi hm;exact q_rt q_rm
def qOu (r:Int):V:=vi r
def qNx (r:Int):List (Nat×(Nat×O)):=[]
theorem qMf (a1:Line) (a2:Int) (r:Int) (hm:qCm a1 a2=some r):CtX Tryz.prog globs 179 0 0 [.agg (QJ a1),.one (ci a2)] [] (qOu r) (qNx r):=by
 unfold qCm at hm;refine q_E f179 11 λE=>?_;refine s_vn [] 0 ⟨[(1,vi a2),(2,vp 0 0)],[(0,bx 123 (QJ a1))]⟩ (s_vn [] 1 ⟨[(4,vi (imax 0 (w64 ((w64 (a1.Len-a2))+1))))],[]⟩ ?_);obtain rfl:=oi hm;exact q_rt q_rm
def HP (r:Int):V:=vi r
def HM (r:Int):List (Nat×(Nat×O)):=[]
def qIj (a1:Line) (x10:Int) (x14:Bool):St:=
 ⟨[(38,vc (tl qE du a1.Sizes)),(39,vi (a1.Sizes.length:Int)),(40,vi x10),(49,vb x14)],[]⟩
def DK (a1:Line) (x10:Int):St:=
 ⟨[(38,vc (tl qE du a1.Sizes)),(39,vi (a1.Sizes.length:Int)),(40,vi x10)],[]⟩
def CW :St:=
 ⟨[],[]⟩
def qIb (a1:Line) (x7:Bool):St:=
 ⟨[(1,vp 0 0),(32,vb x7)],[(0,bx 123 (QJ a1))]⟩
theorem qG9 (E:Env 0) (a1:Line):∀(n:Nat) (x10:Int) (res:Int⊕Unit),jQ a1 n x10=some res->HL (kx E 51 0) (nd f178 244) (wY 0 (λo=>CW) (λv st=>RetQ Tryz.prog f178 (HP v) (HM v) .ret st) res) n (DK a1 x10):=by
 intro n
 induction n with
 |zero=>
  intro x10 res hm;cases hm
 |succ n ih=>
  intro x10 res hm;refine qU (s_va 1 [(41,vb (decide (x10<(a1.Sizes.length:Int))))] ?_);refine q_sq (q_cq hm (λhm=>?_) (λhm=>?_))
  ·refine q_sk (q_sq ?_);refine q_bk 1 ?_;obtain⟨g12,hm⟩:=qJ hm;refine s_vv [qi 0 g12] 1 [41] [(4,vi (a1.Sizes.getD x10.toNat du))] (q_jn (qIj a1 x10) (λp=>TF x10 (jQ a1 n) p=some res) ?_ ?_)
   ·rintro x14 hm;refine q_cq hm (λhm=>?_) (λhm=>?_)
    ·refine s_vn [] 1 ⟨[(2,vi 9)],[]⟩ ?_;obtain rfl:=oi hm;refine q_rt (zQ 9 ?_);exact q_rm
    ·refine q_sk (q_vv [] 1 [40,49] [(40,vi (w64 (x10+1)))] ?_);exact q_hl (DK a1 (w64 (x10+1))) (ih (w64 (x10+1)) _ hm)
   ·rcases bif_c hm with⟨b13,hm⟩|⟨b13,hm⟩
    ·exact q_vv [qf 2 b13] 1 [4] [(49,vb true)] (q_J (true) hm)
    ·exact q_vv [qf 2 b13] 1 [4] [(49,vb (decide ((a1.Sizes.getD x10.toNat du)>2000)))] (q_J (decide ((a1.Sizes.getD x10.toNat du)>2000)) hm)
  ·refine q_ex 0 ?_;obtain rfl:=oi hm;exact q_l1 ()
theorem qJV (a1:Line) (r:Int) (hm:RH a1=some r):CtX Tryz.prog globs 178 0 0 [.agg (QJ a1)] [] (HP r) (HM r):=by
 unfold RH at hm;refine q_E f178 51 λE=>?_;refine s_vn [] 0 ⟨[(1,vp 0 0)],[(0,bx 123 (QJ a1))]⟩ (q_sq ?_);refine q_jn (qIb a1) (λp=>jP a1 p=some r) ?_ ?_
 ·rintro x7 hm;refine q_cq hm (λhm=>?_) (λhm=>?_)
  ·refine s_vn [] 1 ⟨[(2,vi 9)],[]⟩ ?_;obtain rfl:=oi hm;exact q_rt q_rm
  ·refine q_sk (q_sq ?_);refine s_vv [] 1 [32] [(36,vb (decide ((a1.Sizes.length:Int)>32)))] (q_cq hm (λhm=>?_) (λhm=>?_))
   ·refine s_vn [] 1 ⟨[(2,vi 4)],[]⟩ ?_;obtain rfl:=oi hm;exact q_rt q_rm
   ·refine q_sk (q_sq ?_);refine s_vn [] 1 ⟨[(38,vc (tl qE du a1.Sizes)),(39,vi (a1.Sizes.length:Int)),(40,vi 0)],[]⟩ ?_;obtain⟨u18,h17,hm⟩:=qC hm;refine zY (nd f178 244) 0 (by kernel_rfl) FUEL (λo=>CW) (λv st=>RetQ Tryz.prog f178 (HP v) (HM v) .ret st) u18 (q_hl (DK a1 0) (qG9 E a1 FUEL 0 u18 h17)) ?_ ?_
    ·rintro v19 rfl st hr;obtain rfl:=oi hm;exact hr
    ·rintro o16 rfl;replace hm:_=some r:=hm;refine s_vn [] 1 ⟨[(2,vi 0)],[]⟩ ?_;obtain rfl:=oi hm;exact q_rt q_rm
 ·rcases bif_c hm with⟨b2,hm⟩|⟨b2,hm⟩
  ·exact q_vv [qf 3 b2] 1 [] [(32,vb true)] (q_J (true) hm)
  ·rcases bif_c hm with⟨b3,hm⟩|⟨b3,hm⟩
   ·exact q_vv [qf 3 b2,qf 8 b3] 1 [] [(32,vb true)] (q_J (true) hm)
   ·rcases bif_c hm with⟨b4,hm⟩|⟨b4,hm⟩
    ·exact q_vv [qf 3 b2,qf 8 b3,qf 13 b4] 1 [] [(32,vb true)] (q_J (true) hm)
    ·rcases bif_c hm with⟨b5,hm⟩|⟨b5,hm⟩
     ·exact q_vv [qf 3 b2,qf 8 b3,qf 13 b4,qf 18 b5] 1 [] [(32,vb true)] (q_J (true) hm)
     ·rcases bif_c hm with⟨b6,hm⟩|⟨b6,hm⟩
      ·exact q_vv [qf 3 b2,qf 8 b3,qf 13 b4,qf 18 b5,qf 23 b6] 1 [] [(32,vb true)] (q_J (true) hm)
      ·exact q_vv [qf 3 b2,qf 8 b3,qf 13 b4,qf 18 b5,qf 23 b6] 1 [] [(32,vb (decide (a1.Pitch>2000)))] (q_J (decide (a1.Pitch>2000)) hm)
def KH (r:Bool):V:=vb r
def ZK (r:Bool):List (Nat×(Nat×O)):=[]
theorem qOU (r:Bool):QQ (ZK r):=by
 intro i k o h;unfold ZK at h;cases h
def qA9 (a1:List (List Int)) (x2:Int) (x5:Int):St:=
 ⟨[(7,vc (tl (qW qE) du a1)),(8,vi (a1.length:Int)),(9,vi x2),(13,vc (tl qE du (a1.getD x2.toNat du))),(14,vi ((a1.getD x2.toNat du).length:Int)),(15,vi x5)],[]⟩
def qLq (a1:List (List Int)) (x2:Int) (x5:Int) (x9:Bool):St:=
 (qA9 a1 x2 x5).up [] [(24,vb x9)] [] []
def ML (a1:List (List Int)) (x2:Int) (x5:Int):St:=
 (qA9 a1 x2 x5).up [] [] [] []
def qDd (a1:List (List Int)) (x2:Int):St:=
 ⟨[(7,vc (tl (qW qE) du a1)),(8,vi (a1.length:Int)),(9,vi x2)],[]⟩
def SG (a1:List (List Int)) (x2:Int):St:=
 ⟨[(7,vc (tl (qW qE) du a1)),(8,vi (a1.length:Int)),(9,vi x2)],[]⟩
def qCT :St:=
 ⟨[],[]⟩
theorem qJ5 (E:Env 0) (a1:List (List Int)) (x2:Int):∀(n:Nat) (x5:Int) (res:Bool⊕Unit),QT a1 x2 n x5=some res->HL (kx E 27 0) (nd f180 13516) (wY 2 (λo=>qDd a1 x2) (λv st=>RetQ Tryz.prog f180 (KH v) (ZK v) .ret st) res) n (ML a1 x2 x5):=by
 intro n
 induction n with
 |zero=>
  intro x5 res hm;cases hm
 |succ n ih=>
  intro x5 res hm;refine qU (s_va 0 [(16,vb (decide (x5<((a1.getD x2.toNat du).length:Int))))] ?_);refine q_sq (q_cq hm (λhm=>?_) (λhm=>?_))
  ·refine q_sk (q_sq ?_);refine q_bk 3 ?_;obtain⟨g7,hm⟩:=qJ hm;refine s_vv [qi 0 g7] 0 [16] [(6,vi ((a1.getD x2.toNat du).getD x5.toNat du))] (q_jn (qLq a1 x2 x5) (λp=>BX x5 (QT a1 x2 n) p=some res) ?_ ?_)
   ·rintro x9 hm;refine q_cq hm (λhm=>?_) (λhm=>?_)
    ·refine s_vn [] 0 ⟨[(2,vb false)],[]⟩ ?_;obtain rfl:=oi hm;refine q_rt (zQ false ?_);exact q_rm
    ·refine q_sk (q_vv [] 0 [15,24] [(15,vi (w64 (x5+1)))] ?_);exact q_hl (ML a1 x2 (w64 (x5+1))) (ih (w64 (x5+1)) _ hm)
   ·rcases bif_c hm with⟨b8,hm⟩|⟨b8,hm⟩
    ·exact q_vv [qf 2 b8] 0 [6] [(24,vb true)] (q_J (true) hm)
    ·exact q_vv [qf 2 b8] 0 [6] [(24,vb (decide (((a1.getD x2.toNat du).getD x5.toNat du)>1125899906842624)))] (q_J (decide (((a1.getD x2.toNat du).getD x5.toNat du)>1125899906842624)) hm)
  ·refine q_ex 2 ?_;obtain rfl:=oi hm;exact q_l1 ()
theorem qJP (E:Env 0) (a1:List (List Int)):∀(n:Nat) (x2:Int) (res:Bool⊕Unit),YY a1 n x2=some res->HL (kx E 27 0) (nd f180 52) (wY 0 (λo=>qCT) (λv st=>RetQ Tryz.prog f180 (KH v) (ZK v) .ret st) res) n (SG a1 x2):=by
 intro n
 induction n with
 |zero=>
  intro x2 res hm;cases hm
 |succ n ih=>
  intro x2 res hm;refine qU (s_va 0 [(10,vb (decide (x2<(a1.length:Int))))] ?_);refine q_sq (q_cq hm (λhm=>?_) (λhm=>?_))
  ·refine q_sk (q_sq ?_);refine q_bk 1 ?_;obtain⟨g4,hm⟩:=qJ hm;refine s_vv [qi 0 g4] 0 [10] [(4,vc (tl qE du (a1.getD x2.toNat du)))] (s_vv [] 0 [4] [(13,vc (tl qE du (a1.getD x2.toNat du))),(14,vi ((a1.getD x2.toNat du).length:Int)),(15,vi 0)] ?_);obtain⟨u13,h12,hm⟩:=qC hm;refine zY (nd f180 13516) 2 (by kernel_rfl) FUEL (λo=>qDd a1 x2) (λv st=>RetQ Tryz.prog f180 (KH v) (ZK v) .ret st) u13 (q_hl (ML a1 x2 0) (qJ5 E a1 x2 FUEL 0 u13 h12)) ?_ ?_
   ·rintro v14 rfl st hr;obtain rfl:=oi hm;exact zQ v14 hr
   ·rintro o11 rfl;replace hm:_=some res:=hm;exact q_vv [] 0 [9] [(9,vi (w64 (x2+1)))] (q_hl (SG a1 (w64 (x2+1))) (ih (w64 (x2+1)) _ hm))
  ·refine q_ex 0 ?_;obtain rfl:=oi hm;exact q_l1 ()
theorem CC (a1:List (List Int)) (r:Bool) (hm:TU a1=some r):CtX Tryz.prog globs 180 0 0 [.one (tl (qW qE) du a1)] [] (KH r) (ZK r):=by
 unfold TU at hm;refine q_E f180 27 λE=>?_;refine s_vn [] 0 ⟨[(0,vc (tl (qW qE) du a1))],[]⟩ (q_sq ?_);refine s_vn [] 0 ⟨[(7,vc (tl (qW qE) du a1)),(8,vi (a1.length:Int)),(9,vi 0)],[]⟩ ?_;obtain⟨u17,h16,hm⟩:=qC hm;refine zY (nd f180 52) 0 (by kernel_rfl) FUEL (λo=>qCT) (λv st=>RetQ Tryz.prog f180 (KH v) (ZK v) .ret st) u17 (q_hl (SG a1 0) (qJP E a1 FUEL 0 u17 h16)) ?_ ?_
 ·rintro v18 rfl st hr;obtain rfl:=oi hm;exact hr
 ·rintro o15 rfl;replace hm:_=some r:=hm;refine s_vn [] 0 ⟨[(2,vb true)],[]⟩ ?_;obtain rfl:=oi hm;exact q_rt q_rm
def qAO (r:Int):V:=vi r
def qAu (r:Int):List (Nat×(Nat×O)):=[]
def HQ (a1:Line) (x9:Int):St:=
 ⟨[(1,vp 0 0),(35,vc (tl (qW qE) du a1.Gain)),(36,vi (a1.Gain.length:Int)),(37,vi x9)],[(0,bx 123 (QJ a1))]⟩
def qC3 (a1:Line):St:=
 ⟨[(1,vp 0 0)],[(0,bx 123 (QJ a1))]⟩
def qKl (x25:Bool):St:=
 ⟨[(65,vb x25)],[]⟩
def qKA (a1:Line) (x7:Bool):St:=
 ⟨[(1,vp 0 0),(33,vb x7)],[(0,bx 123 (QJ a1))]⟩
theorem qJR (E:Env 0) (a1:Line):∀(n:Nat) (x9:Int) (res:Int⊕Unit),YJ a1 n x9=some res->HL (kx E 66 0) (nd f113 244) (wY 0 (λo=>qC3 a1) (λv st=>RetQ Tryz.prog f113 (qAO v) (qAu v) .ret st) res) n (HQ a1 x9):=by
 intro n
 induction n with
 |zero=>
  intro x9 res hm;cases hm
 |succ n ih=>
  intro x9 res hm;refine qU (s_va 1 [(38,vb (decide (x9<(a1.Gain.length:Int))))] ?_);refine q_sq (q_cq hm (λhm=>?_) (λhm=>?_))
  ·refine q_sk (q_sq ?_);refine q_bk 1 ?_;obtain⟨g11,hm⟩:=qJ hm;refine s_vv [qi 1 g11] 1 [38] [(4,vi x9),(5,vc (tl qE du (a1.Gain.getD x9.toNat du)))] ?_;obtain⟨g12,hm⟩:=qJ hm;obtain⟨v13,h14,hm⟩:=qC hm;refine s_du [qi 6 g12,qc 8 [44,49] 1 (qMf a1 (a1.Sizes.getD x9.toNat du) v13 h14)] [0,1,0,0,8,0,56,120,252,511] 1 [4,5] [(51,vb (((a1.Gain.getD x9.toNat du).length:Int) !=v13))] [] [] (q_cq hm (λhm=>?_) (λhm=>?_))
   ·refine s_vn [] 1 ⟨[(2,vi 19)],[]⟩ ?_;obtain rfl:=oi hm;refine q_rt (zQ 19 ?_);exact q_rm
   ·refine q_sk (q_vv [] 1 [37,51] [(37,vi (w64 (x9+1)))] ?_);exact q_hl (HQ a1 (w64 (x9+1))) (ih (w64 (x9+1)) _ hm)
  ·refine q_ex 0 ?_;obtain rfl:=oi hm;exact q_l1 ()
theorem qNG (a1:Line) (r:Int) (hm:NQ a1=some r):CtX Tryz.prog globs 113 0 0 [.agg (QJ a1)] [] (qAO r) (qAu r):=by
 unfold NQ at hm;refine q_E f113 66 λE=>?_;refine s_vn [] 0 ⟨[(1,vp 0 0)],[(0,bx 123 (QJ a1))]⟩ (q_sq ?_);obtain⟨v2,h3,hm⟩:=qC hm;refine s_vv [qc 1 [6] 1 (qJV a1 v2 h3)] 1 [] [(3,vi v2)] (s_va 1 [(9,vb (v2 !=0))] ?_);refine q_cq hm (λhm=>?_) (λhm=>?_)
 ·refine s_vn [] 1 ⟨[(2,vi v2)],[]⟩ ?_;obtain rfl:=oi hm;exact q_rt q_rm
 ·refine q_sk (q_sq ?_);refine q_jn (qKA a1) (λp=>RP a1 p=some r) ?_ ?_
  ·rintro x7 hm;refine q_cq hm (λhm=>?_) (λhm=>?_)
   ·refine s_vn [] 1 ⟨[(2,vi 19)],[]⟩ ?_;obtain rfl:=oi hm;exact q_rt q_rm
   ·refine q_sk (q_sq ?_);refine s_vv [] 1 [33] [(35,vc (tl (qW qE) du a1.Gain)),(36,vi (a1.Gain.length:Int)),(37,vi 0)] ?_;obtain⟨u18,h17,hm⟩:=qC hm;refine zY (nd f113 244) 0 (by kernel_rfl) FUEL (λo=>qC3 a1) (λv st=>RetQ Tryz.prog f113 (qAO v) (qAu v) .ret st) u18 (q_hl (HQ a1 0) (qJR E a1 FUEL 0 u18 h17)) ?_ ?_
    ·rintro v19 rfl st hr;obtain rfl:=oi hm;exact hr
    ·rintro o16 rfl;replace hm:_=some r:=hm;refine q_sq (q_jn (qKl) (λp=>OO p=some r) ?_ ?_)
     ·rintro x25 hm;refine q_cq hm (λhm=>?_) (λhm=>?_)
      ·refine s_vn [] 2 ⟨[(2,vi 9)],[]⟩ ?_;obtain rfl:=oi hm;exact q_rt q_rm
      ·refine q_sk (s_vn [] 2 ⟨[(2,vi 0)],[]⟩ ?_);obtain rfl:=oi hm;exact q_rt q_rm
     ·obtain⟨v20,h21,hm⟩:=qC hm;rcases bif_c hm with⟨b22,hm⟩|⟨b22,hm⟩
      ·exact q_vn [qc 2 [54] 1 (CC a1.Gain v20 h21),qf 4 b22] 1 ⟨[(65,vb true)],[]⟩ (q_J (true) hm)
      ·obtain⟨v23,h24,hm⟩:=qC hm
       exact q_vn [qc 2 [54] 1 (CC a1.Gain v20 h21),qf 4 b22,qd 9 (drw 1 0 (rf (qW qE) [a1.Chip,a1.Dust])) (litP (qW qE) du 1 (λ_=>rfl) ([a1.Chip,a1.Dust]:List (List Int)) 2 rfl),qd 10 (dex (cen [] [] 2 0 (KH v23) (ZK v23) [57,62] [1])) (wO (K:=(kx E 66 0)) (xs':=[.one (.lst 2 (rf (qW qE) [a1.Chip,a1.Dust]))]) (b:=false) ⟨[(57,vb false),(62,vo 1 0 1 2)],[(1,ro 0 72 1 2 (rf (qW qE) [a1.Chip,a1.Dust]))]⟩ (opAt (rg f113 124) 10) [] [] 2 (o1 (ke 2)) (by simp only[tl,rf,show([a1.Chip,a1.Dust]:List (List Int)).length=2 from rfl]) (CC ([a1.Chip,a1.Dust]:List (List Int)) v23 h24) (.inr ⟨(by kernel_rfl),qOU v23⟩) (by kernel_rfl))] 1 ⟨[(65,vb (!v23))],[]⟩ (q_J (!v23) hm)
  ·rcases bif_c hm with⟨b5,hm⟩|⟨b5,hm⟩
   ·exact q_vv [qf 7 b5] 1 [3,9] [(33,vb true)] (q_J (true) hm)
   ·rcases bif_c hm with⟨b6,hm⟩|⟨b6,hm⟩
    ·exact q_vv [qf 7 b5,qf 15 b6] 1 [3,9] [(33,vb true)] (q_J (true) hm)
    ·exact q_vv [qf 7 b5,qf 15 b6] 1 [3,9] [(33,vb ((a1.Dust.length:Int) !=a1.Len))] (q_J ((a1.Dust.length:Int) !=a1.Len) hm)
end Saw
end Go.SL

import Derived.Test.YtigmogcdifllhaaGreatDoorEBase
import Derived.Test.YtigmogcdifllhaaGreatDoorEFa7
import Derived.Test.YtigmogcdifllhaaGreatDoorEFa6
import Derived.Test.YtigmogcdifllhaaGreatDoorEFa1
import Derived.Test.YtigmogcdifllhaaGreatDoorEFa5
set_option linter.unusedVariables false
set_option linter.unusedSimpArgs false
namespace Go.SL
namespace Saw
open Go.Proofs Go.Proofs.Tryz
set_option maxHeartbeats 4000000
set_option maxRecDepth 100000
def qBs (r:Bool):V:=vb r
def qBk (r:Bool):List (Nat×(Nat×O)):=[]
def qMa (a1:Rect) (x2:Int) (x7:Bool):St:=
 ⟨[(9,va (qT a1)),(10,vi x2),(27,vb x7)],[]⟩
def ER (a1:Rect) (x2:Int):St:=
 ⟨[(9,va (qT a1)),(10,vi x2)],[]⟩
def qD7 :St:=
 ⟨[],[]⟩
theorem qKu (E:Env 0) (a1:Rect):∀(n:Nat) (x2:Int) (res:Bool⊕Unit),yV a1 n x2=some res->HL (kx E 29 0) (nd f278 52) (wL 0 (λo=>qD7) (λv st=>RetQ Tryz.prog f278 (qBs v) (qBk v) .ret st) res) n (ER a1 x2):=by
 intro n
 induction n with
 |zero=>
  intro x2 res hm;cases hm
 |succ n ih=>
  intro x2 res hm;refine qS (s_va 1 [(11,vb (decide (x2<2)))] ?_);refine q_sq (q_cq hm (λhm=>?_) (λhm=>?_))
  ·refine q_sk (q_sq ?_);refine q_bk 1 ?_;obtain⟨g4,hm⟩:=qJ hm;refine s_vu [qi 0 g4] 1 [11] [(4,vp 1 0)] [] [(1,bx 53 [ci (([a1.X.A,a1.X.B,a1.Y.A,a1.Y.B]:List Int).getD (x2.toNat*2+0) 0),ci (([a1.X.A,a1.X.B,a1.Y.A,a1.Y.B]:List Int).getD (x2.toNat*2+1) 0)])] (q_jn (qMa a1 x2) (λp=>UZ x2 (yV a1 n) p=some res) ?_ ?_)
   ·rintro x7 hm;refine q_cq hm (λhm=>?_) (λhm=>?_)
    ·refine s_vn [] 2 ⟨[(2,vb false)],[]⟩ ?_;obtain rfl:=oi hm;refine q_rt (zJ false ?_);exact q_rm
    ·refine q_sk (q_vv [] 2 [10,27] [(10,vi (w64 (x2+1)))] ?_);exact q_hl (ER a1 (w64 (x2+1))) (ih (w64 (x2+1)) _ hm)
   ·rcases bif_c hm with⟨b5,hm⟩|⟨b5,hm⟩
    ·exact q_vu [qf 3 b5] 2 [4] [(27,vb true)] [1] [] (q_J (true) hm)
    ·rcases bif_c hm with⟨b6,hm⟩|⟨b6,hm⟩
     ·exact q_vu [qf 3 b5,qf 8 b6] 2 [4] [(27,vb true)] [1] [] (q_J (true) hm)
     ·exact q_vu [qf 3 b5,qf 8 b6] 2 [4] [(27,vb (decide ((([a1.X.A,a1.X.B,a1.Y.A,a1.Y.B]:List Int).getD (x2.toNat*2+0) 0)≥(([a1.X.A,a1.X.B,a1.Y.A,a1.Y.B]:List Int).getD (x2.toNat*2+1) 0))))] [1] [] (q_J (decide ((([a1.X.A,a1.X.B,a1.Y.A,a1.Y.B]:List Int).getD (x2.toNat*2+0) 0)≥(([a1.X.A,a1.X.B,a1.Y.A,a1.Y.B]:List Int).getD (x2.toNat*2+1) 0))) hm)
  ·refine q_ex 0 ?_;obtain rfl:=oi hm;exact q_l1 ()
theorem qOG (a1:Rect) (r:Bool) (hm:MF a1=some r):CtX Tryz.prog globs 278 0 0 [.agg (qT a1)] [] (qBs r) (qBk r):=by
 unfold MF at hm;refine q_E f278 29 λE=>?_;refine s_vn [] 0 ⟨[(1,vp 0 0)],[(0,bx 55 (qT a1))]⟩ (q_sq ?_);refine s_vn [] 1 ⟨[(9,va (qT a1)),(10,vi 0)],[]⟩ ?_;obtain⟨u11,h10,hm⟩:=qC hm;refine zO (nd f278 52) 0 (by kernel_rfl) FUEL (λo=>qD7) (λv st=>RetQ Tryz.prog f278 (qBs v) (qBk v) .ret st) u11 (q_hl (ER a1 0) (qKu E a1 FUEL 0 u11 h10)) ?_ ?_
 ·rintro v12 rfl st hr;obtain rfl:=oi hm;exact hr
 ·rintro o9 rfl;replace hm:_=some r:=hm;refine s_vn [] 1 ⟨[(2,vb true)],[]⟩ ?_;obtain rfl:=oi hm;exact q_rt q_rm
def qU9 (r:zF×Bool):V:= .tup [.agg [cs r.1.product.Name,ci r.1.product.Thick,ci r.1.product.Width,ci r.1.product.Allow,ci r.1.product.Wane,tl qD dd r.1.product.Lengths,tl qD dd r.1.product.Prices,ci r.1.rect.X.A,ci r.1.rect.X.B,ci r.1.rect.Y.A,ci r.1.rect.Y.B,ci r.1.length,.own 0 0 3 r.1.zones.length,.own 1 0 7 r.1.defects.length],.one (cb r.2)]
def qVJ (r:zF×Bool):List (Nat×(Nat×O)):=[(0,ro 0 305 3 r.1.zones.length (rf zH r.1.zones)),(1,ro 0 87 7 r.1.defects.length (rf qM r.1.defects))]
def EI (v25:(List qY)):St:=
 ⟨[(8,vp 2 0),(13,vp 6 0)],[(2,bx 282 [cs (ByteArray.mk #[]),ci 0,ci 0,ci 0,ci 0,.emp,.emp,ci 0,ci 0,ci 0,ci 0,ci 0,.emp,.emp]),(5,ro 0 305 3 v25.length (rf zH v25))]⟩
def qDM (a1:List qN) (a2:List qG) (a3:qE) (a4:Rect):St:=
 ⟨[(0,vc (tl qR dd a1)),(1,vc (tl qM dd a2)),(6,vp 0 0),(7,vp 1 0),(8,vp 2 0)],[(0,bx 74 (qP a3)),(1,bx 55 (qT a4)),(2,bx 282 [cs (ByteArray.mk #[]),ci 0,ci 0,ci 0,ci 0,.emp,.emp,ci 0,ci 0,ci 0,ci 0,ci 0,.emp,.emp])]⟩
def qFZ (a2:List qG) (a3:qE) (a4:Rect) (v23:Int) (v25:(List qY)) (v27:Box) (x29:Int) (l37:List qG) (l37n:Nat):St:=
 (EI v25).up [] [(14,vp 7 0),(83,vc (tl qM dd a2)),(84,vi (a2.length:Int)),(85,vi x29)] [] [(6,bx 282 [cs a3.Name,ci a3.Thick,ci a3.Width,ci a3.Allow,ci a3.Wane,tl qD dd a3.Lengths,tl qD dd a3.Prices,ci a4.X.A,ci a4.X.B,ci a4.Y.A,ci a4.Y.B,ci v23,.own 5 0 3 v25.length,.own 8 0 7 l37n]),(7,bx 85 (ZJ v27)),(8,ro 0 87 7 l37n (rf qM l37))]
def qA1 (a2:List qG) (a3:qE) (a4:Rect) (v23:Int) (v25:(List qY)) (v27:Box) (x29:Int) (l30:List qG) (l30n:Nat):St:=
 (EI v25).up [] [(14,vp 7 0),(83,vc (tl qM dd a2)),(84,vi (a2.length:Int)),(85,vi x29)] [] [(6,bx 282 [cs a3.Name,ci a3.Thick,ci a3.Width,ci a3.Allow,ci a3.Wane,tl qD dd a3.Lengths,tl qD dd a3.Prices,ci a4.X.A,ci a4.X.B,ci a4.Y.A,ci a4.Y.B,ci v23,.own 5 0 3 v25.length,.own 8 0 7 l30n]),(7,bx 85 (ZJ v27)),(8,ro 0 87 7 l30n (rf qM l30))]
def qFS (a3:qE) (a4:Rect) (v23:Int) (v25:(List qY)) (l38:List qG):St:=
 (EI v25).up [] [] [] [(6,bx 282 [cs a3.Name,ci a3.Thick,ci a3.Width,ci a3.Allow,ci a3.Wane,tl qD dd a3.Lengths,tl qD dd a3.Prices,ci a4.X.A,ci a4.X.B,ci a4.Y.A,ci a4.Y.B,ci v23,.own 5 0 3 v25.length,.own 8 0 7 l38.length]),(8,ro 0 87 7 l38.length (rf qM l38))]
def qOs (a1:List qN) (a2:List qG) (a3:qE) (a4:Rect) (x21:Bool):St:=
 (qDM a1 a2 a3 a4).up [] [(68,vb x21)] [] []
def qO6 (a1:List qN) (a2:List qG) (a3:qE) (a4:Rect) (x16:Bool):St:=
 (qDM a1 a2 a3 a4).up [] [(35,vb x16)] [] []
theorem qN7 (E:Env 0) (a2:List qG) (a3:qE) (a4:Rect) (v23:Int) (v25:(List qY)) (v27:Box):∀(n:Nat) (x29:Int) (l30:List qG) (l30n:Nat) (res:(List qG)),l30.length=l30n->JH a2 v27 n x29 l30=some res->HL (kx E 100 0) (nd f263 4084) (zL 0 (λo=>qFS a3 a4 v23 v25 o) res) n (qA1 a2 a3 a4 v23 v25 v27 x29 l30 l30n):=by
 intro n
 induction n with
 |zero=>
  intro x29 l30 l30n res hl0 hm;cases hm
 |succ n ih=>
  intro x29 l30 l30n res hl0 hm;subst hl0;refine qS (s_va 9 [(86,vb (decide (x29<(a2.length:Int))))] ?_);refine q_sq (q_cq hm (λhm=>?_) (λhm=>?_))
  ·refine q_sk (q_jn (ι:=(List qG)×Nat) (λp=>qFZ a2 a3 a4 v23 v25 v27 x29 p.1 p.2) (λp=>p.1.length=p.2/\qDE x29 (JH a2 v27 n) p.1=some res) ?_ ?_)
   ·rintro⟨l37,l37n⟩ ⟨el37,hm⟩;replace el37:l37.length=l37n:=el37;subst el37;show H _ (qFZ a2 a3 a4 v23 v25 v27 x29 l37 l37.length) _ _;exact q_vv [] 11 [85] [(85,vi (w64 (x29+1)))] (q_hl (qA1 a2 a3 a4 v23 v25 v27 (w64 (x29+1)) l37 l37.length) (ih (w64 (x29+1)) l37 l37.length _ rfl hm))
   ·refine q_bk 1 ?_;obtain⟨g32,hm⟩:=qJ hm;refine s_vu [qi 0 g32] 9 [86] [(16,vp 9 0)] [] [(9,bx 87 (qM (a2.getD x29.toNat dd)))] ?_;obtain⟨v33,h34,hm⟩:=qC hm;refine s_vv [qc 2 [89,90] 10 (qD2 (a2.getD x29.toNat dd) v27 v33 h34)] 10 [] [(91,vb v33)] (q_cq hm (λhm=>?_) (λhm=>?_))
    ·obtain⟨g36,hm⟩:=qJ hm
     exact q_vu [qd 3 (drw 10 0 (rf qM [(a2.getD x29.toNat dd)])) (litP qM dd 7 (λ_=>rfl) ([(a2.getD x29.toNat dd)]:List qG) 1 rfl),qd 4 (drw 8 1 (rf qM (l30++[(a2.getD x29.toNat dd)]))) (apP qM dd l30 ([(a2.getD x29.toNat dd)]:List qG) l30.length 1 7 56 (1<=1) (ke _) rfl rfl (λ_=>rfl) (wA g36))] 10 [16,91] [] [6,8,9] [(6,bx 282 [cs a3.Name,ci a3.Thick,ci a3.Width,ci a3.Allow,ci a3.Wane,tl qD dd a3.Lengths,tl qD dd a3.Prices,ci a4.X.A,ci a4.X.B,ci a4.Y.A,ci a4.Y.B,ci v23,.own 5 0 3 v25.length,.own 8 1 7 (l30.length+1)]),(8,ro 1 87 7 (l30.length+1) (rf qM (l30++[(a2.getD x29.toNat dd)])))] (q_J ((l30++[(a2.getD x29.toNat dd)]),(l30.length+1)) ⟨(wB rfl rfl),hm⟩)
    ·exact q_sk (q_J (l30,l30.length) ⟨rfl,hm⟩)
  ·refine q_ex 0 ?_;obtain rfl:=oi hm;exact q_l0
theorem qTc (a1:List qN) (a2:List qG) (a3:qE) (a4:Rect) (r:zF×Bool) (hm:qAJ a1 a2 a3 a4=some r):CtX Tryz.prog globs 263 0 0 [.one (tl qR dd a1),.one (tl qM dd a2),.agg (qP a3),.agg (qT a4)] [] (qU9 r) (qVJ r):=by
 unfold qAJ at hm;refine q_E f263 100 λE=>?_;refine s_vn [] 0 ⟨[(0,vc (tl qR dd a1)),(1,vc (tl qM dd a2)),(6,vp 0 0),(7,vp 1 0),(8,vp 2 0)],[(0,bx 74 (qP a3)),(1,bx 55 (qT a4)),(2,bx 282 [cs (ByteArray.mk #[]),ci 0,ci 0,ci 0,ci 0,.emp,.emp,ci 0,ci 0,ci 0,ci 0,ci 0,.emp,.emp])]⟩ (q_sq ?_);refine q_jn (qO6 a1 a2 a3 a4) (λp=>TG a1 a2 a3 a4 p=some r) ?_ ?_
 ·rintro x16 hm;refine q_cq hm (λhm=>?_) (λhm=>?_)
  ·refine s_vu [] 4 [0,1,6,7,35] [(9,vb false)] [0,1] [] (q_fu [.ownB 2 5 4 3 1 (rf qD [])] [] [] [2] [(2,bx 282 [cs (ByteArray.mk #[]),ci 0,ci 0,ci 0,ci 0,.own 4 0 1 0,.emp,ci 0,ci 0,ci 0,ci 0,ci 0,.emp,.emp]),(4,ro 0 3 1 0 (rf qD []))] o0 ?_)
   refine q_fu [.ownB 2 6 5 3 1 (rf qD [])] [] [] [2] [(2,bx 282 [cs (ByteArray.mk #[]),ci 0,ci 0,ci 0,ci 0,.own 4 0 1 0,.own 5 0 1 0,ci 0,ci 0,ci 0,ci 0,ci 0,.emp,.emp]),(5,ro 0 3 1 0 (rf qD []))] o0 (q_fu [.ownB 2 12 6 305 3 (rf zH [])] [] [] [2] [(2,bx 282 [cs (ByteArray.mk #[]),ci 0,ci 0,ci 0,ci 0,.own 4 0 1 0,.own 5 0 1 0,ci 0,ci 0,ci 0,ci 0,ci 0,.own 6 0 3 0,.emp]),(6,ro 0 305 3 0 (rf zH []))] o0 ?_)
   refine q_fu [.ownB 2 13 7 87 7 (rf qM [])] [] [] [2] [(2,bx 282 [cs (ByteArray.mk #[]),ci 0,ci 0,ci 0,ci 0,.own 4 0 1 0,.own 5 0 1 0,ci 0,ci 0,ci 0,ci 0,ci 0,.own 6 0 3 0,.own 7 0 7 0]),(7,ro 0 87 7 0 (rf qM []))] o0 (q_fu [.len 4 (([]:List Int).length),.frz 4] [] [] [2,4] [(2,bx 282 [cs (ByteArray.mk #[]),ci 0,ci 0,ci 0,ci 0,tl qD dd ([]:List Int),.own 5 0 1 0,ci 0,ci 0,ci 0,ci 0,ci 0,.own 6 0 3 0,.own 7 0 7 0])] (o1 (And.intro (And.intro (show 0=([]:List Int).length from rfl) (show 0=([]:List Int).length from rfl)) (ke (([]:List Int).length)))) ?_)
   refine q_fu [.len 5 (([]:List Int).length),.frz 5] [] [] [2,5] [(2,bx 282 [cs (ByteArray.mk #[]),ci 0,ci 0,ci 0,ci 0,tl qD dd ([]:List Int),tl qD dd ([]:List Int),ci 0,ci 0,ci 0,ci 0,ci 0,.own 6 0 3 0,.own 7 0 7 0])] (o1 (And.intro (And.intro (show 0=([]:List Int).length from rfl) (show 0=([]:List Int).length from rfl)) (ke (([]:List Int).length)))) (q_fu [.len 6 (([]:List qY).length)] [] [] [2,6] [(2,bx 282 [cs (ByteArray.mk #[]),ci 0,ci 0,ci 0,ci 0,tl qD dd ([]:List Int),tl qD dd ([]:List Int),ci 0,ci 0,ci 0,ci 0,ci 0,.own 6 0 3 (([]:List qY).length),.own 7 0 7 0]),(6,ro 0 305 3 (([]:List qY).length) (rf zH []))] (o1 (And.intro (show 0=([]:List qY).length from rfl) (show 0=([]:List qY).length from rfl))) ?_)
   refine q_fu [.len 7 (([]:List qG).length)] [] [] [2,7] [(2,bx 282 [cs (ByteArray.mk #[]),ci 0,ci 0,ci 0,ci 0,tl qD dd ([]:List Int),tl qD dd ([]:List Int),ci 0,ci 0,ci 0,ci 0,ci 0,.own 6 0 3 (([]:List qY).length),.own 7 0 7 (([]:List qG).length)]),(7,ro 0 87 7 (([]:List qG).length) (rf qM []))] (o1 (And.intro (show 0=([]:List qG).length from rfl) (show 0=([]:List qG).length from rfl))) ?_;obtain rfl:=oi hm;refine q_sw 6 0 (q_sw 7 1 ?_);exact q_rt q_rm
  ·refine q_sk ?_;obtain⟨v18,h19,hm⟩:=qC hm;refine s_vv [qc 1 [38] 4 (DX a3 v18 h19)] 4 [35] [(10,vi v18.1),(11,vi v18.2)] (s_vu [] 4 [] [(12,vp 4 0)] [] [(4,bx 213 [ci (w64 (a4.X.B-a4.X.A)),ci (w64 (a4.Y.B-a4.Y.A))])] ?_);refine q_sq (q_jn (qOs a1 a2 a3 a4) (λp=>BZ a1 a2 a3 a4 p=some r) ?_ ?_)
   ·rintro x21 hm;refine q_cq hm (λhm=>?_) (λhm=>?_)
    ·refine s_vu [] 5 [0,1,6,7,68] [(9,vb false)] [0,1] [] (q_fu [.ownB 2 5 5 3 1 (rf qD [])] [] [] [2] [(2,bx 282 [cs (ByteArray.mk #[]),ci 0,ci 0,ci 0,ci 0,.own 5 0 1 0,.emp,ci 0,ci 0,ci 0,ci 0,ci 0,.emp,.emp]),(5,ro 0 3 1 0 (rf qD []))] o0 ?_)
     refine q_fu [.ownB 2 6 6 3 1 (rf qD [])] [] [] [2] [(2,bx 282 [cs (ByteArray.mk #[]),ci 0,ci 0,ci 0,ci 0,.own 5 0 1 0,.own 6 0 1 0,ci 0,ci 0,ci 0,ci 0,ci 0,.emp,.emp]),(6,ro 0 3 1 0 (rf qD []))] o0 (q_fu [.ownB 2 12 7 305 3 (rf zH [])] [] [] [2] [(2,bx 282 [cs (ByteArray.mk #[]),ci 0,ci 0,ci 0,ci 0,.own 5 0 1 0,.own 6 0 1 0,ci 0,ci 0,ci 0,ci 0,ci 0,.own 7 0 3 0,.emp]),(7,ro 0 305 3 0 (rf zH []))] o0 ?_)
     refine q_fu [.ownB 2 13 8 87 7 (rf qM [])] [] [] [2] [(2,bx 282 [cs (ByteArray.mk #[]),ci 0,ci 0,ci 0,ci 0,.own 5 0 1 0,.own 6 0 1 0,ci 0,ci 0,ci 0,ci 0,ci 0,.own 7 0 3 0,.own 8 0 7 0]),(8,ro 0 87 7 0 (rf qM []))] o0 (q_fu [.len 5 (([]:List Int).length),.frz 5] [] [] [2,5] [(2,bx 282 [cs (ByteArray.mk #[]),ci 0,ci 0,ci 0,ci 0,tl qD dd ([]:List Int),.own 6 0 1 0,ci 0,ci 0,ci 0,ci 0,ci 0,.own 7 0 3 0,.own 8 0 7 0])] (o1 (And.intro (And.intro (show 0=([]:List Int).length from rfl) (show 0=([]:List Int).length from rfl)) (ke (([]:List Int).length)))) ?_)
     refine q_fu [.len 6 (([]:List Int).length),.frz 6] [] [] [2,6] [(2,bx 282 [cs (ByteArray.mk #[]),ci 0,ci 0,ci 0,ci 0,tl qD dd ([]:List Int),tl qD dd ([]:List Int),ci 0,ci 0,ci 0,ci 0,ci 0,.own 7 0 3 0,.own 8 0 7 0])] (o1 (And.intro (And.intro (show 0=([]:List Int).length from rfl) (show 0=([]:List Int).length from rfl)) (ke (([]:List Int).length)))) (q_fu [.len 7 (([]:List qY).length)] [] [] [2,7] [(2,bx 282 [cs (ByteArray.mk #[]),ci 0,ci 0,ci 0,ci 0,tl qD dd ([]:List Int),tl qD dd ([]:List Int),ci 0,ci 0,ci 0,ci 0,ci 0,.own 7 0 3 (([]:List qY).length),.own 8 0 7 0]),(7,ro 0 305 3 (([]:List qY).length) (rf zH []))] (o1 (And.intro (show 0=([]:List qY).length from rfl) (show 0=([]:List qY).length from rfl))) ?_)
     refine q_fu [.len 8 (([]:List qG).length)] [] [] [2,8] [(2,bx 282 [cs (ByteArray.mk #[]),ci 0,ci 0,ci 0,ci 0,tl qD dd ([]:List Int),tl qD dd ([]:List Int),ci 0,ci 0,ci 0,ci 0,ci 0,.own 7 0 3 (([]:List qY).length),.own 8 0 7 (([]:List qG).length)]),(8,ro 0 87 7 (([]:List qG).length) (rf qM []))] (o1 (And.intro (show 0=([]:List qG).length from rfl) (show 0=([]:List qG).length from rfl))) ?_;obtain rfl:=oi hm;refine q_sw 7 0 (q_sw 8 1 ?_);exact q_rt q_rm
    ·refine q_sk ?_;obtain⟨v23,h24,hm⟩:=qC hm;obtain⟨v25,h26,hm⟩:=qC hm;refine s_du [qc 3 [72] 5 (FL a1 v23 h24),qc 6 [74,75] 5 (qRl a1 a4 v25 h26)] [0,0,0,4,0,0,60,127,0,511] 5 [0,6,7,68] [(13,vp 6 0)] [0,1] [(5,ro 0 305 3 v25.length (rf zH v25)),(6,bx 282 [cs a3.Name,ci a3.Thick,ci a3.Width,ci a3.Allow,ci a3.Wane,tl qD dd a3.Lengths,tl qD dd a3.Prices,ci a4.X.A,ci a4.X.B,ci a4.Y.A,ci a4.Y.B,ci v23,.own 5 0 3 v25.length,.emp])] ?_;obtain⟨v27,h28,hm⟩:=qC hm
     refine s_vu [qd 4 (dex (cen [] [] 7 0 (qEV v27) (BQ v27) [78,81] [5])) (wK (K:=(kx E 100 0)) (b:=false) ⟨[(78,va [cs a3.Name,ci a3.Thick,ci a3.Width,ci a3.Allow,ci a3.Wane,tl qD dd a3.Lengths,tl qD dd a3.Prices,ci a4.X.A,ci a4.X.B,ci a4.Y.A,ci a4.Y.B,ci v23,.own 5 0 3 v25.length,.emp]),(81,va [ci 0,ci v23])],[(5,ro 0 305 3 v25.length (rf zH v25))]⟩ (opAt (rg f263 254) 4) [] [] 7 (o1 (ke v25.length)) rfl (CtX.emp (xs':=[.agg [cs a3.Name,ci a3.Thick,ci a3.Width,ci a3.Allow,ci a3.Wane,tl qD dd a3.Lengths,tl qD dd a3.Prices,ci a4.X.A,ci a4.X.B,ci a4.Y.A,ci a4.Y.B,ci v23,tl zH dd v25,.emp],.agg [ci 0,ci v23]]) (qDJ (zF.mk a3 a4 v23 v25 ([]:List qG)) (Span.mk 0 v23) v27 h28) (And.intro (And.intro rfl (And.intro rfl (And.intro rfl (And.intro rfl (And.intro rfl (And.intro rfl (And.intro rfl (And.intro rfl (And.intro rfl (And.intro rfl (And.intro rfl (And.intro rfl (And.intro rfl (And.intro rfl trivial)))))))))))))) (And.intro (And.intro rfl (And.intro rfl trivial)) trivial))) (.inr ⟨(by kernel_rfl),qNR v27⟩) (by kernel_rfl))] 7 [] [(14,vp 7 0)] [] [(7,bx 85 (ZJ v27))] ?_
     refine q_sq (s_vv [] 8 [1] [(83,vc (tl qM dd a2)),(84,vi (a2.length:Int)),(85,vi 0)] ?_);refine q_fu [.ownB 6 13 8 87 7 (rf qM [])] [] [] [6] [(6,bx 282 [cs a3.Name,ci a3.Thick,ci a3.Width,ci a3.Allow,ci a3.Wane,tl qD dd a3.Lengths,tl qD dd a3.Prices,ci a4.X.A,ci a4.X.B,ci a4.Y.A,ci a4.Y.B,ci v23,.own 5 0 3 v25.length,.own 8 0 7 0]),(8,ro 0 87 7 0 (rf qM []))] o0 ?_;obtain⟨o39,h40,hm⟩:=qC hm
     refine zG (nd f263 4084) 0 (by kernel_rfl) FUEL (λo=>qFS a3 a4 v23 v25 o) o39 (q_hl (qA1 a2 a3 a4 v23 v25 v27 0 ([]:List qG) 0) (qN7 E a2 a3 a4 v23 v25 v27 FUEL 0 ([]:List qG) 0 o39 rfl h40)) (s_vu [] 9 [13] [(9,vb true)] [2,6] [(2,bx 282 [cs a3.Name,ci a3.Thick,ci a3.Width,ci a3.Allow,ci a3.Wane,tl qD dd a3.Lengths,tl qD dd a3.Prices,ci a4.X.A,ci a4.X.B,ci a4.Y.A,ci a4.Y.B,ci v23,.own 5 0 3 v25.length,.own 8 0 7 o39.length])] ?_);obtain rfl:=oi hm;refine q_sw 5 0 (q_sw 8 1 ?_);exact q_rt q_rm
   ·rcases bif_c hm with⟨b20,hm⟩|⟨b20,hm⟩
    ·exact q_vu [qf 5 b20] 5 [10,11,12] [(68,vb (!(((w64 (a4.X.B-a4.X.A))==v18.2)&&(((w64 (a4.Y.B-a4.Y.A))==v18.1)&&true))))] [4] [] (q_J (!(((w64 (a4.X.B-a4.X.A))==v18.2)&&(((w64 (a4.Y.B-a4.Y.A))==v18.1)&&true))) hm)
    ·exact q_vu [qf 5 b20] 5 [10,11,12] [(68,vb false)] [4] [] (q_J (false) hm)
 ·obtain⟨v5,h6,hm⟩:=qC hm;rcases bif_c hm with⟨b7,hm⟩|⟨b7,hm⟩
  ·exact q_vv [qc 1 [17] 3 (YI a1 v5 h6),qf 3 b7] 3 [] [(35,vb true)] (q_J (true) hm)
  ·obtain⟨v8,h9,hm⟩:=qC hm;rcases bif_c hm with⟨b10,hm⟩|⟨b10,hm⟩
   ·exact q_vv [qc 1 [17] 3 (YI a1 v5 h6),qf 3 b7,qk 5 [20,21] 3 ⟨[(20,vb false),(21,vc (tl qM dd a2))],[]⟩ (WY a2 v8 h9),qf 8 b10] 3 [] [(35,vb true)] (q_J (true) hm)
   ·obtain⟨v11,h12,hm⟩:=qC hm;rcases bif_c hm with⟨b13,hm⟩|⟨b13,hm⟩
    ·exact q_vv [qc 1 [17] 3 (YI a1 v5 h6),qf 3 b7,qk 5 [20,21] 3 ⟨[(20,vb false),(21,vc (tl qM dd a2))],[]⟩ (WY a2 v8 h9),qf 8 b10,qd 10 (drw 3 0 (rf qP [a3])) (litP qP dd 7 (λ_=>rfl) ([a3]:List qE) 1 rfl),qd 11 (dex (cen [] [] 4 0 (UN v11) (WS v11) [25,27] [3])) (wK (K:=(kx E 100 0)) (xs':=[.one (.lst 1 (rf qP [a3]))]) (b:=false) ⟨[(25,vb false),(27,vo 3 0 7 1)],[(3,ro 0 74 7 1 (rf qP [a3]))]⟩ (opAt (rg f263 12) 11) [] [] 4 (o1 (ke 1)) (by simp only[tl,rf,show([a3]:List qE).length=1 from rfl]) (YE ([a3]:List qE) v11 h12) (.inr ⟨(by kernel_rfl),qGM v11⟩) (by kernel_rfl)),qf 14 b13] 3 [] [(35,vb true)] (q_J (true) hm)
    ·obtain⟨v14,h15,hm⟩:=qC hm
     refine q_vv [qc 1 [17] 3 (YI a1 v5 h6),qf 3 b7,qk 5 [20,21] 3 ⟨[(20,vb false),(21,vc (tl qM dd a2))],[]⟩ (WY a2 v8 h9),qf 8 b10,qd 10 (drw 3 0 (rf qP [a3])) (litP qP dd 7 (λ_=>rfl) ([a3]:List qE) 1 rfl),qd 11 (dex (cen [] [] 4 0 (UN v11) (WS v11) [25,27] [3])) (wK (K:=(kx E 100 0)) (xs':=[.one (.lst 1 (rf qP [a3]))]) (b:=false) ⟨[(25,vb false),(27,vo 3 0 7 1)],[(3,ro 0 74 7 1 (rf qP [a3]))]⟩ (opAt (rg f263 12) 11) [] [] 4 (o1 (ke 1)) (by simp only[tl,rf,show([a3]:List qE).length=1 from rfl]) (YE ([a3]:List qE) v11 h12) (.inr ⟨(by kernel_rfl),qGM v11⟩) (by kernel_rfl)),qf 14 b13,qk 16 [31,32] 4 ⟨[(31,vb false),(32,va (qT a4))],[]⟩ (qOG a4 v14 h15)] 3 [] [(35,vb (!v14))] ?_
     exact q_J (!v14) hm
def qTG (r:Span×Int×Bool):V:= .tup [.agg (qK r.1),.one (ci r.2.1),.one (cb r.2.2)]
def qUr (r:Span×Int×Bool):List (Nat×(Nat×O)):=[]
def KQ (a3:qE) (a5:Int) (a6:Int) (v14:zF×Bool) (x19:Int):St:=
 ⟨[(4,vi a5),(5,vi a6),(8,vp 0 0),(12,vp 2 0),(15,vp 5 0),(17,vp 6 0),(20,vi x19)],[(0,bx 74 (qP a3)),(2,bx 53 [ci 0,ci 0]),(3,ro 0 305 3 v14.1.zones.length (rf zH v14.1.zones)),(4,ro 0 87 7 v14.1.defects.length (rf qM v14.1.defects)),(5,bx 282 [cs v14.1.product.Name,ci v14.1.product.Thick,ci v14.1.product.Width,ci v14.1.product.Allow,ci v14.1.product.Wane,tl qD dd v14.1.product.Lengths,tl qD dd v14.1.product.Prices,ci v14.1.rect.X.A,ci v14.1.rect.X.B,ci v14.1.rect.Y.A,ci v14.1.rect.Y.B,ci v14.1.length,.own 3 0 3 v14.1.zones.length,.own 4 0 7 v14.1.defects.length])]⟩
def qGD (a3:qE) (a5:Int) (a6:Int) (v14:zF×Bool) (x19:Int) (x24:Int) (x34:Int) (x35:Bool) (x36:Span):St:=
 (KQ a3 a5 a6 v14 x19).up [] [(18,vi x34),(19,vb x35),(54,vc (tl qD dd a3.Lengths)),(55,vi (a3.Lengths.length:Int)),(56,vi x24)] [] [(6,bx 53 (qK x36))]
def qOX (a3:qE) (a5:Int) (a6:Int) (v14:zF×Bool) (x19:Int) (x22:Int) (x23:Bool) (x24:Int) (x25:Span) (v28:Int×Bool) (x32:Bool):St:=
 (KQ a3 a5 a6 v14 x19).up [] [(18,vi x22),(19,vb x23),(23,vp 7 0),(24,vi v28.1),(54,vc (tl qD dd a3.Lengths)),(55,vi (a3.Lengths.length:Int)),(56,vi x24),(81,vb x32)] [] [(6,bx 53 (qK x25)),(7,bx 53 [ci x19,ci (w64 (x19+(a3.Lengths.getD x24.toNat dd)))])]
def qAb (a3:qE) (a5:Int) (a6:Int) (v14:zF×Bool) (x19:Int) (x22:Int) (x23:Bool) (x24:Int) (x25:Span):St:=
 (KQ a3 a5 a6 v14 x19).up [] [(18,vi x22),(19,vb x23),(54,vc (tl qD dd a3.Lengths)),(55,vi (a3.Lengths.length:Int)),(56,vi x24)] [] [(6,bx 53 (qK x25))]
def qGJ (a3:qE) (a5:Int) (a6:Int) (v14:zF×Bool) (x19:Int) (x37:Int) (x38:Bool) (x39:Span):St:=
 (KQ a3 a5 a6 v14 x19).up [] [(18,vi x37),(19,vb x38)] [] [(6,bx 53 (qK x39))]
def qAk (a3:qE) (a5:Int) (a6:Int) (v14:zF×Bool) (x17:Int) (x18:Bool) (x19:Int) (x20:Span):St:=
 (KQ a3 a5 a6 v14 x19).up [] [(18,vi x17),(19,vb x18)] [] [(6,bx 53 (qK x20))]
def qGa (x42:Int) (x43:Bool) (x44:Span):St:=
 ⟨[(12,vp 2 0),(17,vp 6 0),(18,vi x42),(19,vb x43)],[(2,bx 53 [ci 0,ci 0]),(6,bx 53 (qK x44))]⟩
def qOo (a1:List qN) (a2:List qG) (a3:qE) (a4:Rect) (a5:Int) (a6:Int) (x12:Bool):St:=
 ⟨[(0,vc (tl qR dd a1)),(1,vc (tl qM dd a2)),(4,vi a5),(5,vi a6),(8,vp 0 0),(9,vp 1 0),(12,vp 2 0),(33,vb x12)],[(0,bx 74 (qP a3)),(1,bx 55 (qT a4)),(2,bx 53 [ci 0,ci 0])]⟩
theorem qNW (E:Env 0) (a3:qE) (a5:Int) (a6:Int) (v14:zF×Bool) (x19:Int):∀(n:Nat) (x22:Int) (x23:Bool) (x24:Int) (x25:Span) (res:Int×Bool×Span),yP a3 a6 v14 x19 n x22 x23 x24 x25=some res->HL (kx E 88 0) (nd f249 130340) (zL 2 (λo=>qGJ a3 a5 a6 v14 x19 o.1 o.2.1 o.2.2) res) n (qAb a3 a5 a6 v14 x19 x22 x23 x24 x25):=by
 intro n
 induction n with
 |zero=>
  intro x22 x23 x24 x25 res hm;cases hm
 |succ n ih=>
  intro x22 x23 x24 x25 res hm;refine qS (s_va 7 [(57,vb (decide (x24<(a3.Lengths.length:Int))))] ?_);refine q_sq (q_cq hm (λhm=>?_) (λhm=>?_))
  ·refine q_sk (q_jn (ι:=Int×Bool×Span) (λp=>qGD a3 a5 a6 v14 x19 x24 p.1 p.2.1 p.2.2) (λp=>qDk x24 (yP a3 a6 v14 x19 n) p.1 p.2.1 p.2.2=some res) ?_ ?_)
   ·rintro⟨x34,x35,x36⟩ hm;show H _ (qGD a3 a5 a6 v14 x19 x24 x34 x35 x36) _ _;exact q_vv [] 8 [56] [(56,vi (w64 (x24+1)))] (q_hl (qAb a3 a5 a6 v14 x19 x34 x35 (w64 (x24+1)) x36) (ih x34 x35 (w64 (x24+1)) x36 _ hm))
   ·refine q_bk 3 ?_;obtain⟨g27,hm⟩:=qJ hm;refine s_vv [qi 0 g27] 7 [57] [(22,vi (a3.Lengths.getD x24.toNat dd))] (s_vu [] 7 [22] [(23,vp 7 0)] [] [(7,bx 53 [ci x19,ci (w64 (x19+(a3.Lengths.getD x24.toNat dd)))])] ?_);obtain⟨v28,h29,hm⟩:=qC hm
    refine s_vv [qd 3 (dex (cen [] [] 8 0 (UE v28) (WA v28) [66,67,68] [3,4])) (wK (K:=(kx E 88 0)) (b:=false) ⟨[(66,va [cs v14.1.product.Name,ci v14.1.product.Thick,ci v14.1.product.Width,ci v14.1.product.Allow,ci v14.1.product.Wane,tl qD dd v14.1.product.Lengths,tl qD dd v14.1.product.Prices,ci v14.1.rect.X.A,ci v14.1.rect.X.B,ci v14.1.rect.Y.A,ci v14.1.rect.Y.B,ci v14.1.length,.own 3 0 3 v14.1.zones.length,.own 4 0 7 v14.1.defects.length]),(67,va [ci x19,ci (w64 (x19+(a3.Lengths.getD x24.toNat dd)))]),(68,vi a6)],[(3,ro 0 305 3 v14.1.zones.length (rf zH v14.1.zones)),(4,ro 0 87 7 v14.1.defects.length (rf qM v14.1.defects))]⟩ (opAt (rg f249 16683622) 3) [] [] 8 (o1 (And.intro (ke v14.1.zones.length) (ke v14.1.defects.length))) rfl (qJJ (zF.mk v14.1.product v14.1.rect v14.1.length v14.1.zones v14.1.defects) (Span.mk x19 (w64 (x19+(a3.Lengths.getD x24.toNat dd)))) a6 v28 h29) (.inr ⟨(by kernel_rfl),qK3 v28⟩) (by kernel_rfl))] 8 [] [(24,vi v28.1),(25,vb v28.2)] ?_
    refine q_jn (qOX a3 a5 a6 v14 x19 x22 x23 x24 x25 v28) (λp=>TD a3 x19 x22 x23 x24 x25 (yP a3 a6 v14 x19 n) v28 p=some res) ?_ ?_
    ·rintro x32 hm;refine q_cq hm (λhm=>?_) (λhm=>?_)
     ·exact q_vu [] 8 [18,19,23,24,81] [(18,vi v28.1),(19,vb true)] [6,7] [(6,bx 53 [ci x19,ci (w64 (x19+(a3.Lengths.getD x24.toNat dd)))])] (q_J (v28.1,true,(Span.mk x19 (w64 (x19+(a3.Lengths.getD x24.toNat dd))))) hm)
     ·exact q_sk (q_J (x22,x23,x25) hm)
    ·rcases bif_c hm with⟨b30,hm⟩|⟨b30,hm⟩
     ·rcases bif_c hm with⟨b31,hm⟩|⟨b31,hm⟩
      ·exact q_vv [qf 1 b30,qf 4 b31] 8 [25] [(81,vb true)] (q_J (true) hm)
      ·exact q_vv [qf 1 b30,qf 4 b31] 8 [25] [(81,vb (decide (v28.1>x22)))] (q_J (decide (v28.1>x22)) hm)
     ·exact q_vv [qf 1 b30] 8 [25] [(81,vb false)] (q_J (false) hm)
  ·refine q_ex 2 ?_;obtain rfl:=oi hm;exact q_l0
theorem qNP (E:Env 0) (a3:qE) (a5:Int) (a6:Int) (v14:zF×Bool):∀(n:Nat) (x17:Int) (x18:Bool) (x19:Int) (x20:Span) (res:Int×Bool×Span),TE a3 a5 a6 v14 n x17 x18 x19 x20=some res->HL (kx E 88 0) (nd f249 2036) (zL 0 (λo=>qGa o.1 o.2.1 o.2.2) res) n (qAk a3 a5 a6 v14 x17 x18 x19 x20):=by
 intro n
 induction n with
 |zero=>
  intro x17 x18 x19 x20 res hm;cases hm
 |succ n ih=>
  intro x17 x18 x19 x20 res hm;refine qS (q_sq ?_);refine s_va 7 [(49,vb (decide (x19<v14.1.length)))] (q_cq hm (λhm=>?_) (λhm=>?_))
  ·refine q_sk (q_sq ?_);refine q_bk 1 (s_vv [] 7 [49] [(54,vc (tl qD dd a3.Lengths)),(55,vi (a3.Lengths.length:Int)),(56,vi 0)] ?_);obtain⟨o40,h41,hm⟩:=qC hm;refine zG (nd f249 130340) 2 (by kernel_rfl) FUEL (λo=>qGJ a3 a5 a6 v14 x19 o.1 o.2.1 o.2.2) o40 (q_hl (qAb a3 a5 a6 v14 x19 x17 x18 0 x20) (qNW E a3 a5 a6 v14 x19 FUEL x17 x18 0 x20 o40 h41)) (q_vv [] 7 [20] [(20,vi (w64 (x19+a5)))] ?_);exact q_hl (qAk a3 a5 a6 v14 o40.1 o40.2.1 (w64 (x19+a5)) o40.2.2) (ih o40.1 o40.2.1 (w64 (x19+a5)) o40.2.2 _ hm)
  ·refine q_ex 0 ?_;obtain rfl:=oi hm;exact q_l0
theorem qSH (a1:List qN) (a2:List qG) (a3:qE) (a4:Rect) (a5:Int) (a6:Int) (r:Span×Int×Bool) (hm:qAq a1 a2 a3 a4 a5 a6=some r):CtX Tryz.prog globs 249 0 0 [.one (tl qR dd a1),.one (tl qM dd a2),.agg (qP a3),.agg (qT a4),.one (ci a5),.one (ci a6)] [] (qTG r) (qUr r):=by
 unfold qAq at hm;refine q_E f249 88 λE=>?_;refine s_vn [] 0 ⟨[(0,vc (tl qR dd a1)),(1,vc (tl qM dd a2)),(4,vi a5),(5,vi a6),(8,vp 0 0),(9,vp 1 0),(12,vp 2 0)],[(0,bx 74 (qP a3)),(1,bx 55 (qT a4)),(2,bx 53 [ci 0,ci 0])]⟩ (q_sq ?_);refine q_jn (qOo a1 a2 a3 a4 a5 a6) (λp=>IH a1 a2 a3 a4 a5 a6 p=some r) ?_ ?_
 ·rintro x12 hm;refine q_cq hm (λhm=>?_) (λhm=>?_)
  ·refine s_vu [] 3 [0,1,4,5,8,9,33] [(13,vi 0),(14,vb false)] [0,1] [] ?_;obtain rfl:=oi hm;exact q_rt q_rm
  ·refine q_sk ?_;obtain⟨v14,h15,hm⟩:=qC hm
   refine s_vu [qc 4 [36,37,38,39] 3 (qTc a1 a2 a3 a4 v14 h15)] 3 [0,1,9,33] [(15,vp 5 0),(16,vb v14.2)] [1] [(3,ro 0 305 3 v14.1.zones.length (rf zH v14.1.zones)),(4,ro 0 87 7 v14.1.defects.length (rf qM v14.1.defects)),(5,bx 282 [cs v14.1.product.Name,ci v14.1.product.Thick,ci v14.1.product.Width,ci v14.1.product.Allow,ci v14.1.product.Wane,tl qD dd v14.1.product.Lengths,tl qD dd v14.1.product.Prices,ci v14.1.rect.X.A,ci v14.1.rect.X.B,ci v14.1.rect.Y.A,ci v14.1.rect.Y.B,ci v14.1.length,.own 3 0 3 v14.1.zones.length,.own 4 0 7 v14.1.defects.length])] (q_sq ?_)
   refine s_vv [] 6 [16] [(44,vb (!v14.2))] (q_cq hm (λhm=>?_) (λhm=>?_))
   ·refine s_vu [] 6 [4,5,8,15,44] [(13,vi 0),(14,vb false)] [0,3,4,5] [] ?_;obtain rfl:=oi hm;exact q_rt q_rm
   ·refine q_sk (s_vu [] 6 [44] [(17,vp 6 0)] [] [(6,bx 53 [ci 0,ci 0])] ?_);refine s_va 7 [(18,vi 0),(19,vb false)] (q_sq ?_);refine s_va 7 [(20,vi 0)] ?_;obtain⟨o45,h46,hm⟩:=qC hm;refine zG (nd f249 2036) 0 (by kernel_rfl) FUEL (λo=>qGa o.1 o.2.1 o.2.2) o45 (q_hl (qAk a3 a5 a6 v14 0 false 0 (Span.mk 0 0)) (qNP E a3 a5 a6 v14 FUEL 0 false 0 (Span.mk 0 0) o45 h46)) (s_vn [] 7 ⟨[(12,vp 2 0),(13,vi o45.1),(14,vb o45.2.1)],[(2,bx 53 (qK o45.2.2))]⟩ ?_);obtain rfl:=oi hm;exact q_rt q_rm
 ·obtain⟨v7,h8,hm⟩:=qC hm;rcases bif_c hm with⟨b9,hm⟩|⟨b9,hm⟩
  ·exact q_vv [qc 1 [26] 3 (qAC a5 v7 h8),qf 3 b9] 3 [] [(33,vb true)] (q_J (true) hm)
  ·obtain⟨v10,h11,hm⟩:=qC hm;exact q_vv [qc 1 [26] 3 (qAC a5 v7 h8),qf 3 b9,qk 5 [29,30] 3 ⟨[(29,vb false),(30,vi a6)],[]⟩ (qGr a6 v10 h11)] 3 [] [(33,vb (!v10))] (q_J (!v10) hm)
open Go.Proofs Go.Proofs.Tryz
def qQq (r:(List Span)):V:=vo 0 0 2 r.length
def qP5 (r:(List Span)):List (Nat×(Nat×O)):=[(0,ro 0 53 2 r.length (rf qK r))]
def HA (a1:List qN) (l3:List Span) (l3n:Nat) (x4:Int) (x5:Int):St:=
 ⟨[(3,vo 0 0 2 l3n),(4,vi x4),(10,vc (tl qR dd a1)),(11,vi (a1.length:Int)),(12,vi x5)],[(0,ro 0 53 2 l3n (rf qK l3))]⟩
def qCZ (l9:List Span):St:=
 ⟨[(3,vo 0 0 2 l9.length)],[(0,ro 0 53 2 l9.length (rf qK l9))]⟩
theorem qJC (E:Env 0) (a1:List qN):∀(n:Nat) (l3:List Span) (l3n:Nat) (x4:Int) (x5:Int) (res:(List Span)),l3.length=l3n->YH a1 n l3 x4 x5=some res->HL (kx E 32 0) (nd f183 244) (zL 0 qCZ res) n (HA a1 l3 l3n x4 x5):=by
 intro n
 induction n with
 |zero=>
  intro l3 l3n x4 x5 res hl0 hm;cases hm
 |succ n ih=>
  intro l3 l3n x4 x5 res hl0 hm;subst hl0;refine qS (s_va 1 [(13,vb (decide (x5<(a1.length:Int))))] ?_);refine q_sq (q_cq hm (λhm=>?_) (λhm=>?_))
  ·refine q_sk (q_sq ?_);refine q_bk 1 ?_;obtain⟨g7,hm⟩:=qJ hm;refine s_vu [qi 1 g7] 1 [13] [(5,vi x5),(6,vp 1 0)] [] [(1,bx 80 (qR (a1.getD x5.toNat dd)))] ?_;obtain⟨g8,hm⟩:=qJ hm
   refine s_vu [qi 8 g8,qd 9 (drw 0 0 (rf qK (l3.set x5.toNat (Span.mk x4 (w64 (x4+((a1.getD x5.toNat dd).Len))))))) (stP qK dd (Span.mk x4 (w64 (x4+((a1.getD x5.toNat dd).Len)))) l3 l3.length x5.toNat 0 [ci x4,ci (w64 (x4+((a1.getD x5.toNat dd).Len)))] rfl (qW (zC g8)) rfl)] 2 [5] [] [0] [(0,ro 0 53 2 l3.length (rf qK (l3.set x5.toNat (Span.mk x4 (w64 (x4+((a1.getD x5.toNat dd).Len)))))))] (q_vu [] 2 [4,6] [(4,vi (w64 (x4+((a1.getD x5.toNat dd).Len))))] [1] [] ?_)
   exact q_vv [] 2 [12] [(12,vi (w64 (x5+1)))] (q_hl (HA a1 (l3.set x5.toNat (Span.mk x4 (w64 (x4+((a1.getD x5.toNat dd).Len))))) l3.length (w64 (x4+((a1.getD x5.toNat dd).Len))) (w64 (x5+1))) (ih (l3.set x5.toNat (Span.mk x4 (w64 (x4+((a1.getD x5.toNat dd).Len))))) l3.length (w64 (x4+((a1.getD x5.toNat dd).Len))) (w64 (x5+1)) _ (QC rfl) hm))
  ·refine q_ex 0 ?_;obtain rfl:=oi hm;exact q_l0
theorem qNE (a1:List qN) (r:(List Span)) (hm:ND a1=some r):CtX Tryz.prog globs 183 0 0 [.one (tl qR dd a1)] [] (qQq r) (qP5 r):=by
 unfold ND at hm;refine q_E f183 32 λE=>?_;refine s_vn [] 0 ⟨[(0,vc (tl qR dd a1))],[]⟩ ?_;obtain⟨g2,hm⟩:=qJ hm;refine s_vu [qd 2 (drw 0 0 (rf qK (List.replicate ((a1.length:Int).toNat) (Span.mk 0 0)))) (mkP qK dd (Span.mk 0 0) (a1.length:Int) 16 [ci 0,ci 0] (VQ g2) rfl)] 0 [] [(3,vo 0 0 2 ((a1.length:Int).toNat))] [] [(0,ro 0 53 2 ((a1.length:Int).toNat) (rf qK (List.replicate ((a1.length:Int).toNat) (Span.mk 0 0))))] (s_va 1 [(4,vi 0)] ?_);refine q_sq (s_vv [] 1 [0] [(10,vc (tl qR dd a1)),(11,vi (a1.length:Int)),(12,vi 0)] ?_);obtain⟨o10,h11,hm⟩:=qC hm
 refine zG (nd f183 244) 0 (by kernel_rfl) FUEL qCZ o10 (q_hl (HA a1 (List.replicate ((a1.length:Int).toNat) (Span.mk 0 0)) ((a1.length:Int).toNat) 0 0) (qJC E a1 FUEL (List.replicate ((a1.length:Int).toNat) (Span.mk 0 0)) ((a1.length:Int).toNat) 0 0 o10 GU h11)) (s_vv [] 1 [3] [(2,vo 0 0 2 o10.length)] ?_);obtain rfl:=oi hm;exact q_rt q_rm
def qRq (r:Int):V:=vi r
def qQ6 (r:Int):List (Nat×(Nat×O)):=[]
def qL3 (a2:Box) (v3:(List qN)) (v5:(List Span)) (x8:Int) (x19:Int):St:=
 ⟨[(0,vc (tl qR dd v3)),(3,vp 0 0),(5,vi x19),(12,vo 1 0 2 v5.length),(13,vi (v5.length:Int)),(14,vi x8)],[(0,bx 85 (ZJ a2)),(1,ro 0 53 2 v5.length (rf qK v5))]⟩
def ES (a2:Box) (v3:(List qN)) (v5:(List Span)) (x7:Int) (x8:Int):St:=
 ⟨[(0,vc (tl qR dd v3)),(3,vp 0 0),(5,vi x7),(12,vo 1 0 2 v5.length),(13,vi (v5.length:Int)),(14,vi x8)],[(0,bx 85 (ZJ a2)),(1,ro 0 53 2 v5.length (rf qK v5))]⟩
def qD4 (x20:Int):St:=
 ⟨[(5,vi x20)],[]⟩
theorem qJX (E:Env 0) (a2:Box) (v3:(List qN)) (v5:(List Span)):∀(n:Nat) (x7:Int) (x8:Int) (res:Int),ZN a2 v3 v5 n x7 x8=some res->HL (kx E 43 0) (nd f121 244) (zL 0 qD4 res) n (ES a2 v3 v5 x7 x8):=by
 intro n
 induction n with
 |zero=>
  intro x7 x8 res hm;cases hm
 |succ n ih=>
  intro x7 x8 res hm;refine qS (s_va 2 [(15,vb (decide (x8<(v5.length:Int))))] ?_);refine q_sq (q_cq hm (λhm=>?_) (λhm=>?_))
  ·refine q_sk (q_jn (qL3 a2 v3 v5 x8) (λp=>qAT x8 (ZN a2 v3 v5 n) p=some res) ?_ ?_)
   ·rintro x19 hm;exact q_vv [] 3 [14] [(14,vi (w64 (x8+1)))] (q_hl (ES a2 v3 v5 x19 (w64 (x8+1))) (ih x19 (w64 (x8+1)) _ hm))
   ·refine q_bk 1 ?_;obtain⟨g10,hm⟩:=qJ hm;refine s_vu [qi 1 g10,qd 2 dN (qW (zC g10))] 2 [15] [(6,vi x8),(7,vp 2 0)] [] [(2,bx 53 (qK (v5.getD x8.toNat dd)))] ?_;obtain⟨v11,h12,hm⟩:=qC hm;obtain⟨v13,h14,hm⟩:=qC hm;refine s_vu [qc 3 [19,21] 3 (RJ (v5.getD x8.toNat dd) a2.Z v11 h12),qc 4 [22] 3 (qCy v11 v13 h14)] 3 [7] [(8,vi v13)] [2] [] (s_va 3 [(25,vb (decide (v13>0)))] ?_);refine q_cq hm (λhm=>?_) (λhm=>?_)
    ·obtain⟨g16,hm⟩:=qJ hm;obtain⟨v17,h18,hm⟩:=qC hm;exact q_du [qi 4 g16,qc 12 [32,37] 3 (qD3 ((v3.getD x8.toNat dd).Sec) (Rect.mk a2.X a2.Y) v17 h18)] [0,0,0,0,12,28,60,0,128,0,512,1920,4092,8190,16383,32767] 3 [5,6,8,25] [(5,vi (w64 (x7+(w64 (v13*v17)))))] [] [] (q_J (w64 (x7+(w64 (v13*v17)))) hm)
    ·exact q_sk (q_J (x7) hm)
  ·refine q_ex 0 ?_;obtain rfl:=oi hm;exact q_l0
theorem qFM (a1:List qN) (a2:Box) (r:Int) (hm:GD a1 a2=some r):CtX Tryz.prog globs 121 0 0 [.one (tl qR dd a1),.agg (ZJ a2)] [] (qRq r) (qQ6 r):=by
 unfold GD at hm;refine q_E f121 43 λE=>?_;refine s_vn [] 0 ⟨[(0,vc (tl qR dd a1)),(3,vp 0 0)],[(0,bx 85 (ZJ a2))]⟩ ?_;obtain⟨v3,h4,hm⟩:=qC hm;refine s_vv [qc 1 [9] 1 (ST a1 v3 h4)] 1 [0] [(0,vc (tl qR dd v3))] (s_va 1 [(5,vi 0)] ?_);refine q_sq ?_;obtain⟨v5,h6,hm⟩:=qC hm;refine s_vu [qc 1 [11] 1 (qNE v3 v5 h6)] 1 [] [(12,vo 1 0 2 v5.length),(13,vi (v5.length:Int)),(14,vi 0)] [] [(1,ro 0 53 2 v5.length (rf qK v5))] ?_;obtain⟨o21,h22,hm⟩:=qC hm;refine zG (nd f121 244) 0 (by kernel_rfl) FUEL qD4 o21 (q_hl (ES a2 v3 v5 0 0) (qJX E a2 v3 v5 FUEL 0 0 o21 h22)) (s_vn [] 2 ⟨[(4,vi o21)],[]⟩ ?_)
 obtain rfl:=oi hm;exact q_rt q_rm
def qSM (r:Int):V:=vi r
def qSA (r:Int):List (Nat×(Nat×O)):=[]
theorem GV (a1:List qN) (a2:Rect) (a3:Span) (r:Int) (hm:PC a1 a2 a3=some r):CtX Tryz.prog globs 216 0 0 [.one (tl qR dd a1),.agg (qT a2),.agg (qK a3)] [] (qSM r) (qSA r):=by
 unfold PC at hm;refine q_E f216 15 λE=>?_;refine s_vn [] 0 ⟨[(0,vc (tl qR dd a1)),(4,vp 0 0),(5,vp 1 0)],[(0,bx 55 (qT a2)),(1,bx 53 (qK a3))]⟩ ?_;obtain⟨v4,h5,hm⟩:=qC hm;refine s_vn [qc 7 [7,13] 2 (qFM a1 (Box.mk a2.X a2.Y a3) v4 h5)] 2 ⟨[(6,vi v4)],[]⟩ ?_;obtain rfl:=oi hm;exact q_rt q_rm
open Go.Proofs Go.Proofs.Tryz
def qWo (r:Int):V:=vi r
def qWp (r:Int):List (Nat×(Nat×O)):=[]
theorem qUS (a1:List qN) (a2:List qG) (a3:qE) (a4:Rect) (a5:Saw) (a6:Rates) (r:Int) (hm:qCN a1 a2 a3 a4 a5 a6=some r):CtX Tryz.prog globs 215 0 0 [.one (tl qR dd a1),.one (tl qM dd a2),.agg (qP a3),.agg (qT a4),.agg (jY a5),.agg (wC a6)] [] (qWo r) (qWp r):=by
 unfold qCN at hm;refine q_E f215 89 λE=>?_;refine s_vn [] 0 ⟨[(0,vc (tl qR dd a1)),(1,vc (tl qM dd a2)),(8,vp 0 0),(9,vp 1 0),(10,vp 2 0),(11,vp 3 0)],[(0,bx 74 (qP a3)),(1,bx 55 (qT a4)),(2,bx 39 (jY a5)),(3,bx 41 (wC a6))]⟩ ?_;obtain⟨v7,h8,hm⟩:=qC hm;refine s_vu [qc 8 [21,22,23,24,26,28] 4 (qSH a1 a2 a3 a4 a5.Step a6.Fine v7 h8)] 4 [1,8] [(13,vp 4 0),(14,vi v7.2.1),(15,vb v7.2.2)] [0] [(4,bx 53 (qK v7.1))] (q_sq ?_);refine s_vv [] 5 [15] [(34,vb (!v7.2.2))] (q_cq hm (λhm=>?_) (λhm=>?_))
 ·refine s_vn [] 5 ⟨[(12,vi (-1))],[]⟩ ?_;obtain rfl:=oi hm;exact q_rt q_rm
 ·refine q_sk ?_;obtain⟨v10,h11,hm⟩:=qC hm;refine s_vv [qc 1 [35] 5 (FL a1 v10 h11)] 5 [34] [(16,vi v10)] ?_;obtain⟨v12,h13,hm⟩:=qC hm;refine s_vv [qc 4 [37,38,40] 5 (GV a1 a4 (Span.mk 0 v10) v12 h13)] 5 [] [(17,vi v12)] ?_;obtain⟨v14,h15,hm⟩:=qC hm;refine s_vv [qc 3 [42,43,44] 5 (GV a1 a4 v7.1 v14 h15)] 5 [] [(18,vi v14)] ?_;obtain⟨v16,h17,hm⟩:=qC hm;refine s_vv [qc 11 [46,47,56] 5 (GV a1 a4 (Span.mk (imax 0 (w64 (v7.1.A-a5.Trim))) v7.1.A) v16 h17)] 5 [] [(19,vi v16)] ?_;obtain⟨v18,h19,hm⟩:=qC hm
  refine s_vu [qc 13 [59,60,70] 5 (GV a1 a4 (Span.mk v7.1.B (imin (w64 (v7.1.B+a5.Trim)) v10)) v18 h19)] 5 [0,9,10,13,16,19] [(19,vi (w64 (v16+v18)))] [1,2,4] [] (s_vn [] 5 ⟨[(12,vi (w64 ((w64 ((w64 (1000000*v7.2.1))+(w64 (a6.Dust*(w64 (v16+v18))))))+(w64 (a6.Chip*(w64 ((w64 (v12-v14))-(w64 (v16+v18)))))))))],[]⟩ ?_);obtain rfl:=oi hm;exact q_rt q_rm
def qE9 (r:Int):V:=vi r
def qFj (r:Int):List (Nat×(Nat×O)):=[]
def qOu (a4:Rect) (x22:Int) (x26:Bool):St:=
 ⟨[(68,va (qT a4)),(69,vi x22),(77,vb x26)],[]⟩
def qAx (a4:Rect) (x22:Int):St:=
 ⟨[(68,va (qT a4)),(69,vi x22)],[]⟩
def qGt :St:=
 ⟨[],[]⟩
def qOk (a4:Rect) (x20:Bool):St:=
 ⟨[(9,vp 0 0),(55,vb x20)],[(0,bx 55 (qT a4))]⟩
theorem qNi (E:Env 0) (a4:Rect):∀(n:Nat) (x22:Int) (res:Int⊕Unit),JM a4 n x22=some res->HL (kx E 79 0) (nd f214 2036) (wL 0 (λo=>qGt) (λv st=>RetQ Tryz.prog f214 (qE9 v) (qFj v) .ret st) res) n (qAx a4 x22):=by
 intro n
 induction n with
 |zero=>
  intro x22 res hm;cases hm
 |succ n ih=>
  intro x22 res hm;refine qS (s_va 3 [(70,vb (decide (x22<4)))] ?_);refine q_sq (q_cq hm (λhm=>?_) (λhm=>?_))
  ·refine q_sk (q_sq ?_);refine q_bk 1 ?_;obtain⟨g24,hm⟩:=qJ hm;refine s_vv [qi 0 g24] 3 [70] [(18,vi (([a4.X.A,a4.X.B,a4.Y.A,a4.Y.B]:List Int).getD x22.toNat 0))] (q_jn (qOu a4 x22) (λp=>IE x22 (JM a4 n) p=some res) ?_ ?_)
   ·rintro x26 hm;refine q_cq hm (λhm=>?_) (λhm=>?_)
    ·refine s_vn [] 3 ⟨[(12,vi 9)],[]⟩ ?_;obtain rfl:=oi hm;refine q_rt (zJ 9 ?_);exact q_rm
    ·refine q_sk (q_vv [] 3 [69,77] [(69,vi (w64 (x22+1)))] ?_);exact q_hl (qAx a4 (w64 (x22+1))) (ih (w64 (x22+1)) _ hm)
   ·rcases bif_c hm with⟨b25,hm⟩|⟨b25,hm⟩
    ·exact q_vv [qf 2 b25] 3 [18] [(77,vb true)] (q_J (true) hm)
    ·exact q_vv [qf 2 b25] 3 [18] [(77,vb (decide ((([a4.X.A,a4.X.B,a4.Y.A,a4.Y.B]:List Int).getD x22.toNat 0)>600)))] (q_J (decide ((([a4.X.A,a4.X.B,a4.Y.A,a4.Y.B]:List Int).getD x22.toNat 0)>600)) hm)
  ·refine q_ex 0 ?_;obtain rfl:=oi hm;exact q_l1 ()
theorem qSW (a1:List qN) (a2:List qG) (a3:List qE) (a4:Rect) (a5:Saw) (a6:Rates) (r:Int) (hm:qAr a1 a2 a3 a4 a5 a6=some r):CtX Tryz.prog globs 214 0 0 [.one (tl qR dd a1),.one (tl qM dd a2),.one (tl qP dd a3),.agg (qT a4),.agg (jY a5),.agg (wC a6)] [] (qE9 r) (qFj r):=by
 unfold qAr at hm;refine q_E f214 79 λE=>?_;refine s_vn [] 0 ⟨[(0,vc (tl qR dd a1)),(1,vc (tl qM dd a2)),(2,vc (tl qP dd a3)),(9,vp 0 0),(10,vp 1 0),(11,vp 2 0)],[(0,bx 55 (qT a4)),(1,bx 39 (jY a5)),(2,bx 41 (wC a6))]⟩ (q_sq ?_);obtain⟨v7,h8,hm⟩:=qC hm;refine s_vv [qc 1 [19] 3 (YI a1 v7 h8)] 3 [0] [(13,vi v7)] (s_va 3 [(22,vb (v7 !=0))] ?_);refine q_cq hm (λhm=>?_) (λhm=>?_)
 ·refine s_vn [] 3 ⟨[(12,vi v7)],[]⟩ ?_;obtain rfl:=oi hm;exact q_rt q_rm
 ·refine q_sk (q_sq ?_);obtain⟨v10,h11,hm⟩:=qC hm;refine s_vv [qc 1 [24] 3 (WY a2 v10 h11)] 3 [1,13,22] [(14,vi v10)] (s_va 3 [(27,vb (v10 !=0))] ?_);refine q_cq hm (λhm=>?_) (λhm=>?_)
  ·refine s_vn [] 3 ⟨[(12,vi v10)],[]⟩ ?_;obtain rfl:=oi hm;exact q_rt q_rm
  ·refine q_sk (q_sq ?_);obtain⟨v13,h14,hm⟩:=qC hm;refine s_vv [qc 1 [29] 3 (YE a3 v13 h14)] 3 [2,14,27] [(15,vi v13)] (s_va 3 [(32,vb (v13 !=0))] ?_);refine q_cq hm (λhm=>?_) (λhm=>?_)
   ·refine s_vn [] 3 ⟨[(12,vi v13)],[]⟩ ?_;obtain rfl:=oi hm;exact q_rt q_rm
   ·refine q_sk (q_sq ?_);obtain⟨v16,h17,hm⟩:=qC hm;refine s_vu [qc 2 [34,35] 3 (qHB a5 a6 v16 h17)] 3 [10,11,15,32] [(16,vi v16)] [1,2] [] (s_va 3 [(38,vb (v16 !=0))] ?_);refine q_cq hm (λhm=>?_) (λhm=>?_)
    ·refine s_vn [] 3 ⟨[(12,vi v16)],[]⟩ ?_;obtain rfl:=oi hm;exact q_rt q_rm
    ·refine q_sk (q_sq ?_);refine q_jn (qOk a4) (λp=>IT a4 p=some r) ?_ ?_
     ·rintro x20 hm;refine q_cq hm (λhm=>?_) (λhm=>?_)
      ·refine s_vn [] 3 ⟨[(12,vi 19)],[]⟩ ?_;obtain rfl:=oi hm;exact q_rt q_rm
      ·refine q_sk (q_sq ?_);refine s_vn [] 3 ⟨[(68,va (qT a4)),(69,vi 0)],[]⟩ ?_;obtain⟨u30,h29,hm⟩:=qC hm;refine zO (nd f214 2036) 0 (by kernel_rfl) FUEL (λo=>qGt) (λv st=>RetQ Tryz.prog f214 (qE9 v) (qFj v) .ret st) u30 (q_hl (qAx a4 0) (qNi E a4 FUEL 0 u30 h29)) ?_ ?_
       ·rintro v31 rfl st hr;obtain rfl:=oi hm;exact hr
       ·rintro o28 rfl;replace hm:_=some r:=hm;refine s_vn [] 3 ⟨[(12,vi 0)],[]⟩ ?_;obtain rfl:=oi hm;exact q_rt q_rm
     ·rcases bif_c hm with⟨b19,hm⟩|⟨b19,hm⟩
      ·exact q_vv [qf 7 b19] 3 [16,38] [(55,vb true)] (q_J (true) hm)
      ·exact q_vv [qf 7 b19] 3 [16,38] [(55,vb (decide (a4.Y.A≥a4.Y.B)))] (q_J (decide (a4.Y.A≥a4.Y.B)) hm)
end Saw
end Go.SL

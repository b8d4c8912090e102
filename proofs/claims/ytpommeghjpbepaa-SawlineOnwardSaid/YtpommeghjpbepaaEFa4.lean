import Derived.Test.YtpommeghjpbepaaEBase
import Derived.Test.YtpommeghjpbepaaEFa3
import Derived.Test.YtpommeghjpbepaaEFa2
import Derived.Test.YtpommeghjpbepaaEFa1
set_option linter.unusedVariables false
set_option linter.unusedSimpArgs false
namespace Go.SL
namespace Saw
open Go.Proofs Go.Proofs.Try
set_option maxHeartbeats 4000000
set_option maxRecDepth 100000
def PT (r:Int):V:=vi r
def ZY (r:Int):List (Nat×(Nat×O)):=[]
theorem OV (r:Int):GS (ZY r):=by
 intro i k o h;unfold ZY at h;cases h
def GV (a1:List Product) (x3:Int):St:=
 ⟨[(0,vc (tl qD du a1)),(11,vc (tl qD du a1)),(12,vi (a1.length:Int)),(13,vi x3)],[]⟩
def HR :St:=
 ⟨[],[]⟩
theorem qBT (E:Env 0) (a1:List Product):∀(n:Nat) (x3:Int) (res:Int⊕Unit),ZC a1 n x3=some res->HL (kx E 38 0) (nd f55 116) (JJ 0 (λo=>HR) (λv st=>RetQ Try.prog f55 (PT v) (ZY v) .ret st) res) n (GV a1 x3):=by
 intro n
 induction n with
 |zero=>
  intro x3 res hm;cases hm
 |succ n ih=>
  intro x3 res hm;refine zE (s_va 0 [(14,vb (decide (x3<(a1.length:Int))))] ?_);refine q_sq (q_cq hm (λhm=>?_) (λhm=>?_))
  ·refine q_sk (q_sq ?_);refine q_bk 1 ?_;obtain⟨g5,hm⟩:=qU hm;refine s_vu [qi 1 g5] 0 [14] [(3,vi x3),(4,vp 0 0)] [] [(0,bx 114 (qD (a1.getD x3.toNat du)))] (q_sq ?_);obtain⟨v6,h7,hm⟩:=qI hm;refine s_vv [qc 2 [19] 1 (qFV ((a1.getD x3.toNat du).Name) v6 h7)] 1 [] [(21,vb (!v6))] (q_cq hm (λhm=>?_) (λhm=>?_))
   ·refine s_vn [] 1 ⟨[(2,vi 6)],[]⟩ ?_;obtain rfl:=oi hm;refine q_rt (wT 6 ?_);exact q_rm
   ·refine q_sk (q_sq ?_);obtain⟨g9,hm⟩:=qU hm;obtain⟨v10,h11,hm⟩:=qI hm;refine s_du [qd 2 (drw ((a1.take x3.toNat).length) 0 (rf qD (a1.take x3.toNat))) (slPhi qD du a1 x3 (And.intro (jE g9).2.1 (jE g9).2.2)),qc 5 [25,27] 1 (qFA (a1.take x3.toNat) ((a1.getD x3.toNat du).Name) v10 h11)] [0,0,3,0,8,31,63,127,127,255,1023] 1 [3,21] [(6,vb v10.2)] [] [] (s_vv [] 1 [6] [(31,vb v10.2)] ?_);refine q_cq hm (λhm=>?_) (λhm=>?_)
    ·refine s_vn [] 1 ⟨[(2,vi 7)],[]⟩ ?_;obtain rfl:=oi hm;refine q_rt (wT 7 ?_);exact q_rm
    ·refine q_sk ?_;obtain⟨v13,h14,hm⟩:=qI hm;refine s_vu [qc 1 [32] 1 (IR (a1.getD x3.toNat du) v13 h14)] 1 [4,31] [(7,vi v13)] [0] [] (s_va 1 [(35,vb (v13 !=0))] ?_);refine q_cq hm (λhm=>?_) (λhm=>?_)
     ·refine s_vn [] 1 ⟨[(2,vi v13)],[]⟩ ?_;obtain rfl:=oi hm;refine q_rt (wT v13 ?_);exact q_rm
     ·refine q_sk (q_vv [] 1 [7,13,35] [(13,vi (w64 (x3+1)))] ?_);exact q_hl (GV a1 (w64 (x3+1))) (ih (w64 (x3+1)) _ hm)
  ·refine q_ex 0 ?_;obtain rfl:=oi hm;exact q_l1 ()
theorem FN (a1:List Product) (r:Int) (hm:YL a1=some r):CtX Try.prog globs 55 0 0 [.one (tl qD du a1)] [] (PT r) (ZY r):=by
 unfold YL at hm;refine q_E f55 38 λE=>?_;refine s_vn [] 0 ⟨[(0,vc (tl qD du a1))],[]⟩ (q_sq ?_);refine s_va 0 [(10,vb (decide ((a1.length:Int)>16)))] (q_cq hm (λhm=>?_) (λhm=>?_))
 ·refine s_vn [] 0 ⟨[(2,vi 4)],[]⟩ ?_;obtain rfl:=oi hm;exact q_rt q_rm
 ·refine q_sk (q_sq ?_);refine s_vv [] 0 [10] [(11,vc (tl qD du a1)),(12,vi (a1.length:Int)),(13,vi 0)] ?_;obtain⟨u18,h17,hm⟩:=qI hm;refine yO (nd f55 116) 0 (by kernel_rfl) FUEL (λo=>HR) (λv st=>RetQ Try.prog f55 (PT v) (ZY v) .ret st) u18 (q_hl (GV a1 0) (qBT E a1 FUEL 0 u18 h17)) ?_ ?_
  ·rintro v19 rfl st hr;obtain rfl:=oi hm;exact hr
  ·rintro o16 rfl;replace hm:_=some r:=hm;refine s_vn [] 0 ⟨[(2,vi 0)],[]⟩ ?_;obtain rfl:=oi hm;exact q_rt q_rm
def MZ (r:Bool):V:=vb r
def MN (r:Bool):List (Nat×(Nat×O)):=[]
def qDf (a1:Rect) (x2:Int) (x7:Bool):St:=
 ⟨[(9,va (qK a1)),(10,vi x2),(27,vb x7)],[]⟩
def ND (a1:Rect) (x2:Int):St:=
 ⟨[(9,va (qK a1)),(10,vi x2)],[]⟩
def EC :St:=
 ⟨[],[]⟩
theorem qCs (E:Env 0) (a1:Rect):∀(n:Nat) (x2:Int) (res:Bool⊕Unit),wM a1 n x2=some res->HL (kx E 29 0) (nd f84 52) (JJ 0 (λo=>EC) (λv st=>RetQ Try.prog f84 (MZ v) (MN v) .ret st) res) n (ND a1 x2):=by
 intro n
 induction n with
 |zero=>
  intro x2 res hm;cases hm
 |succ n ih=>
  intro x2 res hm;refine zE (s_va 1 [(11,vb (decide (x2<2)))] ?_);refine q_sq (q_cq hm (λhm=>?_) (λhm=>?_))
  ·refine q_sk (q_sq ?_);refine q_bk 1 ?_;obtain⟨g4,hm⟩:=qU hm;refine s_vu [qi 0 g4] 1 [11] [(4,vp 1 0)] [] [(1,bx 26 [ci (([a1.X.A,a1.X.B,a1.Y.A,a1.Y.B]:List Int).getD (x2.toNat*2+0) 0),ci (([a1.X.A,a1.X.B,a1.Y.A,a1.Y.B]:List Int).getD (x2.toNat*2+1) 0)])] (q_jn (qDf a1 x2) (λp=>QS x2 (wM a1 n) p=some res) ?_ ?_)
   ·rintro x7 hm;refine q_cq hm (λhm=>?_) (λhm=>?_)
    ·refine s_vn [] 2 ⟨[(2,vb false)],[]⟩ ?_;obtain rfl:=oi hm;refine q_rt (wT false ?_);exact q_rm
    ·refine q_sk (q_vv [] 2 [10,27] [(10,vi (w64 (x2+1)))] ?_);exact q_hl (ND a1 (w64 (x2+1))) (ih (w64 (x2+1)) _ hm)
   ·rcases bif_c hm with⟨b5,hm⟩|⟨b5,hm⟩
    ·exact q_vu [qf 3 b5] 2 [4] [(27,vb true)] [1] [] (q_J (true) hm)
    ·rcases bif_c hm with⟨b6,hm⟩|⟨b6,hm⟩
     ·exact q_vu [qf 3 b5,qf 8 b6] 2 [4] [(27,vb true)] [1] [] (q_J (true) hm)
     ·exact q_vu [qf 3 b5,qf 8 b6] 2 [4] [(27,vb (decide ((([a1.X.A,a1.X.B,a1.Y.A,a1.Y.B]:List Int).getD (x2.toNat*2+0) 0)≥(([a1.X.A,a1.X.B,a1.Y.A,a1.Y.B]:List Int).getD (x2.toNat*2+1) 0))))] [1] [] (q_J (decide ((([a1.X.A,a1.X.B,a1.Y.A,a1.Y.B]:List Int).getD (x2.toNat*2+0) 0)≥(([a1.X.A,a1.X.B,a1.Y.A,a1.Y.B]:List Int).getD (x2.toNat*2+1) 0))) hm)
  ·refine q_ex 0 ?_;obtain rfl:=oi hm;exact q_l1 ()
theorem qFe (a1:Rect) (r:Bool) (hm:GW a1=some r):CtX Try.prog globs 84 0 0 [.agg (qK a1)] [] (MZ r) (MN r):=by
 unfold GW at hm;refine q_E f84 29 λE=>?_;refine s_vn [] 0 ⟨[(1,vp 0 0)],[(0,bx 28 (qK a1))]⟩ (q_sq ?_);refine s_vn [] 1 ⟨[(9,va (qK a1)),(10,vi 0)],[]⟩ ?_;obtain⟨u11,h10,hm⟩:=qI hm;refine yO (nd f84 52) 0 (by kernel_rfl) FUEL (λo=>EC) (λv st=>RetQ Try.prog f84 (MZ v) (MN v) .ret st) u11 (q_hl (ND a1 0) (qCs E a1 FUEL 0 u11 h10)) ?_ ?_
 ·rintro v12 rfl st hr;obtain rfl:=oi hm;exact hr
 ·rintro o9 rfl;replace hm:_=some r:=hm;refine s_vn [] 1 ⟨[(2,vb true)],[]⟩ ?_;obtain rfl:=oi hm;exact q_rt q_rm
def qIo (r:qT×Bool):V:= .tup [.agg [cs r.1.product.Name,ci r.1.product.Thick,ci r.1.product.Width,ci r.1.product.Allow,ci r.1.product.Wane,tl qJ du r.1.product.Lengths,tl qJ du r.1.product.Prices,ci r.1.rect.X.A,ci r.1.rect.X.B,ci r.1.rect.Y.A,ci r.1.rect.Y.B,ci r.1.length,.own 0 0 3 r.1.zones.length,.own 1 0 7 r.1.defects.length],.one (cb r.2)]
def qIs (r:qT×Bool):List (Nat×(Nat×O)):=[(0,ro 0 182 3 r.1.zones.length (rf zB r.1.zones)),(1,ro 0 122 7 r.1.defects.length (rf qE r.1.defects))]
def NI (v25:(List qR)):St:=
 ⟨[(8,vp 2 0),(13,vp 6 0)],[(2,bx 149 [cs (ByteArray.mk #[]),ci 0,ci 0,ci 0,ci 0,.emp,.emp,ci 0,ci 0,ci 0,ci 0,ci 0,.emp,.emp]),(5,ro 0 182 3 v25.length (rf zB v25))]⟩
def SX (a1:List qG) (a2:List qH) (a3:Product) (a4:Rect):St:=
 ⟨[(0,vc (tl qF du a1)),(1,vc (tl qE du a2)),(6,vp 0 0),(7,vp 1 0),(8,vp 2 0)],[(0,bx 114 (qD a3)),(1,bx 28 (qK a4)),(2,bx 149 [cs (ByteArray.mk #[]),ci 0,ci 0,ci 0,ci 0,.emp,.emp,ci 0,ci 0,ci 0,ci 0,ci 0,.emp,.emp])]⟩
def CK (a2:List qH) (a3:Product) (a4:Rect) (v23:Int) (v25:(List qR)) (v27:Box) (x29:Int) (l37:List qH) (l37n:Nat):St:=
 (NI v25).up [] [(14,vp 7 0),(83,vc (tl qE du a2)),(84,vi (a2.length:Int)),(85,vi x29)] [] [(6,bx 149 [cs a3.Name,ci a3.Thick,ci a3.Width,ci a3.Allow,ci a3.Wane,tl qJ du a3.Lengths,tl qJ du a3.Prices,ci a4.X.A,ci a4.X.B,ci a4.Y.A,ci a4.Y.B,ci v23,.own 5 0 3 v25.length,.own 8 0 7 l37n]),(7,bx 58 (WN v27)),(8,ro 0 122 7 l37n (rf qE l37))]
def LJ (a2:List qH) (a3:Product) (a4:Rect) (v23:Int) (v25:(List qR)) (v27:Box) (x29:Int) (l30:List qH) (l30n:Nat):St:=
 (NI v25).up [] [(14,vp 7 0),(83,vc (tl qE du a2)),(84,vi (a2.length:Int)),(85,vi x29)] [] [(6,bx 149 [cs a3.Name,ci a3.Thick,ci a3.Width,ci a3.Allow,ci a3.Wane,tl qJ du a3.Lengths,tl qJ du a3.Prices,ci a4.X.A,ci a4.X.B,ci a4.Y.A,ci a4.Y.B,ci v23,.own 5 0 3 v25.length,.own 8 0 7 l30n]),(7,bx 58 (WN v27)),(8,ro 0 122 7 l30n (rf qE l30))]
def OA (a3:Product) (a4:Rect) (v23:Int) (v25:(List qR)) (l38:List qH):St:=
 (NI v25).up [] [] [] [(6,bx 149 [cs a3.Name,ci a3.Thick,ci a3.Width,ci a3.Allow,ci a3.Wane,tl qJ du a3.Lengths,tl qJ du a3.Prices,ci a4.X.A,ci a4.X.B,ci a4.Y.A,ci a4.Y.B,ci v23,.own 5 0 3 v25.length,.own 8 0 7 l38.length]),(8,ro 0 122 7 l38.length (rf qE l38))]
def qFx (a1:List qG) (a2:List qH) (a3:Product) (a4:Rect) (x21:Bool):St:=
 (SX a1 a2 a3 a4).up [] [(68,vb x21)] [] []
def qFI (a1:List qG) (a2:List qH) (a3:Product) (a4:Rect) (x16:Bool):St:=
 (SX a1 a2 a3 a4).up [] [(35,vb x16)] [] []
theorem qEy (E:Env 0) (a2:List qH) (a3:Product) (a4:Rect) (v23:Int) (v25:(List qR)) (v27:Box):∀(n:Nat) (x29:Int) (l30:List qH) (l30n:Nat) (res:(List qH)),l30.length=l30n->WG a2 v27 n x29 l30=some res->HL (kx E 100 0) (nd f66 4084) (jS 0 (λo=>OA a3 a4 v23 v25 o) res) n (LJ a2 a3 a4 v23 v25 v27 x29 l30 l30n):=by
 intro n
 induction n with
 |zero=>
  intro x29 l30 l30n res hl0 hm;cases hm
 |succ n ih=>
  intro x29 l30 l30n res hl0 hm;subst hl0;refine zE (s_va 9 [(86,vb (decide (x29<(a2.length:Int))))] ?_);refine q_sq (q_cq hm (λhm=>?_) (λhm=>?_))
  ·refine q_sk (q_jn (ι:=(List qH)×Nat) (λp=>CK a2 a3 a4 v23 v25 v27 x29 p.1 p.2) (λp=>p.1.length=p.2/\NS x29 (WG a2 v27 n) p.1=some res) ?_ ?_)
   ·rintro⟨l37,l37n⟩ ⟨el37,hm⟩;replace el37:l37.length=l37n:=el37;subst el37;show H _ (CK a2 a3 a4 v23 v25 v27 x29 l37 l37.length) _ _;exact q_vv [] 11 [85] [(85,vi (w64 (x29+1)))] (q_hl (LJ a2 a3 a4 v23 v25 v27 (w64 (x29+1)) l37 l37.length) (ih (w64 (x29+1)) l37 l37.length _ rfl hm))
   ·refine q_bk 1 ?_;obtain⟨g32,hm⟩:=qU hm;refine s_vu [qi 0 g32] 9 [86] [(16,vp 9 0)] [] [(9,bx 122 (qE (a2.getD x29.toNat du)))] ?_;obtain⟨v33,h34,hm⟩:=qI hm;refine s_vv [qc 2 [89,90] 10 (SU (a2.getD x29.toNat du) v27 v33 h34)] 10 [] [(91,vb v33)] (q_cq hm (λhm=>?_) (λhm=>?_))
    ·obtain⟨g36,hm⟩:=qU hm
     exact q_vu [qd 3 (drw 10 0 (rf qE [(a2.getD x29.toNat du)])) (litP qE du 7 (λ_=>rfl) ([(a2.getD x29.toNat du)]:List qH) 1 rfl),qd 4 (drw 8 1 (rf qE (l30++[(a2.getD x29.toNat du)]))) (apP qE du l30 ([(a2.getD x29.toNat du)]:List qH) l30.length 1 7 56 (1<=1) (ko _) rfl rfl (λ_=>rfl) (yZ g36))] 10 [16,91] [] [6,8,9] [(6,bx 149 [cs a3.Name,ci a3.Thick,ci a3.Width,ci a3.Allow,ci a3.Wane,tl qJ du a3.Lengths,tl qJ du a3.Prices,ci a4.X.A,ci a4.X.B,ci a4.Y.A,ci a4.Y.B,ci v23,.own 5 0 3 v25.length,.own 8 1 7 (l30.length+1)]),(8,ro 1 122 7 (l30.length+1) (rf qE (l30++[(a2.getD x29.toNat du)])))] (q_J ((l30++[(a2.getD x29.toNat du)]),(l30.length+1)) ⟨(yN rfl rfl),hm⟩)
    ·exact q_sk (q_J (l30,l30.length) ⟨rfl,hm⟩)
  ·refine q_ex 0 ?_;obtain rfl:=oi hm;exact q_l0
theorem qHO (a1:List qG) (a2:List qH) (a3:Product) (a4:Rect) (r:qT×Bool) (hm:MA a1 a2 a3 a4=some r):CtX Try.prog globs 66 0 0 [.one (tl qF du a1),.one (tl qE du a2),.agg (qD a3),.agg (qK a4)] [] (qIo r) (qIs r):=by
 unfold MA at hm;refine q_E f66 100 λE=>?_;refine s_vn [] 0 ⟨[(0,vc (tl qF du a1)),(1,vc (tl qE du a2)),(6,vp 0 0),(7,vp 1 0),(8,vp 2 0)],[(0,bx 114 (qD a3)),(1,bx 28 (qK a4)),(2,bx 149 [cs (ByteArray.mk #[]),ci 0,ci 0,ci 0,ci 0,.emp,.emp,ci 0,ci 0,ci 0,ci 0,ci 0,.emp,.emp])]⟩ (q_sq ?_);refine q_jn (qFI a1 a2 a3 a4) (λp=>PB a1 a2 a3 a4 p=some r) ?_ ?_
 ·rintro x16 hm;refine q_cq hm (λhm=>?_) (λhm=>?_)
  ·refine s_vu [] 4 [0,1,6,7,35] [(9,vb false)] [0,1] [] (q_fu [.ownB 2 5 4 3 1 (rf qJ [])] [] [] [2] [(2,bx 149 [cs (ByteArray.mk #[]),ci 0,ci 0,ci 0,ci 0,.own 4 0 1 0,.emp,ci 0,ci 0,ci 0,ci 0,ci 0,.emp,.emp]),(4,ro 0 3 1 0 (rf qJ []))] o0 ?_)
   refine q_fu [.ownB 2 6 5 3 1 (rf qJ [])] [] [] [2] [(2,bx 149 [cs (ByteArray.mk #[]),ci 0,ci 0,ci 0,ci 0,.own 4 0 1 0,.own 5 0 1 0,ci 0,ci 0,ci 0,ci 0,ci 0,.emp,.emp]),(5,ro 0 3 1 0 (rf qJ []))] o0 (q_fu [.ownB 2 12 6 182 3 (rf zB [])] [] [] [2] [(2,bx 149 [cs (ByteArray.mk #[]),ci 0,ci 0,ci 0,ci 0,.own 4 0 1 0,.own 5 0 1 0,ci 0,ci 0,ci 0,ci 0,ci 0,.own 6 0 3 0,.emp]),(6,ro 0 182 3 0 (rf zB []))] o0 ?_)
   refine q_fu [.ownB 2 13 7 122 7 (rf qE [])] [] [] [2] [(2,bx 149 [cs (ByteArray.mk #[]),ci 0,ci 0,ci 0,ci 0,.own 4 0 1 0,.own 5 0 1 0,ci 0,ci 0,ci 0,ci 0,ci 0,.own 6 0 3 0,.own 7 0 7 0]),(7,ro 0 122 7 0 (rf qE []))] o0 (q_fu [.len 4 (([]:List Int).length),.frz 4] [] [] [2,4] [(2,bx 149 [cs (ByteArray.mk #[]),ci 0,ci 0,ci 0,ci 0,tl qJ du ([]:List Int),.own 5 0 1 0,ci 0,ci 0,ci 0,ci 0,ci 0,.own 6 0 3 0,.own 7 0 7 0])] (o1 (And.intro (And.intro (show 0=([]:List Int).length from rfl) (show 0=([]:List Int).length from rfl)) (ko (([]:List Int).length)))) ?_)
   refine q_fu [.len 5 (([]:List Int).length),.frz 5] [] [] [2,5] [(2,bx 149 [cs (ByteArray.mk #[]),ci 0,ci 0,ci 0,ci 0,tl qJ du ([]:List Int),tl qJ du ([]:List Int),ci 0,ci 0,ci 0,ci 0,ci 0,.own 6 0 3 0,.own 7 0 7 0])] (o1 (And.intro (And.intro (show 0=([]:List Int).length from rfl) (show 0=([]:List Int).length from rfl)) (ko (([]:List Int).length)))) (q_fu [.len 6 (([]:List qR).length)] [] [] [2,6] [(2,bx 149 [cs (ByteArray.mk #[]),ci 0,ci 0,ci 0,ci 0,tl qJ du ([]:List Int),tl qJ du ([]:List Int),ci 0,ci 0,ci 0,ci 0,ci 0,.own 6 0 3 (([]:List qR).length),.own 7 0 7 0]),(6,ro 0 182 3 (([]:List qR).length) (rf zB []))] (o1 (And.intro (show 0=([]:List qR).length from rfl) (show 0=([]:List qR).length from rfl))) ?_)
   refine q_fu [.len 7 (([]:List qH).length)] [] [] [2,7] [(2,bx 149 [cs (ByteArray.mk #[]),ci 0,ci 0,ci 0,ci 0,tl qJ du ([]:List Int),tl qJ du ([]:List Int),ci 0,ci 0,ci 0,ci 0,ci 0,.own 6 0 3 (([]:List qR).length),.own 7 0 7 (([]:List qH).length)]),(7,ro 0 122 7 (([]:List qH).length) (rf qE []))] (o1 (And.intro (show 0=([]:List qH).length from rfl) (show 0=([]:List qH).length from rfl))) ?_;obtain rfl:=oi hm;refine q_sw 6 0 (q_sw 7 1 ?_);exact q_rt q_rm
  ·refine q_sk ?_;obtain⟨v18,h19,hm⟩:=qI hm;refine s_vv [qc 1 [38] 4 (FF a3 v18 h19)] 4 [35] [(10,vi v18.1),(11,vi v18.2)] (s_vu [] 4 [] [(12,vp 4 0)] [] [(4,bx 169 [ci (w64 (a4.X.B-a4.X.A)),ci (w64 (a4.Y.B-a4.Y.A))])] ?_);refine q_sq (q_jn (qFx a1 a2 a3 a4) (λp=>UR a1 a2 a3 a4 p=some r) ?_ ?_)
   ·rintro x21 hm;refine q_cq hm (λhm=>?_) (λhm=>?_)
    ·refine s_vu [] 5 [0,1,6,7,68] [(9,vb false)] [0,1] [] (q_fu [.ownB 2 5 5 3 1 (rf qJ [])] [] [] [2] [(2,bx 149 [cs (ByteArray.mk #[]),ci 0,ci 0,ci 0,ci 0,.own 5 0 1 0,.emp,ci 0,ci 0,ci 0,ci 0,ci 0,.emp,.emp]),(5,ro 0 3 1 0 (rf qJ []))] o0 ?_)
     refine q_fu [.ownB 2 6 6 3 1 (rf qJ [])] [] [] [2] [(2,bx 149 [cs (ByteArray.mk #[]),ci 0,ci 0,ci 0,ci 0,.own 5 0 1 0,.own 6 0 1 0,ci 0,ci 0,ci 0,ci 0,ci 0,.emp,.emp]),(6,ro 0 3 1 0 (rf qJ []))] o0 (q_fu [.ownB 2 12 7 182 3 (rf zB [])] [] [] [2] [(2,bx 149 [cs (ByteArray.mk #[]),ci 0,ci 0,ci 0,ci 0,.own 5 0 1 0,.own 6 0 1 0,ci 0,ci 0,ci 0,ci 0,ci 0,.own 7 0 3 0,.emp]),(7,ro 0 182 3 0 (rf zB []))] o0 ?_)
     refine q_fu [.ownB 2 13 8 122 7 (rf qE [])] [] [] [2] [(2,bx 149 [cs (ByteArray.mk #[]),ci 0,ci 0,ci 0,ci 0,.own 5 0 1 0,.own 6 0 1 0,ci 0,ci 0,ci 0,ci 0,ci 0,.own 7 0 3 0,.own 8 0 7 0]),(8,ro 0 122 7 0 (rf qE []))] o0 (q_fu [.len 5 (([]:List Int).length),.frz 5] [] [] [2,5] [(2,bx 149 [cs (ByteArray.mk #[]),ci 0,ci 0,ci 0,ci 0,tl qJ du ([]:List Int),.own 6 0 1 0,ci 0,ci 0,ci 0,ci 0,ci 0,.own 7 0 3 0,.own 8 0 7 0])] (o1 (And.intro (And.intro (show 0=([]:List Int).length from rfl) (show 0=([]:List Int).length from rfl)) (ko (([]:List Int).length)))) ?_)
     refine q_fu [.len 6 (([]:List Int).length),.frz 6] [] [] [2,6] [(2,bx 149 [cs (ByteArray.mk #[]),ci 0,ci 0,ci 0,ci 0,tl qJ du ([]:List Int),tl qJ du ([]:List Int),ci 0,ci 0,ci 0,ci 0,ci 0,.own 7 0 3 0,.own 8 0 7 0])] (o1 (And.intro (And.intro (show 0=([]:List Int).length from rfl) (show 0=([]:List Int).length from rfl)) (ko (([]:List Int).length)))) (q_fu [.len 7 (([]:List qR).length)] [] [] [2,7] [(2,bx 149 [cs (ByteArray.mk #[]),ci 0,ci 0,ci 0,ci 0,tl qJ du ([]:List Int),tl qJ du ([]:List Int),ci 0,ci 0,ci 0,ci 0,ci 0,.own 7 0 3 (([]:List qR).length),.own 8 0 7 0]),(7,ro 0 182 3 (([]:List qR).length) (rf zB []))] (o1 (And.intro (show 0=([]:List qR).length from rfl) (show 0=([]:List qR).length from rfl))) ?_)
     refine q_fu [.len 8 (([]:List qH).length)] [] [] [2,8] [(2,bx 149 [cs (ByteArray.mk #[]),ci 0,ci 0,ci 0,ci 0,tl qJ du ([]:List Int),tl qJ du ([]:List Int),ci 0,ci 0,ci 0,ci 0,ci 0,.own 7 0 3 (([]:List qR).length),.own 8 0 7 (([]:List qH).length)]),(8,ro 0 122 7 (([]:List qH).length) (rf qE []))] (o1 (And.intro (show 0=([]:List qH).length from rfl) (show 0=([]:List qH).length from rfl))) ?_;obtain rfl:=oi hm;refine q_sw 7 0 (q_sw 8 1 ?_);exact q_rt q_rm
    ·refine q_sk ?_;obtain⟨v23,h24,hm⟩:=qI hm;obtain⟨v25,h26,hm⟩:=qI hm;refine s_du [qc 3 [72] 5 (OB a1 v23 h24),qc 6 [74,75] 5 (qGl a1 a4 v25 h26)] [0,0,0,4,0,0,60,127,0,511] 5 [0,6,7,68] [(13,vp 6 0)] [0,1] [(5,ro 0 182 3 v25.length (rf zB v25)),(6,bx 149 [cs a3.Name,ci a3.Thick,ci a3.Width,ci a3.Allow,ci a3.Wane,tl qJ du a3.Lengths,tl qJ du a3.Prices,ci a4.X.A,ci a4.X.B,ci a4.Y.A,ci a4.Y.B,ci v23,.own 5 0 3 v25.length,.emp])] ?_;obtain⟨v27,h28,hm⟩:=qI hm
     refine s_vu [qd 4 (dex (cen [] [] 7 0 (IH v27) (UC v27) [78,81] [5])) (zF (K:=(kx E 100 0)) (b:=false) ⟨[(78,va [cs a3.Name,ci a3.Thick,ci a3.Width,ci a3.Allow,ci a3.Wane,tl qJ du a3.Lengths,tl qJ du a3.Prices,ci a4.X.A,ci a4.X.B,ci a4.Y.A,ci a4.Y.B,ci v23,.own 5 0 3 v25.length,.emp]),(81,va [ci 0,ci v23])],[(5,ro 0 182 3 v25.length (rf zB v25))]⟩ (opAt (rg f66 254) 4) [] [] 7 (o1 (ko v25.length)) rfl (CtX.emp (xs':=[.agg [cs a3.Name,ci a3.Thick,ci a3.Width,ci a3.Allow,ci a3.Wane,tl qJ du a3.Lengths,tl qJ du a3.Prices,ci a4.X.A,ci a4.X.B,ci a4.Y.A,ci a4.Y.B,ci v23,tl zB du v25,.emp],.agg [ci 0,ci v23]]) (SW (qT.mk a3 a4 v23 v25 ([]:List qH)) (Span.mk 0 v23) v27 h28) (And.intro (And.intro rfl (And.intro rfl (And.intro rfl (And.intro rfl (And.intro rfl (And.intro rfl (And.intro rfl (And.intro rfl (And.intro rfl (And.intro rfl (And.intro rfl (And.intro rfl (And.intro rfl (And.intro rfl trivial)))))))))))))) (And.intro (And.intro rfl (And.intro rfl trivial)) trivial))) (.inr ⟨(by kernel_rfl),qEB v27⟩) (by kernel_rfl))] 7 [] [(14,vp 7 0)] [] [(7,bx 58 (WN v27))] ?_
     refine q_sq (s_vv [] 8 [1] [(83,vc (tl qE du a2)),(84,vi (a2.length:Int)),(85,vi 0)] ?_);refine q_fu [.ownB 6 13 8 122 7 (rf qE [])] [] [] [6] [(6,bx 149 [cs a3.Name,ci a3.Thick,ci a3.Width,ci a3.Allow,ci a3.Wane,tl qJ du a3.Lengths,tl qJ du a3.Prices,ci a4.X.A,ci a4.X.B,ci a4.Y.A,ci a4.Y.B,ci v23,.own 5 0 3 v25.length,.own 8 0 7 0]),(8,ro 0 122 7 0 (rf qE []))] o0 ?_;obtain⟨o39,h40,hm⟩:=qI hm
     refine jN (nd f66 4084) 0 (by kernel_rfl) FUEL (λo=>OA a3 a4 v23 v25 o) o39 (q_hl (LJ a2 a3 a4 v23 v25 v27 0 ([]:List qH) 0) (qEy E a2 a3 a4 v23 v25 v27 FUEL 0 ([]:List qH) 0 o39 rfl h40)) (s_vu [] 9 [13] [(9,vb true)] [2,6] [(2,bx 149 [cs a3.Name,ci a3.Thick,ci a3.Width,ci a3.Allow,ci a3.Wane,tl qJ du a3.Lengths,tl qJ du a3.Prices,ci a4.X.A,ci a4.X.B,ci a4.Y.A,ci a4.Y.B,ci v23,.own 5 0 3 v25.length,.own 8 0 7 o39.length])] ?_);obtain rfl:=oi hm;refine q_sw 5 0 (q_sw 8 1 ?_);exact q_rt q_rm
   ·rcases bif_c hm with⟨b20,hm⟩|⟨b20,hm⟩
    ·exact q_vu [qf 5 b20] 5 [10,11,12] [(68,vb (!(((w64 (a4.X.B-a4.X.A))==v18.2)&&(((w64 (a4.Y.B-a4.Y.A))==v18.1)&&true))))] [4] [] (q_J (!(((w64 (a4.X.B-a4.X.A))==v18.2)&&(((w64 (a4.Y.B-a4.Y.A))==v18.1)&&true))) hm)
    ·exact q_vu [qf 5 b20] 5 [10,11,12] [(68,vb false)] [4] [] (q_J (false) hm)
 ·obtain⟨v5,h6,hm⟩:=qI hm;rcases bif_c hm with⟨b7,hm⟩|⟨b7,hm⟩
  ·exact q_vv [qc 1 [17] 3 (XI a1 v5 h6),qf 3 b7] 3 [] [(35,vb true)] (q_J (true) hm)
  ·obtain⟨v8,h9,hm⟩:=qI hm;rcases bif_c hm with⟨b10,hm⟩|⟨b10,hm⟩
   ·exact q_vv [qc 1 [17] 3 (XI a1 v5 h6),qf 3 b7,qk 5 [20,21] 3 ⟨[(20,vb false),(21,vc (tl qE du a2))],[]⟩ (VV a2 v8 h9),qf 8 b10] 3 [] [(35,vb true)] (q_J (true) hm)
   ·obtain⟨v11,h12,hm⟩:=qI hm;rcases bif_c hm with⟨b13,hm⟩|⟨b13,hm⟩
    ·exact q_vv [qc 1 [17] 3 (XI a1 v5 h6),qf 3 b7,qk 5 [20,21] 3 ⟨[(20,vb false),(21,vc (tl qE du a2))],[]⟩ (VV a2 v8 h9),qf 8 b10,qd 10 (drw 3 0 (rf qD [a3])) (litP qD du 7 (λ_=>rfl) ([a3]:List Product) 1 rfl),qd 11 (dex (cen [] [] 4 0 (PT v11) (ZY v11) [25,27] [3])) (zF (K:=(kx E 100 0)) (xs':=[.one (.lst 1 (rf qD [a3]))]) (b:=false) ⟨[(25,vb false),(27,vo 3 0 7 1)],[(3,ro 0 114 7 1 (rf qD [a3]))]⟩ (opAt (rg f66 12) 11) [] [] 4 (o1 (ko 1)) (by simp only[tl,rf,show([a3]:List Product).length=1 from rfl]) (FN ([a3]:List Product) v11 h12) (.inr ⟨(by kernel_rfl),OV v11⟩) (by kernel_rfl)),qf 14 b13] 3 [] [(35,vb true)] (q_J (true) hm)
    ·obtain⟨v14,h15,hm⟩:=qI hm
     refine q_vv [qc 1 [17] 3 (XI a1 v5 h6),qf 3 b7,qk 5 [20,21] 3 ⟨[(20,vb false),(21,vc (tl qE du a2))],[]⟩ (VV a2 v8 h9),qf 8 b10,qd 10 (drw 3 0 (rf qD [a3])) (litP qD du 7 (λ_=>rfl) ([a3]:List Product) 1 rfl),qd 11 (dex (cen [] [] 4 0 (PT v11) (ZY v11) [25,27] [3])) (zF (K:=(kx E 100 0)) (xs':=[.one (.lst 1 (rf qD [a3]))]) (b:=false) ⟨[(25,vb false),(27,vo 3 0 7 1)],[(3,ro 0 114 7 1 (rf qD [a3]))]⟩ (opAt (rg f66 12) 11) [] [] 4 (o1 (ko 1)) (by simp only[tl,rf,show([a3]:List Product).length=1 from rfl]) (FN ([a3]:List Product) v11 h12) (.inr ⟨(by kernel_rfl),OV v11⟩) (by kernel_rfl)),qf 14 b13,qk 16 [31,32] 4 ⟨[(31,vb false),(32,va (qK a4))],[]⟩ (qFe a4 v14 h15)] 3 [] [(35,vb (!v14))] ?_
     exact q_J (!v14) hm
open Go.Proofs Go.Proofs.Try
def qF8 (r:Bool):V:=vb r
def qGj (r:Bool):List (Nat×(Nat×O)):=[]
def qDh (x3:Bool):St:=
 ⟨[(2,vb x3)],[]⟩
theorem LG (a1:Int) (r:Bool) (hm:TE a1=some r):CtX Try.prog globs 64 0 0 [.one (ci a1)] [] (qF8 r) (qGj r):=by
 unfold TE at hm;refine q_E f64 9 λE=>?_;refine s_vn [] 0 ⟨[(0,vi a1)],[]⟩ (q_jn (qDh) (λp=>VG p=some r) ?_ ?_)
 ·rintro x3 hm;obtain rfl:=oi hm;exact q_rt q_rm
 ·rcases bif_c hm with⟨b2,hm⟩|⟨b2,hm⟩
  ·exact q_vn [qf 2 b2] 0 ⟨[(2,vb (decide (a1<=20000)))],[]⟩ (q_J (decide (a1<=20000)) hm)
  ·exact q_vn [qf 2 b2] 0 ⟨[(2,vb false)],[]⟩ (q_J (false) hm)
def qGv (r:Bool):V:=vb r
def qGE (r:Bool):List (Nat×(Nat×O)):=[]
def qDx (x3:Bool):St:=
 ⟨[(2,vb x3)],[]⟩
theorem OP (a1:Int) (r:Bool) (hm:RR a1=some r):CtX Try.prog globs 65 0 0 [.one (ci a1)] [] (qGv r) (qGE r):=by
 unfold RR at hm;refine q_E f65 9 λE=>?_;refine s_vn [] 0 ⟨[(0,vi a1)],[]⟩ (q_jn (qDx) (λp=>VM p=some r) ?_ ?_)
 ·rintro x3 hm;obtain rfl:=oi hm;exact q_rt q_rm
 ·rcases bif_c hm with⟨b2,hm⟩|⟨b2,hm⟩
  ·exact q_vn [qf 2 b2] 0 ⟨[(2,vb (decide (a1<=1000000)))],[]⟩ (q_J (decide (a1<=1000000)) hm)
  ·exact q_vn [qf 2 b2] 0 ⟨[(2,vb false)],[]⟩ (q_J (false) hm)
def qJf (r:Span×Int×Bool):V:= .tup [.agg (qN r.1),.one (ci r.2.1),.one (cb r.2.2)]
def qJx (r:Span×Int×Bool):List (Nat×(Nat×O)):=[]
def YU (a3:Product) (a5:Int) (a6:Int) (v14:qT×Bool) (x19:Int):St:=
 ⟨[(4,vi a5),(5,vi a6),(8,vp 0 0),(12,vp 2 0),(15,vp 5 0),(17,vp 6 0),(20,vi x19)],[(0,bx 114 (qD a3)),(2,bx 26 [ci 0,ci 0]),(3,ro 0 182 3 v14.1.zones.length (rf zB v14.1.zones)),(4,ro 0 122 7 v14.1.defects.length (rf qE v14.1.defects)),(5,bx 149 [cs v14.1.product.Name,ci v14.1.product.Thick,ci v14.1.product.Width,ci v14.1.product.Allow,ci v14.1.product.Wane,tl qJ du v14.1.product.Lengths,tl qJ du v14.1.product.Prices,ci v14.1.rect.X.A,ci v14.1.rect.X.B,ci v14.1.rect.Y.A,ci v14.1.rect.Y.B,ci v14.1.length,.own 3 0 3 v14.1.zones.length,.own 4 0 7 v14.1.defects.length])]⟩
def OF (a3:Product) (a5:Int) (a6:Int) (v14:qT×Bool) (x19:Int) (x24:Int) (x34:Int) (x35:Bool) (x36:Span):St:=
 (YU a3 a5 a6 v14 x19).up [] [(18,vi x34),(19,vb x35),(54,vc (tl qJ du a3.Lengths)),(55,vi (a3.Lengths.length:Int)),(56,vi x24)] [] [(6,bx 26 (qN x36))]
def qFY (a3:Product) (a5:Int) (a6:Int) (v14:qT×Bool) (x19:Int) (x22:Int) (x23:Bool) (x24:Int) (x25:Span) (v28:Int×Bool) (x32:Bool):St:=
 (YU a3 a5 a6 v14 x19).up [] [(18,vi x22),(19,vb x23),(23,vp 7 0),(24,vi v28.1),(54,vc (tl qJ du a3.Lengths)),(55,vi (a3.Lengths.length:Int)),(56,vi x24),(81,vb x32)] [] [(6,bx 26 (qN x25)),(7,bx 26 [ci x19,ci (w64 (x19+(a3.Lengths.getD x24.toNat du)))])]
def LL (a3:Product) (a5:Int) (a6:Int) (v14:qT×Bool) (x19:Int) (x22:Int) (x23:Bool) (x24:Int) (x25:Span):St:=
 (YU a3 a5 a6 v14 x19).up [] [(18,vi x22),(19,vb x23),(54,vc (tl qJ du a3.Lengths)),(55,vi (a3.Lengths.length:Int)),(56,vi x24)] [] [(6,bx 26 (qN x25))]
def CJ (a3:Product) (a5:Int) (a6:Int) (v14:qT×Bool) (x19:Int) (x37:Int) (x38:Bool) (x39:Span):St:=
 (YU a3 a5 a6 v14 x19).up [] [(18,vi x37),(19,vb x38)] [] [(6,bx 26 (qN x39))]
def LS (a3:Product) (a5:Int) (a6:Int) (v14:qT×Bool) (x17:Int) (x18:Bool) (x19:Int) (x20:Span):St:=
 (YU a3 a5 a6 v14 x19).up [] [(18,vi x17),(19,vb x18)] [] [(6,bx 26 (qN x20))]
def CI (x42:Int) (x43:Bool) (x44:Span):St:=
 ⟨[(12,vp 2 0),(17,vp 6 0),(18,vi x42),(19,vb x43)],[(2,bx 26 [ci 0,ci 0]),(6,bx 26 (qN x44))]⟩
def qE4 (a1:List qG) (a2:List qH) (a3:Product) (a4:Rect) (a5:Int) (a6:Int) (x12:Bool):St:=
 ⟨[(0,vc (tl qF du a1)),(1,vc (tl qE du a2)),(4,vi a5),(5,vi a6),(8,vp 0 0),(9,vp 1 0),(12,vp 2 0),(33,vb x12)],[(0,bx 114 (qD a3)),(1,bx 28 (qK a4)),(2,bx 26 [ci 0,ci 0])]⟩
theorem qD5 (E:Env 0) (a3:Product) (a5:Int) (a6:Int) (v14:qT×Bool) (x19:Int):∀(n:Nat) (x22:Int) (x23:Bool) (x24:Int) (x25:Span) (res:Int×Bool×Span),yI a3 a6 v14 x19 n x22 x23 x24 x25=some res->HL (kx E 88 0) (nd f41 130340) (jS 2 (λo=>CJ a3 a5 a6 v14 x19 o.1 o.2.1 o.2.2) res) n (LL a3 a5 a6 v14 x19 x22 x23 x24 x25):=by
 intro n
 induction n with
 |zero=>
  intro x22 x23 x24 x25 res hm;cases hm
 |succ n ih=>
  intro x22 x23 x24 x25 res hm;refine zE (s_va 7 [(57,vb (decide (x24<(a3.Lengths.length:Int))))] ?_);refine q_sq (q_cq hm (λhm=>?_) (λhm=>?_))
  ·refine q_sk (q_jn (ι:=Int×Bool×Span) (λp=>OF a3 a5 a6 v14 x19 x24 p.1 p.2.1 p.2.2) (λp=>NY x24 (yI a3 a6 v14 x19 n) p.1 p.2.1 p.2.2=some res) ?_ ?_)
   ·rintro⟨x34,x35,x36⟩ hm;show H _ (OF a3 a5 a6 v14 x19 x24 x34 x35 x36) _ _;exact q_vv [] 8 [56] [(56,vi (w64 (x24+1)))] (q_hl (LL a3 a5 a6 v14 x19 x34 x35 (w64 (x24+1)) x36) (ih x34 x35 (w64 (x24+1)) x36 _ hm))
   ·refine q_bk 3 ?_;obtain⟨g27,hm⟩:=qU hm;refine s_vv [qi 0 g27] 7 [57] [(22,vi (a3.Lengths.getD x24.toNat du))] (s_vu [] 7 [22] [(23,vp 7 0)] [] [(7,bx 26 [ci x19,ci (w64 (x19+(a3.Lengths.getD x24.toNat du)))])] ?_);obtain⟨v28,h29,hm⟩:=qI hm
    refine s_vv [qd 3 (dex (cen [] [] 8 0 (PS v28) (ZI v28) [66,67,68] [3,4])) (zF (K:=(kx E 88 0)) (b:=false) ⟨[(66,va [cs v14.1.product.Name,ci v14.1.product.Thick,ci v14.1.product.Width,ci v14.1.product.Allow,ci v14.1.product.Wane,tl qJ du v14.1.product.Lengths,tl qJ du v14.1.product.Prices,ci v14.1.rect.X.A,ci v14.1.rect.X.B,ci v14.1.rect.Y.A,ci v14.1.rect.Y.B,ci v14.1.length,.own 3 0 3 v14.1.zones.length,.own 4 0 7 v14.1.defects.length]),(67,va [ci x19,ci (w64 (x19+(a3.Lengths.getD x24.toNat du)))]),(68,vi a6)],[(3,ro 0 182 3 v14.1.zones.length (rf zB v14.1.zones)),(4,ro 0 122 7 v14.1.defects.length (rf qE v14.1.defects))]⟩ (opAt (rg f41 16683622) 3) [] [] 8 (o1 (And.intro (ko v14.1.zones.length) (ko v14.1.defects.length))) rfl (qBL (qT.mk v14.1.product v14.1.rect v14.1.length v14.1.zones v14.1.defects) (Span.mk x19 (w64 (x19+(a3.Lengths.getD x24.toNat du)))) a6 v28 h29) (.inr ⟨(by kernel_rfl),qB8 v28⟩) (by kernel_rfl))] 8 [] [(24,vi v28.1),(25,vb v28.2)] ?_
    refine q_jn (qFY a3 a5 a6 v14 x19 x22 x23 x24 x25 v28) (λp=>UW a3 x19 x22 x23 x24 x25 (yI a3 a6 v14 x19 n) v28 p=some res) ?_ ?_
    ·rintro x32 hm;refine q_cq hm (λhm=>?_) (λhm=>?_)
     ·exact q_vu [] 8 [18,19,23,24,81] [(18,vi v28.1),(19,vb true)] [6,7] [(6,bx 26 [ci x19,ci (w64 (x19+(a3.Lengths.getD x24.toNat du)))])] (q_J (v28.1,true,(Span.mk x19 (w64 (x19+(a3.Lengths.getD x24.toNat du))))) hm)
     ·exact q_sk (q_J (x22,x23,x25) hm)
    ·rcases bif_c hm with⟨b30,hm⟩|⟨b30,hm⟩
     ·rcases bif_c hm with⟨b31,hm⟩|⟨b31,hm⟩
      ·exact q_vv [qf 1 b30,qf 4 b31] 8 [25] [(81,vb true)] (q_J (true) hm)
      ·exact q_vv [qf 1 b30,qf 4 b31] 8 [25] [(81,vb (decide (v28.1>x22)))] (q_J (decide (v28.1>x22)) hm)
     ·exact q_vv [qf 1 b30] 8 [25] [(81,vb false)] (q_J (false) hm)
  ·refine q_ex 2 ?_;obtain rfl:=oi hm;exact q_l0
theorem qEj (E:Env 0) (a3:Product) (a5:Int) (a6:Int) (v14:qT×Bool):∀(n:Nat) (x17:Int) (x18:Bool) (x19:Int) (x20:Span) (res:Int×Bool×Span),YM a3 a5 a6 v14 n x17 x18 x19 x20=some res->HL (kx E 88 0) (nd f41 2036) (jS 0 (λo=>CI o.1 o.2.1 o.2.2) res) n (LS a3 a5 a6 v14 x17 x18 x19 x20):=by
 intro n
 induction n with
 |zero=>
  intro x17 x18 x19 x20 res hm;cases hm
 |succ n ih=>
  intro x17 x18 x19 x20 res hm;refine zE (q_sq ?_);refine s_va 7 [(49,vb (decide (x19<v14.1.length)))] (q_cq hm (λhm=>?_) (λhm=>?_))
  ·refine q_sk (q_sq ?_);refine q_bk 1 (s_vv [] 7 [49] [(54,vc (tl qJ du a3.Lengths)),(55,vi (a3.Lengths.length:Int)),(56,vi 0)] ?_);obtain⟨o40,h41,hm⟩:=qI hm;refine jN (nd f41 130340) 2 (by kernel_rfl) FUEL (λo=>CJ a3 a5 a6 v14 x19 o.1 o.2.1 o.2.2) o40 (q_hl (LL a3 a5 a6 v14 x19 x17 x18 0 x20) (qD5 E a3 a5 a6 v14 x19 FUEL x17 x18 0 x20 o40 h41)) (q_vv [] 7 [20] [(20,vi (w64 (x19+a5)))] ?_);exact q_hl (LS a3 a5 a6 v14 o40.1 o40.2.1 (w64 (x19+a5)) o40.2.2) (ih o40.1 o40.2.1 (w64 (x19+a5)) o40.2.2 _ hm)
  ·refine q_ex 0 ?_;obtain rfl:=oi hm;exact q_l0
theorem qBI (a1:List qG) (a2:List qH) (a3:Product) (a4:Rect) (a5:Int) (a6:Int) (r:Span×Int×Bool) (hm:DS a1 a2 a3 a4 a5 a6=some r):CtX Try.prog globs 41 0 0 [.one (tl qF du a1),.one (tl qE du a2),.agg (qD a3),.agg (qK a4),.one (ci a5),.one (ci a6)] [] (qJf r) (qJx r):=by
 unfold DS at hm;refine q_E f41 88 λE=>?_;refine s_vn [] 0 ⟨[(0,vc (tl qF du a1)),(1,vc (tl qE du a2)),(4,vi a5),(5,vi a6),(8,vp 0 0),(9,vp 1 0),(12,vp 2 0)],[(0,bx 114 (qD a3)),(1,bx 28 (qK a4)),(2,bx 26 [ci 0,ci 0])]⟩ (q_sq ?_);refine q_jn (qE4 a1 a2 a3 a4 a5 a6) (λp=>NT a1 a2 a3 a4 a5 a6 p=some r) ?_ ?_
 ·rintro x12 hm;refine q_cq hm (λhm=>?_) (λhm=>?_)
  ·refine s_vu [] 3 [0,1,4,5,8,9,33] [(13,vi 0),(14,vb false)] [0,1] [] ?_;obtain rfl:=oi hm;exact q_rt q_rm
  ·refine q_sk ?_;obtain⟨v14,h15,hm⟩:=qI hm
   refine s_vu [qc 4 [36,37,38,39] 3 (qHO a1 a2 a3 a4 v14 h15)] 3 [0,1,9,33] [(15,vp 5 0),(16,vb v14.2)] [1] [(3,ro 0 182 3 v14.1.zones.length (rf zB v14.1.zones)),(4,ro 0 122 7 v14.1.defects.length (rf qE v14.1.defects)),(5,bx 149 [cs v14.1.product.Name,ci v14.1.product.Thick,ci v14.1.product.Width,ci v14.1.product.Allow,ci v14.1.product.Wane,tl qJ du v14.1.product.Lengths,tl qJ du v14.1.product.Prices,ci v14.1.rect.X.A,ci v14.1.rect.X.B,ci v14.1.rect.Y.A,ci v14.1.rect.Y.B,ci v14.1.length,.own 3 0 3 v14.1.zones.length,.own 4 0 7 v14.1.defects.length])] (q_sq ?_)
   refine s_vv [] 6 [16] [(44,vb (!v14.2))] (q_cq hm (λhm=>?_) (λhm=>?_))
   ·refine s_vu [] 6 [4,5,8,15,44] [(13,vi 0),(14,vb false)] [0,3,4,5] [] ?_;obtain rfl:=oi hm;exact q_rt q_rm
   ·refine q_sk (s_vu [] 6 [44] [(17,vp 6 0)] [] [(6,bx 26 [ci 0,ci 0])] ?_);refine s_va 7 [(18,vi 0),(19,vb false)] (q_sq ?_);refine s_va 7 [(20,vi 0)] ?_;obtain⟨o45,h46,hm⟩:=qI hm;refine jN (nd f41 2036) 0 (by kernel_rfl) FUEL (λo=>CI o.1 o.2.1 o.2.2) o45 (q_hl (LS a3 a5 a6 v14 0 false 0 (Span.mk 0 0)) (qEj E a3 a5 a6 v14 FUEL 0 false 0 (Span.mk 0 0) o45 h46)) (s_vn [] 7 ⟨[(12,vp 2 0),(13,vi o45.1),(14,vb o45.2.1)],[(2,bx 26 (qN o45.2.2))]⟩ ?_);obtain rfl:=oi hm;exact q_rt q_rm
 ·obtain⟨v7,h8,hm⟩:=qI hm;rcases bif_c hm with⟨b9,hm⟩|⟨b9,hm⟩
  ·exact q_vv [qc 1 [26] 3 (LG a5 v7 h8),qf 3 b9] 3 [] [(33,vb true)] (q_J (true) hm)
  ·obtain⟨v10,h11,hm⟩:=qI hm;exact q_vv [qc 1 [26] 3 (LG a5 v7 h8),qf 3 b9,qk 5 [29,30] 3 ⟨[(29,vb false),(30,vi a6)],[]⟩ (OP a6 v10 h11)] 3 [] [(33,vb (!v10))] (q_J (!v10) hm)
end Saw
end Go.SL

import Derived.Test.YtpommeghjpbepaaEBase
import Derived.Test.YtpommeghjpbepaaEFa1
import Derived.Test.YtpommeghjpbepaaEFa2
set_option linter.unusedVariables false
set_option linter.unusedSimpArgs false
namespace Go.SL
namespace Saw
open Go.Proofs Go.Proofs.Try
set_option maxHeartbeats 4000000
set_option maxRecDepth 100000
def qKC (r:qV×Bool):V:= .tup [.agg [cs r.1.product.Name,ci r.1.product.Thick,ci r.1.product.Width,ci r.1.product.Allow,ci r.1.product.Wane,tl qL du r.1.product.Lengths,tl qL du r.1.product.Prices,ci r.1.rect.X.A,ci r.1.rect.X.B,ci r.1.rect.Y.A,ci r.1.rect.Y.B,ci r.1.length,.own 0 0 3 r.1.zones.length,.own 1 0 7 r.1.defects.length],.one (cb r.2)]
def qKK (r:qV×Bool):List (Nat×(Nat×O)):=[(0,ro 0 182 3 r.1.zones.length (rf zD r.1.zones)),(1,ro 0 122 7 r.1.defects.length (rf qE r.1.defects))]
def FQ (v25:(List qS)):St:=
 ⟨[(8,vp 2 0),(13,vp 6 0)],[(2,bx 149 [cs (ByteArray.mk #[]),ci 0,ci 0,ci 0,ci 0,.emp,.emp,ci 0,ci 0,ci 0,ci 0,ci 0,.emp,.emp]),(5,ro 0 182 3 v25.length (rf zD v25))]⟩
def AW (a1:List qG) (a2:List qJ) (a3:Product) (a4:Rect):St:=
 ⟨[(0,vc (tl qF du a1)),(1,vc (tl qE du a2)),(6,vp 0 0),(7,vp 1 0),(8,vp 2 0)],[(0,bx 114 (qC a3)),(1,bx 28 (qK a4)),(2,bx 149 [cs (ByteArray.mk #[]),ci 0,ci 0,ci 0,ci 0,.emp,.emp,ci 0,ci 0,ci 0,ci 0,ci 0,.emp,.emp])]⟩
def qAG (a2:List qJ) (a3:Product) (a4:Rect) (v23:Int) (v25:(List qS)) (v27:Box) (x29:Int) (l37:List qJ) (l37n:Nat):St:=
 (FQ v25).up [] [(14,vp 7 0),(83,vc (tl qE du a2)),(84,vi (a2.length:Int)),(85,vi x29)] [] [(6,bx 149 [cs a3.Name,ci a3.Thick,ci a3.Width,ci a3.Allow,ci a3.Wane,tl qL du a3.Lengths,tl qL du a3.Prices,ci a4.X.A,ci a4.X.B,ci a4.Y.A,ci a4.Y.B,ci v23,.own 5 0 3 v25.length,.own 8 0 7 l37n]),(7,bx 58 (WC v27)),(8,ro 0 122 7 l37n (rf qE l37))]
def HA (a2:List qJ) (a3:Product) (a4:Rect) (v23:Int) (v25:(List qS)) (v27:Box) (x29:Int) (l30:List qJ) (l30n:Nat):St:=
 (FQ v25).up [] [(14,vp 7 0),(83,vc (tl qE du a2)),(84,vi (a2.length:Int)),(85,vi x29)] [] [(6,bx 149 [cs a3.Name,ci a3.Thick,ci a3.Width,ci a3.Allow,ci a3.Wane,tl qL du a3.Lengths,tl qL du a3.Prices,ci a4.X.A,ci a4.X.B,ci a4.Y.A,ci a4.Y.B,ci v23,.own 5 0 3 v25.length,.own 8 0 7 l30n]),(7,bx 58 (WC v27)),(8,ro 0 122 7 l30n (rf qE l30))]
def qAj (a3:Product) (a4:Rect) (v23:Int) (v25:(List qS)) (l38:List qJ):St:=
 (FQ v25).up [] [] [] [(6,bx 149 [cs a3.Name,ci a3.Thick,ci a3.Width,ci a3.Allow,ci a3.Wane,tl qL du a3.Lengths,tl qL du a3.Prices,ci a4.X.A,ci a4.X.B,ci a4.Y.A,ci a4.Y.B,ci v23,.own 5 0 3 v25.length,.own 8 0 7 l38.length]),(8,ro 0 122 7 l38.length (rf qE l38))]
def qFZ (a1:List qG) (a2:List qJ) (a3:Product) (a4:Rect) (x21:Bool):St:=
 (AW a1 a2 a3 a4).up [] [(68,vb x21)] [] []
def qF4 (a1:List qG) (a2:List qJ) (a3:Product) (a4:Rect) (x16:Bool):St:=
 (AW a1 a2 a3 a4).up [] [(35,vb x16)] [] []
theorem qET (E:Env 0) (a2:List qJ) (a3:Product) (a4:Rect) (v23:Int) (v25:(List qS)) (v27:Box):∀(n:Nat) (x29:Int) (l30:List qJ) (l30n:Nat) (res:(List qJ)),l30.length=l30n->JA a2 v27 n x29 l30=some res->HL (kx E 100 0) (nd f66 4084) (jL 0 (λo=>qAj a3 a4 v23 v25 o) res) n (HA a2 a3 a4 v23 v25 v27 x29 l30 l30n):=by
 intro n
 induction n with
 |zero=>
  intro x29 l30 l30n res hl0 hm;cases hm
 |succ n ih=>
  intro x29 l30 l30n res hl0 hm;subst hl0;refine zF (s_va 9 [(86,vb (decide (x29<(a2.length:Int))))] ?_);refine q_sq (q_cq hm (λhm=>?_) (λhm=>?_))
  ·refine q_sk (q_jn (ι:=(List qJ)×Nat) (λp=>qAG a2 a3 a4 v23 v25 v27 x29 p.1 p.2) (λp=>p.1.length=p.2/\LF x29 (JA a2 v27 n) p.1=some res) ?_ ?_)
   ·rintro⟨l37,l37n⟩ ⟨el37,hm⟩;replace el37:l37.length=l37n:=el37;subst el37;show H _ (qAG a2 a3 a4 v23 v25 v27 x29 l37 l37.length) _ _;exact q_vv [] 11 [85] [(85,vi (w64 (x29+1)))] (q_hl (HA a2 a3 a4 v23 v25 v27 (w64 (x29+1)) l37 l37.length) (ih (w64 (x29+1)) l37 l37.length _ rfl hm))
   ·refine q_bk 1 ?_;obtain⟨g32,hm⟩:=qT hm;refine s_vu [qi 0 g32] 9 [86] [(16,vp 9 0)] [] [(9,bx 122 (qE (a2.getD x29.toNat du)))] ?_;obtain⟨v33,h34,hm⟩:=qH hm;refine s_vv [qc 2 [89,90] 10 (AO (a2.getD x29.toNat du) v27 v33 h34)] 10 [] [(91,vb v33)] (q_cq hm (λhm=>?_) (λhm=>?_))
    ·obtain⟨g36,hm⟩:=qT hm
     exact q_vu [qd 3 (drw 10 0 (rf qE [(a2.getD x29.toNat du)])) (litP qE du 7 (λ_=>rfl) ([(a2.getD x29.toNat du)]:List qJ) 1 rfl),qd 4 (drw 8 1 (rf qE (l30++[(a2.getD x29.toNat du)]))) (apP qE du l30 ([(a2.getD x29.toNat du)]:List qJ) l30.length 1 7 56 (1<=1) (kf _) rfl rfl (λ_=>rfl) (jQ g36))] 10 [16,91] [] [6,8,9] [(6,bx 149 [cs a3.Name,ci a3.Thick,ci a3.Width,ci a3.Allow,ci a3.Wane,tl qL du a3.Lengths,tl qL du a3.Prices,ci a4.X.A,ci a4.X.B,ci a4.Y.A,ci a4.Y.B,ci v23,.own 5 0 3 v25.length,.own 8 1 7 (l30.length+1)]),(8,ro 1 122 7 (l30.length+1) (rf qE (l30++[(a2.getD x29.toNat du)])))] (q_J ((l30++[(a2.getD x29.toNat du)]),(l30.length+1)) ⟨(wR rfl rfl),hm⟩)
    ·exact q_sk (q_J (l30,l30.length) ⟨rfl,hm⟩)
  ·refine q_ex 0 ?_;obtain rfl:=oi hm;exact q_l0
theorem qJa (a1:List qG) (a2:List qJ) (a3:Product) (a4:Rect) (r:qV×Bool) (hm:MQ a1 a2 a3 a4=some r):CtX Try.prog globs 66 0 0 [.one (tl qF du a1),.one (tl qE du a2),.agg (qC a3),.agg (qK a4)] [] (qKC r) (qKK r):=by
 unfold MQ at hm;refine q_E f66 100 λE=>?_;refine s_vn [] 0 ⟨[(0,vc (tl qF du a1)),(1,vc (tl qE du a2)),(6,vp 0 0),(7,vp 1 0),(8,vp 2 0)],[(0,bx 114 (qC a3)),(1,bx 28 (qK a4)),(2,bx 149 [cs (ByteArray.mk #[]),ci 0,ci 0,ci 0,ci 0,.emp,.emp,ci 0,ci 0,ci 0,ci 0,ci 0,.emp,.emp])]⟩ (q_sq ?_);refine q_jn (qF4 a1 a2 a3 a4) (λp=>RC a1 a2 a3 a4 p=some r) ?_ ?_
 ·rintro x16 hm;refine q_cq hm (λhm=>?_) (λhm=>?_)
  ·refine s_vu [] 4 [0,1,6,7,35] [(9,vb false)] [0,1] [] (q_fu [.ownB 2 5 4 3 1 (rf qL [])] [] [] [2] [(2,bx 149 [cs (ByteArray.mk #[]),ci 0,ci 0,ci 0,ci 0,.own 4 0 1 0,.emp,ci 0,ci 0,ci 0,ci 0,ci 0,.emp,.emp]),(4,ro 0 3 1 0 (rf qL []))] o0 ?_)
   refine q_fu [.ownB 2 6 5 3 1 (rf qL [])] [] [] [2] [(2,bx 149 [cs (ByteArray.mk #[]),ci 0,ci 0,ci 0,ci 0,.own 4 0 1 0,.own 5 0 1 0,ci 0,ci 0,ci 0,ci 0,ci 0,.emp,.emp]),(5,ro 0 3 1 0 (rf qL []))] o0 (q_fu [.ownB 2 12 6 182 3 (rf zD [])] [] [] [2] [(2,bx 149 [cs (ByteArray.mk #[]),ci 0,ci 0,ci 0,ci 0,.own 4 0 1 0,.own 5 0 1 0,ci 0,ci 0,ci 0,ci 0,ci 0,.own 6 0 3 0,.emp]),(6,ro 0 182 3 0 (rf zD []))] o0 ?_)
   refine q_fu [.ownB 2 13 7 122 7 (rf qE [])] [] [] [2] [(2,bx 149 [cs (ByteArray.mk #[]),ci 0,ci 0,ci 0,ci 0,.own 4 0 1 0,.own 5 0 1 0,ci 0,ci 0,ci 0,ci 0,ci 0,.own 6 0 3 0,.own 7 0 7 0]),(7,ro 0 122 7 0 (rf qE []))] o0 (q_fu [.len 4 (([]:List Int).length),.frz 4] [] [] [2,4] [(2,bx 149 [cs (ByteArray.mk #[]),ci 0,ci 0,ci 0,ci 0,tl qL du ([]:List Int),.own 5 0 1 0,ci 0,ci 0,ci 0,ci 0,ci 0,.own 6 0 3 0,.own 7 0 7 0])] (o1 (And.intro (And.intro (show 0=([]:List Int).length from rfl) (show 0=([]:List Int).length from rfl)) (kf (([]:List Int).length)))) ?_)
   refine q_fu [.len 5 (([]:List Int).length),.frz 5] [] [] [2,5] [(2,bx 149 [cs (ByteArray.mk #[]),ci 0,ci 0,ci 0,ci 0,tl qL du ([]:List Int),tl qL du ([]:List Int),ci 0,ci 0,ci 0,ci 0,ci 0,.own 6 0 3 0,.own 7 0 7 0])] (o1 (And.intro (And.intro (show 0=([]:List Int).length from rfl) (show 0=([]:List Int).length from rfl)) (kf (([]:List Int).length)))) (q_fu [.len 6 (([]:List qS).length)] [] [] [2,6] [(2,bx 149 [cs (ByteArray.mk #[]),ci 0,ci 0,ci 0,ci 0,tl qL du ([]:List Int),tl qL du ([]:List Int),ci 0,ci 0,ci 0,ci 0,ci 0,.own 6 0 3 (([]:List qS).length),.own 7 0 7 0]),(6,ro 0 182 3 (([]:List qS).length) (rf zD []))] (o1 (And.intro (show 0=([]:List qS).length from rfl) (show 0=([]:List qS).length from rfl))) ?_)
   refine q_fu [.len 7 (([]:List qJ).length)] [] [] [2,7] [(2,bx 149 [cs (ByteArray.mk #[]),ci 0,ci 0,ci 0,ci 0,tl qL du ([]:List Int),tl qL du ([]:List Int),ci 0,ci 0,ci 0,ci 0,ci 0,.own 6 0 3 (([]:List qS).length),.own 7 0 7 (([]:List qJ).length)]),(7,ro 0 122 7 (([]:List qJ).length) (rf qE []))] (o1 (And.intro (show 0=([]:List qJ).length from rfl) (show 0=([]:List qJ).length from rfl))) ?_;obtain rfl:=oi hm;refine q_sw 6 0 (q_sw 7 1 ?_);exact q_rt q_rm
  ·refine q_sk ?_;obtain⟨v18,h19,hm⟩:=qH hm;refine s_vv [qc 1 [38] 4 (MB a3 v18 h19)] 4 [35] [(10,vi v18.1),(11,vi v18.2)] (s_vu [] 4 [] [(12,vp 4 0)] [] [(4,bx 169 [ci (w64 (a4.X.B-a4.X.A)),ci (w64 (a4.Y.B-a4.Y.A))])] ?_);refine q_sq (q_jn (qFZ a1 a2 a3 a4) (λp=>GE a1 a2 a3 a4 p=some r) ?_ ?_)
   ·rintro x21 hm;refine q_cq hm (λhm=>?_) (λhm=>?_)
    ·refine s_vu [] 5 [0,1,6,7,68] [(9,vb false)] [0,1] [] (q_fu [.ownB 2 5 5 3 1 (rf qL [])] [] [] [2] [(2,bx 149 [cs (ByteArray.mk #[]),ci 0,ci 0,ci 0,ci 0,.own 5 0 1 0,.emp,ci 0,ci 0,ci 0,ci 0,ci 0,.emp,.emp]),(5,ro 0 3 1 0 (rf qL []))] o0 ?_)
     refine q_fu [.ownB 2 6 6 3 1 (rf qL [])] [] [] [2] [(2,bx 149 [cs (ByteArray.mk #[]),ci 0,ci 0,ci 0,ci 0,.own 5 0 1 0,.own 6 0 1 0,ci 0,ci 0,ci 0,ci 0,ci 0,.emp,.emp]),(6,ro 0 3 1 0 (rf qL []))] o0 (q_fu [.ownB 2 12 7 182 3 (rf zD [])] [] [] [2] [(2,bx 149 [cs (ByteArray.mk #[]),ci 0,ci 0,ci 0,ci 0,.own 5 0 1 0,.own 6 0 1 0,ci 0,ci 0,ci 0,ci 0,ci 0,.own 7 0 3 0,.emp]),(7,ro 0 182 3 0 (rf zD []))] o0 ?_)
     refine q_fu [.ownB 2 13 8 122 7 (rf qE [])] [] [] [2] [(2,bx 149 [cs (ByteArray.mk #[]),ci 0,ci 0,ci 0,ci 0,.own 5 0 1 0,.own 6 0 1 0,ci 0,ci 0,ci 0,ci 0,ci 0,.own 7 0 3 0,.own 8 0 7 0]),(8,ro 0 122 7 0 (rf qE []))] o0 (q_fu [.len 5 (([]:List Int).length),.frz 5] [] [] [2,5] [(2,bx 149 [cs (ByteArray.mk #[]),ci 0,ci 0,ci 0,ci 0,tl qL du ([]:List Int),.own 6 0 1 0,ci 0,ci 0,ci 0,ci 0,ci 0,.own 7 0 3 0,.own 8 0 7 0])] (o1 (And.intro (And.intro (show 0=([]:List Int).length from rfl) (show 0=([]:List Int).length from rfl)) (kf (([]:List Int).length)))) ?_)
     refine q_fu [.len 6 (([]:List Int).length),.frz 6] [] [] [2,6] [(2,bx 149 [cs (ByteArray.mk #[]),ci 0,ci 0,ci 0,ci 0,tl qL du ([]:List Int),tl qL du ([]:List Int),ci 0,ci 0,ci 0,ci 0,ci 0,.own 7 0 3 0,.own 8 0 7 0])] (o1 (And.intro (And.intro (show 0=([]:List Int).length from rfl) (show 0=([]:List Int).length from rfl)) (kf (([]:List Int).length)))) (q_fu [.len 7 (([]:List qS).length)] [] [] [2,7] [(2,bx 149 [cs (ByteArray.mk #[]),ci 0,ci 0,ci 0,ci 0,tl qL du ([]:List Int),tl qL du ([]:List Int),ci 0,ci 0,ci 0,ci 0,ci 0,.own 7 0 3 (([]:List qS).length),.own 8 0 7 0]),(7,ro 0 182 3 (([]:List qS).length) (rf zD []))] (o1 (And.intro (show 0=([]:List qS).length from rfl) (show 0=([]:List qS).length from rfl))) ?_)
     refine q_fu [.len 8 (([]:List qJ).length)] [] [] [2,8] [(2,bx 149 [cs (ByteArray.mk #[]),ci 0,ci 0,ci 0,ci 0,tl qL du ([]:List Int),tl qL du ([]:List Int),ci 0,ci 0,ci 0,ci 0,ci 0,.own 7 0 3 (([]:List qS).length),.own 8 0 7 (([]:List qJ).length)]),(8,ro 0 122 7 (([]:List qJ).length) (rf qE []))] (o1 (And.intro (show 0=([]:List qJ).length from rfl) (show 0=([]:List qJ).length from rfl))) ?_;obtain rfl:=oi hm;refine q_sw 7 0 (q_sw 8 1 ?_);exact q_rt q_rm
    ·refine q_sk ?_;obtain⟨v23,h24,hm⟩:=qH hm;obtain⟨v25,h26,hm⟩:=qH hm;refine s_du [qc 3 [72] 5 (HE a1 v23 h24),qc 6 [74,75] 5 (qHz a1 a4 v25 h26)] [0,0,0,4,0,0,60,127,0,511] 5 [0,6,7,68] [(13,vp 6 0)] [0,1] [(5,ro 0 182 3 v25.length (rf zD v25)),(6,bx 149 [cs a3.Name,ci a3.Thick,ci a3.Width,ci a3.Allow,ci a3.Wane,tl qL du a3.Lengths,tl qL du a3.Prices,ci a4.X.A,ci a4.X.B,ci a4.Y.A,ci a4.Y.B,ci v23,.own 5 0 3 v25.length,.emp])] ?_;obtain⟨v27,h28,hm⟩:=qH hm
     refine s_vu [qd 4 (dex (cen [] [] 7 0 (OO v27) (VJ v27) [78,81] [5])) (zA (K:=(kx E 100 0)) (b:=false) ⟨[(78,va [cs a3.Name,ci a3.Thick,ci a3.Width,ci a3.Allow,ci a3.Wane,tl qL du a3.Lengths,tl qL du a3.Prices,ci a4.X.A,ci a4.X.B,ci a4.Y.A,ci a4.Y.B,ci v23,.own 5 0 3 v25.length,.emp]),(81,va [ci 0,ci v23])],[(5,ro 0 182 3 v25.length (rf zD v25))]⟩ (opAt (rg f66 254) 4) [] [] 7 (o1 (kf v25.length)) rfl (CtX.emp (xs':=[.agg [cs a3.Name,ci a3.Thick,ci a3.Width,ci a3.Allow,ci a3.Wane,tl qL du a3.Lengths,tl qL du a3.Prices,ci a4.X.A,ci a4.X.B,ci a4.Y.A,ci a4.Y.B,ci v23,tl zD du v25,.emp],.agg [ci 0,ci v23]]) (AX (qV.mk a3 a4 v23 v25 ([]:List qJ)) (Span.mk 0 v23) v27 h28) (And.intro (And.intro rfl (And.intro rfl (And.intro rfl (And.intro rfl (And.intro rfl (And.intro rfl (And.intro rfl (And.intro rfl (And.intro rfl (And.intro rfl (And.intro rfl (And.intro rfl (And.intro rfl (And.intro rfl trivial)))))))))))))) (And.intro (And.intro rfl (And.intro rfl trivial)) trivial))) (.inr ⟨(by kernel_rfl),qEY v27⟩) (by kernel_rfl))] 7 [] [(14,vp 7 0)] [] [(7,bx 58 (WC v27))] ?_
     refine q_sq (s_vv [] 8 [1] [(83,vc (tl qE du a2)),(84,vi (a2.length:Int)),(85,vi 0)] ?_);refine q_fu [.ownB 6 13 8 122 7 (rf qE [])] [] [] [6] [(6,bx 149 [cs a3.Name,ci a3.Thick,ci a3.Width,ci a3.Allow,ci a3.Wane,tl qL du a3.Lengths,tl qL du a3.Prices,ci a4.X.A,ci a4.X.B,ci a4.Y.A,ci a4.Y.B,ci v23,.own 5 0 3 v25.length,.own 8 0 7 0]),(8,ro 0 122 7 0 (rf qE []))] o0 ?_;obtain⟨o39,h40,hm⟩:=qH hm
     refine jC (nd f66 4084) 0 (by kernel_rfl) FUEL (λo=>qAj a3 a4 v23 v25 o) o39 (q_hl (HA a2 a3 a4 v23 v25 v27 0 ([]:List qJ) 0) (qET E a2 a3 a4 v23 v25 v27 FUEL 0 ([]:List qJ) 0 o39 rfl h40)) (s_vu [] 9 [13] [(9,vb true)] [2,6] [(2,bx 149 [cs a3.Name,ci a3.Thick,ci a3.Width,ci a3.Allow,ci a3.Wane,tl qL du a3.Lengths,tl qL du a3.Prices,ci a4.X.A,ci a4.X.B,ci a4.Y.A,ci a4.Y.B,ci v23,.own 5 0 3 v25.length,.own 8 0 7 o39.length])] ?_);obtain rfl:=oi hm;refine q_sw 5 0 (q_sw 8 1 ?_);exact q_rt q_rm
   ·rcases bif_c hm with⟨b20,hm⟩|⟨b20,hm⟩
    ·exact q_vu [qf 5 b20] 5 [10,11,12] [(68,vb (!(((w64 (a4.X.B-a4.X.A))==v18.2)&&(((w64 (a4.Y.B-a4.Y.A))==v18.1)&&true))))] [4] [] (q_J (!(((w64 (a4.X.B-a4.X.A))==v18.2)&&(((w64 (a4.Y.B-a4.Y.A))==v18.1)&&true))) hm)
    ·exact q_vu [qf 5 b20] 5 [10,11,12] [(68,vb false)] [4] [] (q_J (false) hm)
 ·obtain⟨v5,h6,hm⟩:=qH hm;rcases bif_c hm with⟨b7,hm⟩|⟨b7,hm⟩
  ·exact q_vv [qc 1 [17] 3 (JY a1 v5 h6),qf 3 b7] 3 [] [(35,vb true)] (q_J (true) hm)
  ·obtain⟨v8,h9,hm⟩:=qH hm;rcases bif_c hm with⟨b10,hm⟩|⟨b10,hm⟩
   ·exact q_vv [qc 1 [17] 3 (JY a1 v5 h6),qf 3 b7,qk 5 [20,21] 3 ⟨[(20,vb false),(21,vc (tl qE du a2))],[]⟩ (RR a2 v8 h9),qf 8 b10] 3 [] [(35,vb true)] (q_J (true) hm)
   ·obtain⟨v11,h12,hm⟩:=qH hm;rcases bif_c hm with⟨b13,hm⟩|⟨b13,hm⟩
    ·exact q_vv [qc 1 [17] 3 (JY a1 v5 h6),qf 3 b7,qk 5 [20,21] 3 ⟨[(20,vb false),(21,vc (tl qE du a2))],[]⟩ (RR a2 v8 h9),qf 8 b10,qd 10 (drw 3 0 (rf qC [a3])) (litP qC du 7 (λ_=>rfl) ([a3]:List Product) 1 rfl),qd 11 (dex (cen [] [] 4 0 (RX v11) (WG v11) [25,27] [3])) (zA (K:=(kx E 100 0)) (xs':=[.one (.lst 1 (rf qC [a3]))]) (b:=false) ⟨[(25,vb false),(27,vo 3 0 7 1)],[(3,ro 0 114 7 1 (rf qC [a3]))]⟩ (opAt (rg f66 12) 11) [] [] 4 (o1 (kf 1)) (by simp only[tl,rf,show([a3]:List Product).length=1 from rfl]) (VV ([a3]:List Product) v11 h12) (.inr ⟨(by kernel_rfl),qAf v11⟩) (by kernel_rfl)),qf 14 b13] 3 [] [(35,vb true)] (q_J (true) hm)
    ·obtain⟨v14,h15,hm⟩:=qH hm
     refine q_vv [qc 1 [17] 3 (JY a1 v5 h6),qf 3 b7,qk 5 [20,21] 3 ⟨[(20,vb false),(21,vc (tl qE du a2))],[]⟩ (RR a2 v8 h9),qf 8 b10,qd 10 (drw 3 0 (rf qC [a3])) (litP qC du 7 (λ_=>rfl) ([a3]:List Product) 1 rfl),qd 11 (dex (cen [] [] 4 0 (RX v11) (WG v11) [25,27] [3])) (zA (K:=(kx E 100 0)) (xs':=[.one (.lst 1 (rf qC [a3]))]) (b:=false) ⟨[(25,vb false),(27,vo 3 0 7 1)],[(3,ro 0 114 7 1 (rf qC [a3]))]⟩ (opAt (rg f66 12) 11) [] [] 4 (o1 (kf 1)) (by simp only[tl,rf,show([a3]:List Product).length=1 from rfl]) (VV ([a3]:List Product) v11 h12) (.inr ⟨(by kernel_rfl),qAf v11⟩) (by kernel_rfl)),qf 14 b13,qk 16 [31,32] 4 ⟨[(31,vb false),(32,va (qK a4))],[]⟩ (qGW a4 v14 h15)] 3 [] [(35,vb (!v14))] ?_
     exact q_J (!v14) hm
def qHr (r:Bool):V:=vb r
def qHF (r:Bool):List (Nat×(Nat×O)):=[]
def qEf (x3:Bool):St:=
 ⟨[(2,vb x3)],[]⟩
theorem HJ (a1:Int) (r:Bool) (hm:UX a1=some r):CtX Try.prog globs 64 0 0 [.one (ci a1)] [] (qHr r) (qHF r):=by
 unfold UX at hm;refine q_E f64 9 λE=>?_;refine s_vn [] 0 ⟨[(0,vi a1)],[]⟩ (q_jn (qEf) (λp=>DH p=some r) ?_ ?_)
 ·rintro x3 hm;obtain rfl:=oi hm;exact q_rt q_rm
 ·rcases bif_c hm with⟨b2,hm⟩|⟨b2,hm⟩
  ·exact q_vn [qf 2 b2] 0 ⟨[(2,vb (decide (a1<=20000)))],[]⟩ (q_J (decide (a1<=20000)) hm)
  ·exact q_vn [qf 2 b2] 0 ⟨[(2,vb false)],[]⟩ (q_J (false) hm)
def qHH (r:Bool):V:=vb r
def qHU (r:Bool):List (Nat×(Nat×O)):=[]
def qEz (x3:Bool):St:=
 ⟨[(2,vb x3)],[]⟩
theorem qAH (a1:Int) (r:Bool) (hm:TZ a1=some r):CtX Try.prog globs 65 0 0 [.one (ci a1)] [] (qHH r) (qHU r):=by
 unfold TZ at hm;refine q_E f65 9 λE=>?_;refine s_vn [] 0 ⟨[(0,vi a1)],[]⟩ (q_jn (qEz) (λp=>DE p=some r) ?_ ?_)
 ·rintro x3 hm;obtain rfl:=oi hm;exact q_rt q_rm
 ·rcases bif_c hm with⟨b2,hm⟩|⟨b2,hm⟩
  ·exact q_vn [qf 2 b2] 0 ⟨[(2,vb (decide (a1<=1000000)))],[]⟩ (q_J (decide (a1<=1000000)) hm)
  ·exact q_vn [qf 2 b2] 0 ⟨[(2,vb false)],[]⟩ (q_J (false) hm)
open Go.Proofs Go.Proofs.Try
def qJW (r:Span×Int×Bool):V:= .tup [.agg (qO r.1),.one (ci r.2.1),.one (cb r.2.2)]
def qKX (r:Span×Int×Bool):List (Nat×(Nat×O)):=[]
def XP (a3:Product) (a5:Int) (a6:Int) (v14:qV×Bool) (x19:Int):St:=
 ⟨[(4,vi a5),(5,vi a6),(8,vp 0 0),(12,vp 2 0),(15,vp 5 0),(17,vp 6 0),(20,vi x19)],[(0,bx 114 (qC a3)),(2,bx 26 [ci 0,ci 0]),(3,ro 0 182 3 v14.1.zones.length (rf zD v14.1.zones)),(4,ro 0 122 7 v14.1.defects.length (rf qE v14.1.defects)),(5,bx 149 [cs v14.1.product.Name,ci v14.1.product.Thick,ci v14.1.product.Width,ci v14.1.product.Allow,ci v14.1.product.Wane,tl qL du v14.1.product.Lengths,tl qL du v14.1.product.Prices,ci v14.1.rect.X.A,ci v14.1.rect.X.B,ci v14.1.rect.Y.A,ci v14.1.rect.Y.B,ci v14.1.length,.own 3 0 3 v14.1.zones.length,.own 4 0 7 v14.1.defects.length])]⟩
def qAO (a3:Product) (a5:Int) (a6:Int) (v14:qV×Bool) (x19:Int) (x24:Int) (x34:Int) (x35:Bool) (x36:Span):St:=
 (XP a3 a5 a6 v14 x19).up [] [(18,vi x34),(19,vb x35),(54,vc (tl qL du a3.Lengths)),(55,vi (a3.Lengths.length:Int)),(56,vi x24)] [] [(6,bx 26 (qO x36))]
def qGu (a3:Product) (a5:Int) (a6:Int) (v14:qV×Bool) (x19:Int) (x22:Int) (x23:Bool) (x24:Int) (x25:Span) (v28:Int×Bool) (x32:Bool):St:=
 (XP a3 a5 a6 v14 x19).up [] [(18,vi x22),(19,vb x23),(23,vp 7 0),(24,vi v28.1),(54,vc (tl qL du a3.Lengths)),(55,vi (a3.Lengths.length:Int)),(56,vi x24),(81,vb x32)] [] [(6,bx 26 (qO x25)),(7,bx 26 [ci x19,ci (w64 (x19+(a3.Lengths.getD x24.toNat du)))])]
def HC (a3:Product) (a5:Int) (a6:Int) (v14:qV×Bool) (x19:Int) (x22:Int) (x23:Bool) (x24:Int) (x25:Span):St:=
 (XP a3 a5 a6 v14 x19).up [] [(18,vi x22),(19,vb x23),(54,vc (tl qL du a3.Lengths)),(55,vi (a3.Lengths.length:Int)),(56,vi x24)] [] [(6,bx 26 (qO x25))]
def qAn (a3:Product) (a5:Int) (a6:Int) (v14:qV×Bool) (x19:Int) (x37:Int) (x38:Bool) (x39:Span):St:=
 (XP a3 a5 a6 v14 x19).up [] [(18,vi x37),(19,vb x38)] [] [(6,bx 26 (qO x39))]
def MY (a3:Product) (a5:Int) (a6:Int) (v14:qV×Bool) (x17:Int) (x18:Bool) (x19:Int) (x20:Span):St:=
 (XP a3 a5 a6 v14 x19).up [] [(18,vi x17),(19,vb x18)] [] [(6,bx 26 (qO x20))]
def qAs (x42:Int) (x43:Bool) (x44:Span):St:=
 ⟨[(12,vp 2 0),(17,vp 6 0),(18,vi x42),(19,vb x43)],[(2,bx 26 [ci 0,ci 0]),(6,bx 26 (qO x44))]⟩
def qG9 (a1:List qG) (a2:List qJ) (a3:Product) (a4:Rect) (a5:Int) (a6:Int) (x12:Bool):St:=
 ⟨[(0,vc (tl qF du a1)),(1,vc (tl qE du a2)),(4,vi a5),(5,vi a6),(8,vp 0 0),(9,vp 1 0),(12,vp 2 0),(33,vb x12)],[(0,bx 114 (qC a3)),(1,bx 28 (qK a4)),(2,bx 26 [ci 0,ci 0])]⟩
theorem qFc (E:Env 0) (a3:Product) (a5:Int) (a6:Int) (v14:qV×Bool) (x19:Int):∀(n:Nat) (x22:Int) (x23:Bool) (x24:Int) (x25:Span) (res:Int×Bool×Span),yP a3 a6 v14 x19 n x22 x23 x24 x25=some res->HL (kx E 88 0) (nd f41 130340) (jL 2 (λo=>qAn a3 a5 a6 v14 x19 o.1 o.2.1 o.2.2) res) n (HC a3 a5 a6 v14 x19 x22 x23 x24 x25):=by
 intro n
 induction n with
 |zero=>
  intro x22 x23 x24 x25 res hm;cases hm
 |succ n ih=>
  intro x22 x23 x24 x25 res hm;refine zF (s_va 7 [(57,vb (decide (x24<(a3.Lengths.length:Int))))] ?_);refine q_sq (q_cq hm (λhm=>?_) (λhm=>?_))
  ·refine q_sk (q_jn (ι:=Int×Bool×Span) (λp=>qAO a3 a5 a6 v14 x19 x24 p.1 p.2.1 p.2.2) (λp=>LM x24 (yP a3 a6 v14 x19 n) p.1 p.2.1 p.2.2=some res) ?_ ?_)
   ·rintro⟨x34,x35,x36⟩ hm;show H _ (qAO a3 a5 a6 v14 x19 x24 x34 x35 x36) _ _;exact q_vv [] 8 [56] [(56,vi (w64 (x24+1)))] (q_hl (HC a3 a5 a6 v14 x19 x34 x35 (w64 (x24+1)) x36) (ih x34 x35 (w64 (x24+1)) x36 _ hm))
   ·refine q_bk 3 ?_;obtain⟨g27,hm⟩:=qT hm;refine s_vv [qi 0 g27] 7 [57] [(22,vi (a3.Lengths.getD x24.toNat du))] (s_vu [] 7 [22] [(23,vp 7 0)] [] [(7,bx 26 [ci x19,ci (w64 (x19+(a3.Lengths.getD x24.toNat du)))])] ?_);obtain⟨v28,h29,hm⟩:=qH hm
    refine s_vv [qd 3 (dex (cen [] [] 8 0 (RH v28) (ZR v28) [66,67,68] [3,4])) (zA (K:=(kx E 88 0)) (b:=false) ⟨[(66,va [cs v14.1.product.Name,ci v14.1.product.Thick,ci v14.1.product.Width,ci v14.1.product.Allow,ci v14.1.product.Wane,tl qL du v14.1.product.Lengths,tl qL du v14.1.product.Prices,ci v14.1.rect.X.A,ci v14.1.rect.X.B,ci v14.1.rect.Y.A,ci v14.1.rect.Y.B,ci v14.1.length,.own 3 0 3 v14.1.zones.length,.own 4 0 7 v14.1.defects.length]),(67,va [ci x19,ci (w64 (x19+(a3.Lengths.getD x24.toNat du)))]),(68,vi a6)],[(3,ro 0 182 3 v14.1.zones.length (rf zD v14.1.zones)),(4,ro 0 122 7 v14.1.defects.length (rf qE v14.1.defects))]⟩ (opAt (rg f41 16683622) 3) [] [] 8 (o1 (And.intro (kf v14.1.zones.length) (kf v14.1.defects.length))) rfl (qCU (qV.mk v14.1.product v14.1.rect v14.1.length v14.1.zones v14.1.defects) (Span.mk x19 (w64 (x19+(a3.Lengths.getD x24.toNat du)))) a6 v28 h29) (.inr ⟨(by kernel_rfl),qDC v28⟩) (by kernel_rfl))] 8 [] [(24,vi v28.1),(25,vb v28.2)] ?_
    refine q_jn (qGu a3 a5 a6 v14 x19 x22 x23 x24 x25 v28) (λp=>GD a3 x19 x22 x23 x24 x25 (yP a3 a6 v14 x19 n) v28 p=some res) ?_ ?_
    ·rintro x32 hm;refine q_cq hm (λhm=>?_) (λhm=>?_)
     ·exact q_vu [] 8 [18,19,23,24,81] [(18,vi v28.1),(19,vb true)] [6,7] [(6,bx 26 [ci x19,ci (w64 (x19+(a3.Lengths.getD x24.toNat du)))])] (q_J (v28.1,true,(Span.mk x19 (w64 (x19+(a3.Lengths.getD x24.toNat du))))) hm)
     ·exact q_sk (q_J (x22,x23,x25) hm)
    ·rcases bif_c hm with⟨b30,hm⟩|⟨b30,hm⟩
     ·rcases bif_c hm with⟨b31,hm⟩|⟨b31,hm⟩
      ·exact q_vv [qf 1 b30,qf 4 b31] 8 [25] [(81,vb true)] (q_J (true) hm)
      ·exact q_vv [qf 1 b30,qf 4 b31] 8 [25] [(81,vb (decide (v28.1>x22)))] (q_J (decide (v28.1>x22)) hm)
     ·exact q_vv [qf 1 b30] 8 [25] [(81,vb false)] (q_J (false) hm)
  ·refine q_ex 2 ?_;obtain rfl:=oi hm;exact q_l0
theorem qFs (E:Env 0) (a3:Product) (a5:Int) (a6:Int) (v14:qV×Bool):∀(n:Nat) (x17:Int) (x18:Bool) (x19:Int) (x20:Span) (res:Int×Bool×Span),XI a3 a5 a6 v14 n x17 x18 x19 x20=some res->HL (kx E 88 0) (nd f41 2036) (jL 0 (λo=>qAs o.1 o.2.1 o.2.2) res) n (MY a3 a5 a6 v14 x17 x18 x19 x20):=by
 intro n
 induction n with
 |zero=>
  intro x17 x18 x19 x20 res hm;cases hm
 |succ n ih=>
  intro x17 x18 x19 x20 res hm;refine zF (q_sq ?_);refine s_va 7 [(49,vb (decide (x19<v14.1.length)))] (q_cq hm (λhm=>?_) (λhm=>?_))
  ·refine q_sk (q_sq ?_);refine q_bk 1 (s_vv [] 7 [49] [(54,vc (tl qL du a3.Lengths)),(55,vi (a3.Lengths.length:Int)),(56,vi 0)] ?_);obtain⟨o40,h41,hm⟩:=qH hm;refine jC (nd f41 130340) 2 (by kernel_rfl) FUEL (λo=>qAn a3 a5 a6 v14 x19 o.1 o.2.1 o.2.2) o40 (q_hl (HC a3 a5 a6 v14 x19 x17 x18 0 x20) (qFc E a3 a5 a6 v14 x19 FUEL x17 x18 0 x20 o40 h41)) (q_vv [] 7 [20] [(20,vi (w64 (x19+a5)))] ?_);exact q_hl (MY a3 a5 a6 v14 o40.1 o40.2.1 (w64 (x19+a5)) o40.2.2) (ih o40.1 o40.2.1 (w64 (x19+a5)) o40.2.2 _ hm)
  ·refine q_ex 0 ?_;obtain rfl:=oi hm;exact q_l0
theorem AE (a1:List qG) (a2:List qJ) (a3:Product) (a4:Rect) (a5:Int) (a6:Int) (r:Span×Int×Bool) (hm:VX a1 a2 a3 a4 a5 a6=some r):CtX Try.prog globs 41 0 0 [.one (tl qF du a1),.one (tl qE du a2),.agg (qC a3),.agg (qK a4),.one (ci a5),.one (ci a6)] [] (qJW r) (qKX r):=by
 unfold VX at hm;refine q_E f41 88 λE=>?_;refine s_vn [] 0 ⟨[(0,vc (tl qF du a1)),(1,vc (tl qE du a2)),(4,vi a5),(5,vi a6),(8,vp 0 0),(9,vp 1 0),(12,vp 2 0)],[(0,bx 114 (qC a3)),(1,bx 28 (qK a4)),(2,bx 26 [ci 0,ci 0])]⟩ (q_sq ?_);refine q_jn (qG9 a1 a2 a3 a4 a5 a6) (λp=>LO a1 a2 a3 a4 a5 a6 p=some r) ?_ ?_
 ·rintro x12 hm;refine q_cq hm (λhm=>?_) (λhm=>?_)
  ·refine s_vu [] 3 [0,1,4,5,8,9,33] [(13,vi 0),(14,vb false)] [0,1] [] ?_;obtain rfl:=oi hm;exact q_rt q_rm
  ·refine q_sk ?_;obtain⟨v14,h15,hm⟩:=qH hm
   refine s_vu [qc 4 [36,37,38,39] 3 (qJa a1 a2 a3 a4 v14 h15)] 3 [0,1,9,33] [(15,vp 5 0),(16,vb v14.2)] [1] [(3,ro 0 182 3 v14.1.zones.length (rf zD v14.1.zones)),(4,ro 0 122 7 v14.1.defects.length (rf qE v14.1.defects)),(5,bx 149 [cs v14.1.product.Name,ci v14.1.product.Thick,ci v14.1.product.Width,ci v14.1.product.Allow,ci v14.1.product.Wane,tl qL du v14.1.product.Lengths,tl qL du v14.1.product.Prices,ci v14.1.rect.X.A,ci v14.1.rect.X.B,ci v14.1.rect.Y.A,ci v14.1.rect.Y.B,ci v14.1.length,.own 3 0 3 v14.1.zones.length,.own 4 0 7 v14.1.defects.length])] (q_sq ?_)
   refine s_vv [] 6 [16] [(44,vb (!v14.2))] (q_cq hm (λhm=>?_) (λhm=>?_))
   ·refine s_vu [] 6 [4,5,8,15,44] [(13,vi 0),(14,vb false)] [0,3,4,5] [] ?_;obtain rfl:=oi hm;exact q_rt q_rm
   ·refine q_sk (s_vu [] 6 [44] [(17,vp 6 0)] [] [(6,bx 26 [ci 0,ci 0])] ?_);refine s_va 7 [(18,vi 0),(19,vb false)] (q_sq ?_);refine s_va 7 [(20,vi 0)] ?_;obtain⟨o45,h46,hm⟩:=qH hm;refine jC (nd f41 2036) 0 (by kernel_rfl) FUEL (λo=>qAs o.1 o.2.1 o.2.2) o45 (q_hl (MY a3 a5 a6 v14 0 false 0 (Span.mk 0 0)) (qFs E a3 a5 a6 v14 FUEL 0 false 0 (Span.mk 0 0) o45 h46)) (s_vn [] 7 ⟨[(12,vp 2 0),(13,vi o45.1),(14,vb o45.2.1)],[(2,bx 26 (qO o45.2.2))]⟩ ?_);obtain rfl:=oi hm;exact q_rt q_rm
 ·obtain⟨v7,h8,hm⟩:=qH hm;rcases bif_c hm with⟨b9,hm⟩|⟨b9,hm⟩
  ·exact q_vv [qc 1 [26] 3 (HJ a5 v7 h8),qf 3 b9] 3 [] [(33,vb true)] (q_J (true) hm)
  ·obtain⟨v10,h11,hm⟩:=qH hm;exact q_vv [qc 1 [26] 3 (HJ a5 v7 h8),qf 3 b9,qk 5 [29,30] 3 ⟨[(29,vb false),(30,vi a6)],[]⟩ (qAH a6 v10 h11)] 3 [] [(33,vb (!v10))] (q_J (!v10) hm)
end Saw
end Go.SL

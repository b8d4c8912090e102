import Derived.Test.YtpommeghjpbepaaEBase
import Derived.Test.YtpommeghjpbepaaEFa1
set_option linter.unusedVariables false
set_option linter.unusedSimpArgs false
namespace Go.SL
namespace Saw
open Go.Proofs Go.Proofs.Try
set_option maxHeartbeats 4000000
set_option maxRecDepth 100000
def TS (a1:List qF) (a2:List qH) (a3:List Product) (a4:Int) (a5:Int) (a6:Int) (a7:Int) (a8:Int) (a9:Int) (a10:Int) (a11:Int) (a12:List Int) (a13:List qA) (a14:List Rect) (r:(List Rect)):V:=vo 3 0 4 r.length
def TQ (a1:List qF) (a2:List qH) (a3:List Product) (a4:Int) (a5:Int) (a6:Int) (a7:Int) (a8:Int) (a9:Int) (a10:Int) (a11:Int) (a12:List Int) (a13:List qA) (a14:List Rect) (r:(List Rect)):List (Nat×(Nat×O)):=[(0,bx 78 [tl qG du a1,tl qE du a2,tl qD du a3,ci a4,ci a5,ci a6,ci a7,ci a8,ci a9,ci a10,ci a11,.own 1 0 24 a13.length,tl qJ du a12,.own 2 0 4 a14.length]),(1,ro 0 80 24 a13.length (rf qC a13)),(2,ro 0 28 4 a14.length (rf qK a14)),(3,ro 0 28 4 r.length (rf qK r))]
def YV (a1:List qF) (a2:List qH) (a3:List Product) (a4:Int) (a5:Int) (a6:Int) (a7:Int) (a8:Int) (a9:Int) (a10:Int) (a11:Int) (a12:List Int) (a13:List qA) (a14:List Rect):St:=
 ⟨[],[(0,bx 78 [tl qG du a1,tl qE du a2,tl qD du a3,ci a4,ci a5,ci a6,ci a7,ci a8,ci a9,ci a10,ci a11,.own 1 0 24 a13.length,tl qJ du a12,.own 2 0 4 a14.length]),(1,ro 0 80 24 a13.length (rf qC a13)),(2,ro 0 28 4 a14.length (rf qK a14))]⟩
def BO (a1:List qF) (a2:List qH) (a3:List Product) (a4:Int) (a5:Int) (a6:Int) (a7:Int) (a8:Int) (a9:Int) (a10:Int) (a11:Int) (a12:List Int) (a13:List qA) (a14:List Rect) (x16:Int) (l22:List Rect) (l22n:Nat):St:=
 (YV a1 a2 a3 a4 a5 a6 a7 a8 a9 a10 a11 a12 a13 a14).up [] [(0,vp 0 0),(3,vo 3 0 4 l22n),(12,vc (tl qJ du a12)),(13,vi (a12.length:Int)),(14,vi x16)] [] [(3,ro 0 28 4 l22n (rf qK l22))]
def KQ (a1:List qF) (a2:List qH) (a3:List Product) (a4:Int) (a5:Int) (a6:Int) (a7:Int) (a8:Int) (a9:Int) (a10:Int) (a11:Int) (a12:List Int) (a13:List qA) (a14:List Rect) (l15:List Rect) (l15n:Nat) (x16:Int):St:=
 (YV a1 a2 a3 a4 a5 a6 a7 a8 a9 a10 a11 a12 a13 a14).up [] [(0,vp 0 0),(3,vo 3 0 4 l15n),(12,vc (tl qJ du a12)),(13,vi (a12.length:Int)),(14,vi x16)] [] [(3,ro 0 28 4 l15n (rf qK l15))]
def BP (a1:List qF) (a2:List qH) (a3:List Product) (a4:Int) (a5:Int) (a6:Int) (a7:Int) (a8:Int) (a9:Int) (a10:Int) (a11:Int) (a12:List Int) (a13:List qA) (a14:List Rect) (l23:List Rect):St:=
 (YV a1 a2 a3 a4 a5 a6 a7 a8 a9 a10 a11 a12 a13 a14).up [] [(3,vo 3 0 4 l23.length)] [] [(3,ro 0 28 4 l23.length (rf qK l23))]
theorem IB (E:Env 3) (a1:List qF) (a2:List qH) (a3:List Product) (a4:Int) (a5:Int) (a6:Int) (a7:Int) (a8:Int) (a9:Int) (a10:Int) (a11:Int) (a12:List Int) (a13:List qA) (a14:List Rect):∀(n:Nat) (l15:List Rect) (l15n:Nat) (x16:Int) (res:(List Rect)),l15.length=l15n->wJ a12 a13 n l15 x16=some res->HL (kx E 34 3) (nd f20 244) (jL 0 (λo=>BP a1 a2 a3 a4 a5 a6 a7 a8 a9 a10 a11 a12 a13 a14 o) res) n (KQ a1 a2 a3 a4 a5 a6 a7 a8 a9 a10 a11 a12 a13 a14 l15 l15n x16):=by
 intro n
 induction n with
 |zero=>
  intro l15 l15n x16 res hl0 hm;cases hm
 |succ n ih=>
  intro l15 l15n x16 res hl0 hm;subst hl0;refine zE (s_va 4 [(15,vb (decide (x16<(a12.length:Int))))] ?_);refine q_sq (q_cq hm (λhm=>?_) (λhm=>?_))
  ·refine q_sk (q_jn (ι:=(List Rect)×Nat) (λp=>BO a1 a2 a3 a4 a5 a6 a7 a8 a9 a10 a11 a12 a13 a14 x16 p.1 p.2) (λp=>p.1.length=p.2/\JX x16 (wJ a12 a13 n) p.1=some res) ?_ ?_)
   ·rintro⟨l22,l22n⟩ ⟨el22,hm⟩;replace el22:l22.length=l22n:=el22;subst el22;show H _ (BO a1 a2 a3 a4 a5 a6 a7 a8 a9 a10 a11 a12 a13 a14 x16 l22 l22.length) _ _;exact q_vv [] 6 [14] [(14,vi (w64 (x16+1)))] (q_hl (KQ a1 a2 a3 a4 a5 a6 a7 a8 a9 a10 a11 a12 a13 a14 l22 l22.length (w64 (x16+1))) (ih l22 l22.length (w64 (x16+1)) _ rfl hm))
   ·refine q_bk 1 ?_;obtain⟨g18,hm⟩:=qU hm;refine s_vv [qi 0 g18] 4 [15] [(5,vi (a12.getD x16.toNat du))] ?_;obtain⟨g19,hm⟩:=qU hm;refine s_vu [qi 5 g19,qd 6 dN (qY (zD g19))] 4 [5] [(6,vp 4 0)] [] [(4,bx 80 (qC (a13.getD ((a12.getD x16.toNat du).toNat) du)))] (s_va 5 [(26,vb ((a13.getD ((a12.getD x16.toNat du).toNat) du).stands))] ?_);refine q_cq hm (λhm=>?_) (λhm=>?_)
    ·obtain⟨g21,hm⟩:=qU hm
     exact q_vu [qd 3 (drw 5 0 (rf qK [(a13.getD ((a12.getD x16.toNat du).toNat) du).rect])) (litP qK du 4 (λ_=>rfl) ([(a13.getD ((a12.getD x16.toNat du).toNat) du).rect]:List Rect) 1 rfl),qd 4 (drw 3 1 (rf qK (l15++[(a13.getD ((a12.getD x16.toNat du).toNat) du).rect]))) (apP qK du l15 ([(a13.getD ((a12.getD x16.toNat du).toNat) du).rect]:List Rect) l15.length 1 4 32 (1<=1) (ko _) rfl rfl (λ_=>rfl) (QC g21))] 5 [3,6,26] [(3,vo 3 1 4 (l15.length+1))] [3,4] [(3,ro 1 28 4 (l15.length+1) (rf qK (l15++[(a13.getD ((a12.getD x16.toNat du).toNat) du).rect])))] (q_J ((l15++[(a13.getD ((a12.getD x16.toNat du).toNat) du).rect]),(l15.length+1)) ⟨(yM rfl rfl),hm⟩)
    ·exact q_sk (q_J (l15,l15.length) ⟨rfl,hm⟩)
  ·refine q_ex 0 ?_;obtain rfl:=oi hm;exact q_l0
theorem FO (a1:List qF) (a2:List qH) (a3:List Product) (a4:Int) (a5:Int) (a6:Int) (a7:Int) (a8:Int) (a9:Int) (a10:Int) (a11:Int) (a12:List Int) (a13:List qA) (a14:List Rect) (r:(List Rect)) (hm:yR a1 a2 a3 a4 a5 a6 a7 a8 a9 a10 a11 a12 a13 a14=some r):CtX Try.prog globs 20 3 3 [.one (.bptr 0 0 0)] [(0,bx 78 [tl qG du a1,tl qE du a2,tl qD du a3,ci a4,ci a5,ci a6,ci a7,ci a8,ci a9,ci a10,ci a11,.own 1 0 24 a13.length,tl qJ du a12,.own 2 0 4 a14.length]),(1,ro 0 80 24 a13.length (rf qC a13)),(2,ro 0 28 4 a14.length (rf qK a14))] (TS a1 a2 a3 a4 a5 a6 a7 a8 a9 a10 a11 a12 a13 a14 r) (TQ a1 a2 a3 a4 a5 a6 a7 a8 a9 a10 a11 a12 a13 a14 r):=by
 unfold yR at hm;refine q_E f20 34 λE=>?_;refine s_vn [] 3 ⟨[(0,vp 0 0)],[(0,bx 78 [tl qG du a1,tl qE du a2,tl qD du a3,ci a4,ci a5,ci a6,ci a7,ci a8,ci a9,ci a10,ci a11,.own 1 0 24 a13.length,tl qJ du a12,.own 2 0 4 a14.length]),(1,ro 0 80 24 a13.length (rf qC a13)),(2,ro 0 28 4 a14.length (rf qK a14))]⟩ (q_sq ?_);refine s_va 3 [(8,vb false)] (qAV f20 (.tmp 8) 26 27 (by kernel_rfl) (by kernel_rfl) ?_);refine q_sk (s_vv [] 3 [8] [(3,vc (.emp))] ?_);refine q_sq (s_va 3 [(12,vc (tl qJ du a12)),(13,vi (a12.length:Int)),(14,vi 0)] ?_);refine q_fo 3 3 28 4 qK ?_;obtain⟨o24,h25,hm⟩:=qI hm
 refine jG (nd f20 244) 0 (by kernel_rfl) FUEL (λo=>BP a1 a2 a3 a4 a5 a6 a7 a8 a9 a10 a11 a12 a13 a14 o) o24 (q_hl (KQ a1 a2 a3 a4 a5 a6 a7 a8 a9 a10 a11 a12 a13 a14 ([]:List Rect) 0 0) (IB E a1 a2 a3 a4 a5 a6 a7 a8 a9 a10 a11 a12 a13 a14 FUEL ([]:List Rect) 0 0 o24 rfl h25)) (s_vv [] 4 [3] [(2,vo 3 0 4 o24.length)] ?_);obtain rfl:=oi hm;exact q_rt q_rm
def ZK (a1:List qF) (a2:List qH) (a3:List Product) (a4:Int) (a5:Int) (a6:Int) (a7:Int) (a8:Int) (a9:Int) (a10:Int) (a11:Int) (a12:List Int) (a13:List qA) (a14:List Rect) (r:yA×Int):V:= .tup [.agg (VA r.1),.one (ci r.2)]
def ZQ (a1:List qF) (a2:List qH) (a3:List Product) (a4:Int) (a5:Int) (a6:Int) (a7:Int) (a8:Int) (a9:Int) (a10:Int) (a11:Int) (a12:List Int) (a13:List qA) (a14:List Rect) (r:yA×Int):List (Nat×(Nat×O)):=[(0,bx 78 [tl qG du a1,tl qE du a2,tl qD du a3,ci a4,ci a5,ci a6,ci a7,ci a8,ci a9,ci a10,ci a11,.own 1 0 24 a13.length,tl qJ du a12,.own 2 0 4 a14.length]),(1,ro 0 80 24 a13.length (rf qC a13)),(2,ro 0 28 4 a14.length (rf qK a14))]
def wY (a1:List qF) (a2:List qH) (a3:List Product) (a4:Int) (a5:Int) (a6:Int) (a7:Int) (a8:Int) (a9:Int) (a10:Int) (a11:Int) (a12:List Int) (a13:List qA) (a14:List Rect):St:=
 ⟨[(0,vp 0 0),(2,vp 3 0),(4,vp 4 0),(5,vp 5 0)],[(0,bx 78 [tl qG du a1,tl qE du a2,tl qD du a3,ci a4,ci a5,ci a6,ci a7,ci a8,ci a9,ci a10,ci a11,.own 1 0 24 a13.length,tl qJ du a12,.own 2 0 4 a14.length]),(1,ro 0 80 24 a13.length (rf qC a13)),(2,ro 0 28 4 a14.length (rf qK a14)),(3,bx 50 [ci 0,ci 0,ci 0,ci 0,ci 0]),(4,bx 26 [ci 0,ci a11])]⟩
def KP (a1:List qF) (a2:List qH) (a3:List Product) (a4:Int) (a5:Int) (a6:Int) (a7:Int) (a8:Int) (a9:Int) (a10:Int) (a11:Int) (a12:List Int) (a13:List qA) (a14:List Rect) (v15:Int) (x17:Int) (x18:Int):St:=
 (wY a1 a2 a3 a4 a5 a6 a7 a8 a9 a10 a11 a12 a13 a14).up [] [(34,vo 2 0 4 a14.length),(35,vi (a14.length:Int)),(36,vi x17)] [] [(5,bx 50 [ci v15,ci 0,ci 0,ci x18,ci 0])]
def BL (a1:List qF) (a2:List qH) (a3:List Product) (a4:Int) (a5:Int) (a6:Int) (a7:Int) (a8:Int) (a9:Int) (a10:Int) (a11:Int) (a12:List Int) (a13:List qA) (a14:List Rect) (x23:yA):St:=
 (wY a1 a2 a3 a4 a5 a6 a7 a8 a9 a10 a11 a12 a13 a14).up [] [] [] [(5,bx 50 (VA x23))]
def KO (a1:List qF) (a2:List qH) (a3:List Product) (a4:Int) (a5:Int) (a6:Int) (a7:Int) (a8:Int) (a9:Int) (a10:Int) (a11:Int) (a12:List Int) (a13:List qA) (a14:List Rect) (o24:yA) (v26:(List qM)) (x28:Int) (x29:Int) (x30:Int) (x31:Int):St:=
 (wY a1 a2 a3 a4 a5 a6 a7 a8 a9 a10 a11 a12 a13 a14).up [] [(8,vp 6 0),(60,vo 7 0 9 v26.length),(61,vi (v26.length:Int)),(62,vi x28)] [] [(5,bx 50 [ci o24.Log,ci x29,ci o24.Chips,ci x30,ci x31]),(6,bx 85 [ci a5,ci a11]),(7,ro 0 60 9 v26.length (rf wK v26))]
def BN (a1:List qF) (a2:List qH) (a3:List Product) (a4:Int) (a5:Int) (a6:Int) (a7:Int) (a8:Int) (a9:Int) (a10:Int) (a11:Int) (a12:List Int) (a13:List qA) (a14:List Rect) (x44:yA):St:=
 (wY a1 a2 a3 a4 a5 a6 a7 a8 a9 a10 a11 a12 a13 a14).up [] [] [] [(5,bx 50 (VA x44))]
def KN (a1:List qF) (a2:List qH) (a3:List Product) (a4:Int) (a5:Int) (a6:Int) (a7:Int) (a8:Int) (a9:Int) (a10:Int) (a11:Int) (a12:List Int) (a13:List qA) (a14:List Rect) (o45:yA) (v47:(List Rect)) (x49:Int) (x50:Int):St:=
 (wY a1 a2 a3 a4 a5 a6 a7 a8 a9 a10 a11 a12 a13 a14).up [] [(14,vi x49),(113,vo 8 0 4 v47.length),(114,vi (v47.length:Int)),(115,vi x50)] [] [(5,bx 50 (VA o45)),(8,ro 0 28 4 v47.length (rf qK v47))]
def BQ (a1:List qF) (a2:List qH) (a3:List Product) (a4:Int) (a5:Int) (a6:Int) (a7:Int) (a8:Int) (a9:Int) (a10:Int) (a11:Int) (a12:List Int) (a13:List qA) (a14:List Rect) (o45:yA) (x55:Int):St:=
 (wY a1 a2 a3 a4 a5 a6 a7 a8 a9 a10 a11 a12 a13 a14).up [4] [(14,vi x55)] [4] [(5,bx 50 (VA o45))]
theorem AS (E:Env 3) (a1:List qF) (a2:List qH) (a3:List Product) (a4:Int) (a5:Int) (a6:Int) (a7:Int) (a8:Int) (a9:Int) (a10:Int) (a11:Int) (a12:List Int) (a13:List qA) (a14:List Rect) (v15:Int):∀(n:Nat) (x17:Int) (x18:Int) (res:yA),jA a1 a2 a3 a4 a5 a6 a7 a8 a9 a10 a11 a12 a13 a14 v15 n x17 x18=some res->HL (kx E 160 3) (nd f11 500) (jL 0 (λo=>BL a1 a2 a3 a4 a5 a6 a7 a8 a9 a10 a11 a12 a13 a14 o) res) n (KP a1 a2 a3 a4 a5 a6 a7 a8 a9 a10 a11 a12 a13 a14 v15 x17 x18):=by
 intro n
 induction n with
 |zero=>
  intro x17 x18 res hm;cases hm
 |succ n ih=>
  intro x17 x18 res hm;refine zE (s_va 6 [(37,vb (decide (x17<(a14.length:Int))))] ?_);refine q_sq (q_cq hm (λhm=>?_) (λhm=>?_))
  ·refine q_sk (q_sq ?_);refine q_bk 1 ?_;obtain⟨g20,hm⟩:=qU hm;refine s_vu [qi 0 g20,qd 1 dN (qY (zD g20))] 6 [37] [(7,vp 6 0)] [] [(6,bx 28 (qK (a14.getD x17.toNat du)))] ?_;obtain⟨v21,h22,hm⟩:=qI hm
   refine q_du [qd 5 (dex (cen [(0,0),(1,0),(2,0)] [0,0,0] 4 3 (yJ (a14.getD x17.toNat du) (Span.mk 0 a11) a1 a2 a3 a4 a5 a6 a7 a8 a9 a10 a11 a12 a13 a14 v21) (yK (a14.getD x17.toNat du) (Span.mk 0 a11) a1 a2 a3 a4 a5 a6 a7 a8 a9 a10 a11 a12 a13 a14 v21) [42,43,44] [0,1,2])) (zJ (K:=(kx E 160 3)) ⟨[(42,vp 0 0),(43,va [ci (((a14.getD x17.toNat du).X).A),ci (((a14.getD x17.toNat du).X).B),ci (((a14.getD x17.toNat du).Y).A),ci (((a14.getD x17.toNat du).Y).B)]),(44,va [ci 0,ci a11])],[(0,bx 78 [tl qG du a1,tl qE du a2,tl qD du a3,ci a4,ci a5,ci a6,ci a7,ci a8,ci a9,ci a10,ci a11,.own 1 0 24 a13.length,tl qJ du a12,.own 2 0 4 a14.length]),(1,ro 0 80 24 a13.length (rf qC a13)),(2,ro 0 28 4 a14.length (rf qK a14))]⟩ (opAt (rg f11 16025) 5) [(0,0),(1,0),(2,0)] [0,0,0] 4 o0 rfl (QQ (a14.getD x17.toNat du) (Span.mk 0 a11) a1 a2 a3 a4 a5 a6 a7 a8 a9 a10 a11 a12 a13 a14 v21 h22) (.inl rfl) (by kernel_rfl))] [0,1,0,0,0,28,63,127,255] 7 [7] [] [5,6] [(5,bx 50 [ci v15,ci 0,ci 0,ci (w64 (x18+v21)),ci 0])] ?_
   exact q_vv [] 7 [36] [(36,vi (w64 (x17+1)))] (q_hl (KP a1 a2 a3 a4 a5 a6 a7 a8 a9 a10 a11 a12 a13 a14 v15 (w64 (x17+1)) (w64 (x18+v21))) (ih (w64 (x17+1)) (w64 (x18+v21)) _ hm))
  ·refine q_ex 0 ?_;obtain rfl:=oi hm;exact q_l0
theorem IC (E:Env 3) (a1:List qF) (a2:List qH) (a3:List Product) (a4:Int) (a5:Int) (a6:Int) (a7:Int) (a8:Int) (a9:Int) (a10:Int) (a11:Int) (a12:List Int) (a13:List qA) (a14:List Rect) (o24:yA) (v26:(List qM)):∀(n:Nat) (x28:Int) (x29:Int) (x30:Int) (x31:Int) (res:yA),jI a1 a2 a3 a4 a5 a6 a7 a8 a9 a10 a11 a12 a13 a14 o24 v26 n x28 x29 x30 x31=some res->HL (kx E 160 3) (nd f11 2036) (jL 2 (λo=>BN a1 a2 a3 a4 a5 a6 a7 a8 a9 a10 a11 a12 a13 a14 o) res) n (KO a1 a2 a3 a4 a5 a6 a7 a8 a9 a10 a11 a12 a13 a14 o24 v26 x28 x29 x30 x31):=by
 intro n
 induction n with
 |zero=>
  intro x28 x29 x30 x31 res hm;cases hm
 |succ n ih=>
  intro x28 x29 x30 x31 res hm;refine zE (s_va 8 [(63,vb (decide (x28<(v26.length:Int))))] ?_);refine q_sq (q_cq hm (λhm=>?_) (λhm=>?_))
  ·refine q_sk (q_sq ?_);refine q_bk 3 ?_;obtain⟨g33,hm⟩:=qU hm;refine s_vu [qi 0 g33,qd 1 dN (qY (zD g33))] 8 [63] [(10,vp 8 0)] [] [(8,bx 60 (wK (v26.getD x28.toNat du)))] (s_vu [] 9 [] [(11,vp 9 0)] [] [(9,bx 28 [ci ((((v26.getD x28.toNat du).Box).X).A),ci ((((v26.getD x28.toNat du).Box).X).B),ci ((((v26.getD x28.toNat du).Box).Y).A),ci ((((v26.getD x28.toNat du).Box).Y).B)])] ?_);obtain⟨v34,h35,hm⟩:=qI hm
   refine s_du [qd 7 (dex (cen [(0,0),(1,0),(2,0)] [0,0,0] 7 3 (yJ (Rect.mk (((v26.getD x28.toNat du).Box).X) (((v26.getD x28.toNat du).Box).Y)) (((v26.getD x28.toNat du).Box).Z) a1 a2 a3 a4 a5 a6 a7 a8 a9 a10 a11 a12 a13 a14 v34) (yK (Rect.mk (((v26.getD x28.toNat du).Box).X) (((v26.getD x28.toNat du).Box).Y)) (((v26.getD x28.toNat du).Box).Z) a1 a2 a3 a4 a5 a6 a7 a8 a9 a10 a11 a12 a13 a14 v34) [75,76,79] [0,1,2])) (zJ (K:=(kx E 160 3)) ⟨[(75,vp 0 0),(76,va [ci ((((v26.getD x28.toNat du).Box).X).A),ci ((((v26.getD x28.toNat du).Box).X).B),ci ((((v26.getD x28.toNat du).Box).Y).A),ci ((((v26.getD x28.toNat du).Box).Y).B)]),(79,va [ci ((((v26.getD x28.toNat du).Box).Z).A),ci ((((v26.getD x28.toNat du).Box).Z).B)])],[(0,bx 78 [tl qG du a1,tl qE du a2,tl qD du a3,ci a4,ci a5,ci a6,ci a7,ci a8,ci a9,ci a10,ci a11,.own 1 0 24 a13.length,tl qJ du a12,.own 2 0 4 a14.length]),(1,ro 0 80 24 a13.length (rf qC a13)),(2,ro 0 28 4 a14.length (rf qK a14))]⟩ (opAt (rg f11 260710) 7) [(0,0),(1,0),(2,0)] [0,0,0] 7 o0 rfl (QQ (Rect.mk (((v26.getD x28.toNat du).Box).X) (((v26.getD x28.toNat du).Box).Y)) (((v26.getD x28.toNat du).Box).Z) a1 a2 a3 a4 a5 a6 a7 a8 a9 a10 a11 a12 a13 a14 v34 h35) (.inl rfl) (by kernel_rfl))] [0,1,0,0,0,16,48,124,255,511,1023] 10 [] [] [5] [(5,bx 50 [ci o24.Log,ci (w64 (x29+v34)),ci o24.Chips,ci x30,ci x31])] ?_
   refine q_sq (s_va 10 [(87,va [.val (.func (.func 27) #[.agg #[.int .i64 a5,.int .i64 a11]] #[]),.val (.func (.func 28) #[.agg #[.int .i64 a5,.int .i64 a11]] #[])]),(88,vi 0)] ?_);refine R_ul (nd f11 4171380) 4 3 (zE ?_);refine s_va 10 [(89,vb true)] (q_sq ?_);refine EH f11 (.tmp 89) 33371044 33371045 (by kernel_rfl) (by kernel_rfl) (q_sk ?_);refine q_sq (q_bk 5 ?_);refine s_vv [qd 0 dN (show 0<=(0:Int)/\(0:Int)<((2:Nat):Int) by decide)] 10 [89] [(13,vc (.val (.func (.func 27) #[.agg #[.int .i64 a5,.int .i64 a11]] #[])))] ?_;obtain⟨v36,h37,hm⟩:=qI hm;obtain⟨v38,h39,hm⟩:=qI hm
   refine q_du [qd 8 (dex (cen [] [] 10 0 (BS v36) (BM v36) [95,98] [])) (callV (K:=(kx E 160 3)) ⟨[(95,vc (.val (.func (.func 27) #[.agg #[.int .i64 a5,.int .i64 a11]] #[]))),(98,va [ci ((((v26.getD x28.toNat du).Box).Z).A),ci ((((v26.getD x28.toNat du).Box).Z).B)])],[]⟩ (opAt (rg f11 133484185) 8) 10 o0 rfl (AE (jJ.mk a5 a11) (((v26.getD x28.toNat du).Box).Z) v36 h37) (.inl rfl) (by kernel_rfl)),qd 9 (dex (cen [(0,0),(1,0),(2,0)] [0,0,0] 7 3 (yJ (Rect.mk (((v26.getD x28.toNat du).Box).X) (((v26.getD x28.toNat du).Box).Y)) v36 a1 a2 a3 a4 a5 a6 a7 a8 a9 a10 a11 a12 a13 a14 v38) (yK (Rect.mk (((v26.getD x28.toNat du).Box).X) (((v26.getD x28.toNat du).Box).Y)) v36 a1 a2 a3 a4 a5 a6 a7 a8 a9 a10 a11 a12 a13 a14 v38) [93,94,99] [0,1,2])) (zJ (K:=(kx E 160 3)) ⟨[(93,vp 0 0),(94,va [ci ((((v26.getD x28.toNat du).Box).X).A),ci ((((v26.getD x28.toNat du).Box).X).B),ci ((((v26.getD x28.toNat du).Box).Y).A),ci ((((v26.getD x28.toNat du).Box).Y).B)]),(99,va (qP v36))],[(0,bx 78 [tl qG du a1,tl qE du a2,tl qD du a3,ci a4,ci a5,ci a6,ci a7,ci a8,ci a9,ci a10,ci a11,.own 1 0 24 a13.length,tl qJ du a12,.own 2 0 4 a14.length]),(1,ro 0 80 24 a13.length (rf qC a13)),(2,ro 0 28 4 a14.length (rf qK a14))]⟩ (opAt (rg f11 133484185) 9) [(0,0),(1,0),(2,0)] [0,0,0] 7 o0 rfl (QQ (Rect.mk (((v26.getD x28.toNat du).Box).X) (((v26.getD x28.toNat du).Box).Y)) v36 a1 a2 a3 a4 a5 a6 a7 a8 a9 a10 a11 a12 a13 a14 v38 h39) (.inl rfl) (by kernel_rfl))] [0,1,0,0,0,0,32,96,240,508,1023,2047,4095] 10 [13] [] [5] [(5,bx 50 [ci o24.Log,ci (w64 (x29+v34)),ci o24.Chips,ci (w64 (x30+v38)),ci x31])] ?_
   refine q_vv [] 10 [88] [(88,vi 1)] (zE ?_);refine s_va 10 [(89,vb true)] (q_sq ?_);refine EH f11 (.tmp 89) 33371044 33371045 (by kernel_rfl) (by kernel_rfl) (q_sk ?_);refine q_sq (q_bk 5 ?_);refine s_vv [qd 0 dN (show 0<=(1:Int)/\(1:Int)<((2:Nat):Int) by decide)] 10 [89] [(13,vc (.val (.func (.func 28) #[.agg #[.int .i64 a5,.int .i64 a11]] #[])))] ?_;obtain⟨v40,h41,hm⟩:=qI hm;obtain⟨v42,h43,hm⟩:=qI hm
   refine q_du [qd 8 (dex (cen [] [] 10 0 (GD v40) (GV v40) [95,98] [])) (callV (K:=(kx E 160 3)) ⟨[(95,vc (.val (.func (.func 28) #[.agg #[.int .i64 a5,.int .i64 a11]] #[]))),(98,va [ci ((((v26.getD x28.toNat du).Box).Z).A),ci ((((v26.getD x28.toNat du).Box).Z).B)])],[]⟩ (opAt (rg f11 133484185) 8) 10 o0 rfl (EE (jJ.mk a5 a11) (((v26.getD x28.toNat du).Box).Z) v40 h41) (.inl rfl) (by kernel_rfl)),qd 9 (dex (cen [(0,0),(1,0),(2,0)] [0,0,0] 7 3 (yJ (Rect.mk (((v26.getD x28.toNat du).Box).X) (((v26.getD x28.toNat du).Box).Y)) v40 a1 a2 a3 a4 a5 a6 a7 a8 a9 a10 a11 a12 a13 a14 v42) (yK (Rect.mk (((v26.getD x28.toNat du).Box).X) (((v26.getD x28.toNat du).Box).Y)) v40 a1 a2 a3 a4 a5 a6 a7 a8 a9 a10 a11 a12 a13 a14 v42) [93,94,99] [0,1,2])) (zJ (K:=(kx E 160 3)) ⟨[(93,vp 0 0),(94,va [ci ((((v26.getD x28.toNat du).Box).X).A),ci ((((v26.getD x28.toNat du).Box).X).B),ci ((((v26.getD x28.toNat du).Box).Y).A),ci ((((v26.getD x28.toNat du).Box).Y).B)]),(99,va (qP v40))],[(0,bx 78 [tl qG du a1,tl qE du a2,tl qD du a3,ci a4,ci a5,ci a6,ci a7,ci a8,ci a9,ci a10,ci a11,.own 1 0 24 a13.length,tl qJ du a12,.own 2 0 4 a14.length]),(1,ro 0 80 24 a13.length (rf qC a13)),(2,ro 0 28 4 a14.length (rf qK a14))]⟩ (opAt (rg f11 133484185) 9) [(0,0),(1,0),(2,0)] [0,0,0] 7 o0 rfl (QQ (Rect.mk (((v26.getD x28.toNat du).Box).X) (((v26.getD x28.toNat du).Box).Y)) v40 a1 a2 a3 a4 a5 a6 a7 a8 a9 a10 a11 a12 a13 a14 v42 h43) (.inl rfl) (by kernel_rfl))] [0,1,0,0,0,0,32,96,240,508,1023,2047,4095] 10 [13] [] [5] [(5,bx 50 [ci o24.Log,ci (w64 (x29+v34)),ci o24.Chips,ci (w64 ((w64 (x30+v38))+v42)),ci x31])] ?_
   refine q_vv [] 10 [88] [(88,vi 2)] (zE ?_);refine s_va 10 [(89,vb false)] (q_sq ?_);refine qAV f11 (.tmp 89) 33371044 33371045 (by kernel_rfl) (by kernel_rfl) (q_ex 4 ?_);refine q_vu [] 10 [10,11,87,88,89] [] [5,8,9] [(5,bx 50 [ci o24.Log,ci (w64 (x29+v34)),ci o24.Chips,ci (w64 ((w64 (x30+v38))+v42)),ci (w64 (x31+(w64 (1000000*((v26.getD x28.toNat du).Worth)))))])] (q_vv [] 10 [62] [(62,vi (w64 (x28+1)))] ?_)
   exact q_hl (KO a1 a2 a3 a4 a5 a6 a7 a8 a9 a10 a11 a12 a13 a14 o24 v26 (w64 (x28+1)) (w64 (x29+v34)) (w64 ((w64 (x30+v38))+v42)) (w64 (x31+(w64 (1000000*((v26.getD x28.toNat du).Worth)))))) (ih (w64 (x28+1)) (w64 (x29+v34)) (w64 ((w64 (x30+v38))+v42)) (w64 (x31+(w64 (1000000*((v26.getD x28.toNat du).Worth))))) _ hm)
  ·refine q_ex 2 ?_;obtain rfl:=oi hm;exact q_l0
theorem AB (E:Env 3) (a1:List qF) (a2:List qH) (a3:List Product) (a4:Int) (a5:Int) (a6:Int) (a7:Int) (a8:Int) (a9:Int) (a10:Int) (a11:Int) (a12:List Int) (a13:List qA) (a14:List Rect) (o45:yA) (v47:(List Rect)):∀(n:Nat) (x49:Int) (x50:Int) (res:Int),jH a1 a2 a3 a4 a5 a6 a7 a8 a9 a10 a11 a12 a13 a14 v47 n x49 x50=some res->HL (kx E 160 3) (nd f11 8180) (jL 6 (λo=>BQ a1 a2 a3 a4 a5 a6 a7 a8 a9 a10 a11 a12 a13 a14 o45 o) res) n (KN a1 a2 a3 a4 a5 a6 a7 a8 a9 a10 a11 a12 a13 a14 o45 v47 x49 x50):=by
 intro n
 induction n with
 |zero=>
  intro x49 x50 res hm;cases hm
 |succ n ih=>
  intro x49 x50 res hm;refine zE (s_va 9 [(116,vb (decide (x50<(v47.length:Int))))] ?_);refine q_sq (q_cq hm (λhm=>?_) (λhm=>?_))
  ·refine q_sk (q_sq ?_);refine q_bk 7 ?_;obtain⟨g52,hm⟩:=qU hm;refine s_vu [qi 0 g52,qd 1 dN (qY (zD g52))] 9 [116] [(16,vp 9 0)] [] [(9,bx 28 (qK (v47.getD x50.toNat du)))] ?_;obtain⟨v53,h54,hm⟩:=qI hm
   refine q_vu [qd 4 (dex (cen [(0,0),(1,0),(2,0)] [0,0,0] 7 3 (yJ (v47.getD x50.toNat du) (Span.mk 0 a11) a1 a2 a3 a4 a5 a6 a7 a8 a9 a10 a11 a12 a13 a14 v53) (yK (v47.getD x50.toNat du) (Span.mk 0 a11) a1 a2 a3 a4 a5 a6 a7 a8 a9 a10 a11 a12 a13 a14 v53) [120,121,122] [0,1,2])) (zJ (K:=(kx E 160 3)) ⟨[(120,vp 0 0),(121,va [ci (((v47.getD x50.toNat du).X).A),ci (((v47.getD x50.toNat du).X).B),ci (((v47.getD x50.toNat du).Y).A),ci (((v47.getD x50.toNat du).Y).B)]),(122,va [ci 0,ci a11])],[(0,bx 78 [tl qG du a1,tl qE du a2,tl qD du a3,ci a4,ci a5,ci a6,ci a7,ci a8,ci a9,ci a10,ci a11,.own 1 0 24 a13.length,tl qJ du a12,.own 2 0 4 a14.length]),(1,ro 0 80 24 a13.length (rf qC a13)),(2,ro 0 28 4 a14.length (rf qK a14))]⟩ (opAt (rg f11 261785) 4) [(0,0),(1,0),(2,0)] [0,0,0] 7 o0 rfl (QQ (v47.getD x50.toNat du) (Span.mk 0 a11) a1 a2 a3 a4 a5 a6 a7 a8 a9 a10 a11 a12 a13 a14 v53 h54) (.inl rfl) (by kernel_rfl))] 10 [14,16] [(14,vi (w64 (x49+v53)))] [9] [] ?_
   exact q_vv [] 10 [115] [(115,vi (w64 (x50+1)))] (q_hl (KN a1 a2 a3 a4 a5 a6 a7 a8 a9 a10 a11 a12 a13 a14 o45 v47 (w64 (x49+v53)) (w64 (x50+1))) (ih (w64 (x49+v53)) (w64 (x50+1)) _ hm))
  ·refine q_ex 6 ?_;obtain rfl:=oi hm;exact q_l0
theorem JZ (a1:List qF) (a2:List qH) (a3:List Product) (a4:Int) (a5:Int) (a6:Int) (a7:Int) (a8:Int) (a9:Int) (a10:Int) (a11:Int) (a12:List Int) (a13:List qA) (a14:List Rect) (r:yA×Int) (hm:wM a1 a2 a3 a4 a5 a6 a7 a8 a9 a10 a11 a12 a13 a14=some r):CtX Try.prog globs 11 3 3 [.one (.bptr 0 0 0)] [(0,bx 78 [tl qG du a1,tl qE du a2,tl qD du a3,ci a4,ci a5,ci a6,ci a7,ci a8,ci a9,ci a10,ci a11,.own 1 0 24 a13.length,tl qJ du a12,.own 2 0 4 a14.length]),(1,ro 0 80 24 a13.length (rf qC a13)),(2,ro 0 28 4 a14.length (rf qK a14))] (ZK a1 a2 a3 a4 a5 a6 a7 a8 a9 a10 a11 a12 a13 a14 r) (ZQ a1 a2 a3 a4 a5 a6 a7 a8 a9 a10 a11 a12 a13 a14 r):=by
 unfold wM at hm;refine q_E f11 160 λE=>?_;refine s_vn [] 3 ⟨[(0,vp 0 0),(2,vp 3 0)],[(0,bx 78 [tl qG du a1,tl qE du a2,tl qD du a3,ci a4,ci a5,ci a6,ci a7,ci a8,ci a9,ci a10,ci a11,.own 1 0 24 a13.length,tl qJ du a12,.own 2 0 4 a14.length]),(1,ro 0 80 24 a13.length (rf qC a13)),(2,ro 0 28 4 a14.length (rf qK a14)),(3,bx 50 [ci 0,ci 0,ci 0,ci 0,ci 0])]⟩ (q_sq ?_);refine s_va 4 [(18,vb false)] (qAV f11 (.tmp 18) 26 27 (by kernel_rfl) (by kernel_rfl) ?_);refine q_sk (s_vu [] 4 [18] [(4,vp 4 0)] [] [(4,bx 26 [ci 0,ci a11])] ?_);obtain⟨v15,h16,hm⟩:=qI hm
 refine s_vu [qc 4 [28] 5 (ZP a1 v15 h16)] 5 [] [(5,vp 5 0)] [] [(5,bx 50 [ci v15,ci 0,ci 0,ci 0,ci 0])] (q_sq ?_);refine s_va 6 [(34,vo 2 0 4 a14.length),(35,vi (a14.length:Int)),(36,vi 0)] ?_;obtain⟨o24,h25,hm⟩:=qI hm;refine jG (nd f11 500) 0 (by kernel_rfl) FUEL (λo=>BL a1 a2 a3 a4 a5 a6 a7 a8 a9 a10 a11 a12 a13 a14 o) o24 (q_hl (KP a1 a2 a3 a4 a5 a6 a7 a8 a9 a10 a11 a12 a13 a14 v15 0 0) (AS E a1 a2 a3 a4 a5 a6 a7 a8 a9 a10 a11 a12 a13 a14 v15 FUEL 0 0 o24 h25)) (s_du [] [0,1,3,7,15,0,32,96,224,511,0,2047] 6 [] [(8,vp 6 0)] [] [(6,bx 85 [ci a5,ci a11])] ?_);refine q_sq ?_
 obtain⟨v26,h27,hm⟩:=qI hm
 refine s_vu [qd 1 (dex (cen [(0,0),(1,0),(2,0)] [0,0,0] 4 3 (jC a1 a2 a3 a4 a5 a6 a7 a8 a9 a10 a11 a12 a13 a14 v26) (jE a1 a2 a3 a4 a5 a6 a7 a8 a9 a10 a11 a12 a13 a14 v26) [59] [0,1,2])) (zJ (K:=(kx E 160 3)) ⟨[(59,vp 0 0)],[(0,bx 78 [tl qG du a1,tl qE du a2,tl qD du a3,ci a4,ci a5,ci a6,ci a7,ci a8,ci a9,ci a10,ci a11,.own 1 0 24 a13.length,tl qJ du a12,.own 2 0 4 a14.length]),(1,ro 0 80 24 a13.length (rf qC a13)),(2,ro 0 28 4 a14.length (rf qK a14))]⟩ (opAt (rg f11 508) 1) [(0,0),(1,0),(2,0)] [0,0,0] 4 o0 rfl (yE a1 a2 a3 a4 a5 a6 a7 a8 a9 a10 a11 a12 a13 a14 v26 h27) (.inl rfl) (by kernel_rfl))] 7 [] [(60,vo 7 0 9 v26.length),(61,vi (v26.length:Int)),(62,vi 0)] [] [(7,ro 0 60 9 v26.length (rf wK v26))] ?_
 obtain⟨o45,h46,hm⟩:=qI hm;refine jG (nd f11 2036) 2 (by kernel_rfl) FUEL (λo=>BN a1 a2 a3 a4 a5 a6 a7 a8 a9 a10 a11 a12 a13 a14 o) o45 (q_hl (KO a1 a2 a3 a4 a5 a6 a7 a8 a9 a10 a11 a12 a13 a14 o24 v26 0 o24.Boards o24.Dust o24.Value) (IC E a1 a2 a3 a4 a5 a6 a7 a8 a9 a10 a11 a12 a13 a14 o24 v26 FUEL 0 o24.Boards o24.Dust o24.Value o45 h46)) (s_va 8 [(14,vi 0)] ?_);refine q_sq ?_;obtain⟨v47,h48,hm⟩:=qI hm
 refine s_vu [qd 1 (dex (cen [(0,0),(1,0),(2,0)] [0,0,0] 5 3 (TS a1 a2 a3 a4 a5 a6 a7 a8 a9 a10 a11 a12 a13 a14 v47) (TQ a1 a2 a3 a4 a5 a6 a7 a8 a9 a10 a11 a12 a13 a14 v47) [112] [0,1,2])) (zJ (K:=(kx E 160 3)) ⟨[(112,vp 0 0)],[(0,bx 78 [tl qG du a1,tl qE du a2,tl qD du a3,ci a4,ci a5,ci a6,ci a7,ci a8,ci a9,ci a10,ci a11,.own 1 0 24 a13.length,tl qJ du a12,.own 2 0 4 a14.length]),(1,ro 0 80 24 a13.length (rf qC a13)),(2,ro 0 28 4 a14.length (rf qK a14))]⟩ (opAt (rg f11 2044) 1) [(0,0),(1,0),(2,0)] [0,0,0] 5 o0 rfl (FO a1 a2 a3 a4 a5 a6 a7 a8 a9 a10 a11 a12 a13 a14 v47 h48) (.inl rfl) (by kernel_rfl))] 8 [] [(113,vo 8 0 4 v47.length),(114,vi (v47.length:Int)),(115,vi 0)] [] [(8,ro 0 28 4 v47.length (rf qK v47))] ?_
 obtain⟨o56,h57,hm⟩:=qI hm;refine jG (nd f11 8180) 6 (by kernel_rfl) FUEL (λo=>BQ a1 a2 a3 a4 a5 a6 a7 a8 a9 a10 a11 a12 a13 a14 o45 o) o56 (q_hl (KN a1 a2 a3 a4 a5 a6 a7 a8 a9 a10 a11 a12 a13 a14 o45 v47 0 0) (AB E a1 a2 a3 a4 a5 a6 a7 a8 a9 a10 a11 a12 a13 a14 o45 v47 FUEL 0 0 o56 h57)) (s_vu [] 9 [] [] [5] [(5,bx 50 [ci o45.Log,ci o45.Boards,ci (w64 ((w64 ((w64 (o45.Log-o45.Boards))-o45.Dust))-o56)),ci o45.Dust,ci o45.Value])] ?_)
 refine s_du [] [0,1,0,4,12,28,60,0,128,508,0,1024,3072,7168,15360,0,32768,130048,262140,524287,1048575,2097151] 9 [0] [] [5] [(5,bx 50 [ci o45.Log,ci o45.Boards,ci (w64 ((w64 ((w64 (o45.Log-o45.Boards))-o45.Dust))-o56)),ci o45.Dust,ci (w64 (o45.Value+(w64 ((w64 (a8*(w64 ((w64 ((w64 (o45.Log-o45.Boards))-o45.Dust))-o56))))+(w64 (a9*o45.Dust))))))])] (s_vu [] 9 [5,14] [(3,vi o56)] [3,5] [(3,bx 50 [ci o45.Log,ci o45.Boards,ci (w64 ((w64 ((w64 (o45.Log-o45.Boards))-o45.Dust))-o56)),ci o45.Dust,ci (w64 (o45.Value+(w64 ((w64 (a8*(w64 ((w64 ((w64 (o45.Log-o45.Boards))-o45.Dust))-o56))))+(w64 (a9*o45.Dust))))))])] ?_)
 obtain rfl:=oi hm;exact q_rt q_rm
def PZ (a1:List qF) (a2:List qH) (a3:List Product) (a4:Int) (a5:Int) (a6:Int) (a7:Int) (a8:Int) (a9:Int) (a10:Int) (a11:Int) (a12:List Int) (a13:List qA) (a14:List Rect) (r:Int×(List Int)):V:=vi r.1
def PY (a1:List qF) (a2:List qH) (a3:List Product) (a4:Int) (a5:Int) (a6:Int) (a7:Int) (a8:Int) (a9:Int) (a10:Int) (a11:Int) (a12:List Int) (a13:List qA) (a14:List Rect) (r:Int×(List Int)):List (Nat×(Nat×O)):=[(0,bx 78 [tl qG du a1,tl qE du a2,tl qD du a3,ci a4,ci a5,ci a6,ci a7,ci a8,ci a9,ci a10,ci a11,.own 1 0 24 a13.length,tl qJ du r.2,.own 2 0 4 a14.length]),(1,ro 0 80 24 a13.length (rf qC a13)),(2,ro 0 28 4 a14.length (rf qK a14))]
theorem BJ (a1:List qF) (a2:List qH) (a3:List Product) (a4:Int) (a5:Int) (a6:Int) (a7:Int) (a8:Int) (a9:Int) (a10:Int) (a11:Int) (a12:List Int) (a13:List qA) (a14:List Rect) (r:Int×(List Int)) (hm:yY a1 a2 a3 a4 a5 a6 a7 a8 a9 a10 a11 a12 a13 a14=some r):CtX Try.prog globs 9 3 1 [.one (.bptr 0 0 0)] [(0,bx 78 [tl qG du a1,tl qE du a2,tl qD du a3,ci a4,ci a5,ci a6,ci a7,ci a8,ci a9,ci a10,ci a11,.own 1 0 24 a13.length,tl qJ du a12,.own 2 0 4 a14.length]),(1,ro 0 80 24 a13.length (rf qC a13)),(2,ro 0 28 4 a14.length (rf qK a14))] (PZ a1 a2 a3 a4 a5 a6 a7 a8 a9 a10 a11 a12 a13 a14 r) (PY a1 a2 a3 a4 a5 a6 a7 a8 a9 a10 a11 a12 a13 a14 r):=by
 unfold yY at hm;refine q_E f9 14 λE=>?_;refine s_vn [] 3 ⟨[(0,vp 0 0)],[(0,bx 78 [tl qG du a1,tl qE du a2,tl qD du a3,ci a4,ci a5,ci a6,ci a7,ci a8,ci a9,ci a10,ci a11,.own 1 0 24 a13.length,tl qJ du a12,.own 2 0 4 a14.length]),(1,ro 0 80 24 a13.length (rf qC a13)),(2,ro 0 28 4 a14.length (rf qK a14))]⟩ (q_sq ?_);refine s_va 3 [(4,vb false)] (qAV f9 (.tmp 4) 26 27 (by kernel_rfl) (by kernel_rfl) ?_);refine q_sk (q_sq ?_);refine s_vv [] 3 [4] [(10,vb ((a12.length:Int)==0))] (q_cq hm (λhm=>?_) (λhm=>?_))
 ·refine s_vv [] 3 [0,10] [(2,vi 18)] ?_;obtain rfl:=oi hm;exact q_rt q_rm
 ·refine q_sk (s_vu [] 3 [0,10] [] [0] [(0,bx 78 [tl qG du a1,tl qE du a2,tl qD du a3,ci a4,ci a5,ci a6,ci a7,ci a8,ci a9,ci a10,ci a11,.own 1 0 24 a13.length,.emp,.own 2 0 4 a14.length])] ?_);refine s_va 3 [(2,vi 0)] (q_fu [.ownB 0 12 3 3 1 (rf qJ [])] [] [] [0] [(0,bx 78 [tl qG du a1,tl qE du a2,tl qD du a3,ci a4,ci a5,ci a6,ci a7,ci a8,ci a9,ci a10,ci a11,.own 1 0 24 a13.length,.own 3 0 1 0,.own 2 0 4 a14.length]),(3,ro 0 3 1 0 (rf qJ []))] o0 ?_)
  refine q_fu [.len 3 (([]:List Int).length),.frz 3] [] [] [0,3] [(0,bx 78 [tl qG du a1,tl qE du a2,tl qD du a3,ci a4,ci a5,ci a6,ci a7,ci a8,ci a9,ci a10,ci a11,.own 1 0 24 a13.length,tl qJ du ([]:List Int),.own 2 0 4 a14.length])] (o1 (And.intro (And.intro (show 0=([]:List Int).length from rfl) (show 0=([]:List Int).length from rfl)) (ko (([]:List Int).length)))) ?_;obtain rfl:=oi hm;exact q_rt q_rm
open Go.Proofs Go.Proofs.Try
def qEj (r:Bool):V:=vb r
def qEw (r:Bool):List (Nat×(Nat×O)):=[]
theorem zW (a1:Span) (r:Bool) (hm:yT a1=some r):CtX Try.prog globs 93 0 0 [.agg (qP a1)] [] (qEj r) (qEw r):=by
 unfold yT at hm;refine q_E f93 8 λE=>?_;refine s_vn [] 0 ⟨[(1,vp 0 0)],[(0,bx 26 (qP a1))]⟩ (s_vn [] 1 ⟨[(2,vb (decide (a1.A≥a1.B)))],[]⟩ ?_);obtain rfl:=oi hm;exact q_rt q_rm
def qHE (r:Box×Bool):V:= .tup [.agg (WI r.1),.one (cb r.2)]
def qHY (r:Box×Bool):List (Nat×(Nat×O)):=[]
def qEB (v3:Span) (v5:Span) (v7:Span) (x17:Bool):St:=
 ⟨[(4,vp 2 0),(6,vp 3 0),(35,vb x17)],[(2,bx 58 [ci 0,ci 0,ci 0,ci 0,ci 0,ci 0]),(3,bx 58 [ci v3.A,ci v3.B,ci v5.A,ci v5.B,ci v7.A,ci v7.B])]⟩
theorem qGJ (a1:Box) (a2:Box) (r:Box×Bool) (hm:HG a1 a2=some r):CtX Try.prog globs 99 0 0 [.agg (WI a1),.agg (WI a2)] [] (qHE r) (qHY r):=by
 unfold HG at hm;refine q_E f99 38 λE=>?_;refine s_vn [] 0 ⟨[(2,vp 0 0),(3,vp 1 0),(4,vp 2 0)],[(0,bx 58 (WI a1)),(1,bx 58 (WI a2)),(2,bx 58 [ci 0,ci 0,ci 0,ci 0,ci 0,ci 0])]⟩ ?_;obtain⟨v3,h4,hm⟩:=qI hm;obtain⟨v5,h6,hm⟩:=qI hm;obtain⟨v7,h8,hm⟩:=qI hm;refine s_du [qc 4 [8,10] 3 (RP a1.X a2.X v3 h4),qc 9 [13,15] 3 (RP a1.Y a2.Y v5 h6),qc 14 [18,20] 3 (RP a1.Z a2.Z v7 h8)] [0,1,0,4,15,0,32,0,128,511,0,1024,0,4096,16383,32767,0,131071] 3 [2,3] [(6,vp 3 0)] [0,1] [(3,bx 58 [ci v3.A,ci v3.B,ci v5.A,ci v5.B,ci v7.A,ci v7.B])] (q_sq ?_);refine q_jn (qEB v3 v5 v7) (λp=>RS v3 v5 v7 p=some r) ?_ ?_
 ·rintro x17 hm;refine q_cq hm (λhm=>?_) (λhm=>?_)
  ·refine s_vu [] 4 [6,35] [(5,vb false)] [3] [] ?_;obtain rfl:=oi hm;exact q_rt q_rm
  ·refine q_sk (s_vu [] 4 [6,35] [(5,vb true)] [2,3] [(2,bx 58 [ci v3.A,ci v3.B,ci v5.A,ci v5.B,ci v7.A,ci v7.B])] ?_);obtain rfl:=oi hm;exact q_rt q_rm
 ·obtain⟨v9,h10,hm⟩:=qI hm;rcases bif_c hm with⟨b11,hm⟩|⟨b11,hm⟩
  ·exact q_vv [qc 2 [24] 4 (zW v3 v9 h10),qf 3 b11] 4 [] [(35,vb true)] (q_J (true) hm)
  ·obtain⟨v12,h13,hm⟩:=qI hm;rcases bif_c hm with⟨b14,hm⟩|⟨b14,hm⟩
   ·exact q_vv [qc 2 [24] 4 (zW v3 v9 h10),qf 3 b11,qk 6 [26,28] 4 ⟨[(26,vb false),(28,va (qP v5))],[]⟩ (zW v5 v12 h13),qf 8 b14] 4 [] [(35,vb true)] (q_J (true) hm)
   ·obtain⟨v15,h16,hm⟩:=qI hm;exact q_vv [qc 2 [24] 4 (zW v3 v9 h10),qf 3 b11,qk 6 [26,28] 4 ⟨[(26,vb false),(28,va (qP v5))],[]⟩ (zW v5 v12 h13),qf 8 b14,qk 11 [31,33] 4 ⟨[(31,vb false),(33,va (qP v7))],[]⟩ (zW v7 v15 h16)] 4 [] [(35,vb v15)] (q_J (v15) hm)
def qD0 (r:Bool):V:=vb r
def qEq (r:Bool):List (Nat×(Nat×O)):=[]
theorem SX (a1:qH) (a2:Box) (r:Bool) (hm:XG a1 a2=some r):CtX Try.prog globs 87 0 0 [.agg (qE a1),.agg (WI a2)] [] (qD0 r) (qEq r):=by
 unfold XG at hm;refine q_E f87 15 λE=>?_;refine s_vn [] 0 ⟨[(2,vp 0 0),(3,vp 1 0)],[(0,bx 122 (qE a1)),(1,bx 58 (WI a2))]⟩ ?_;obtain⟨v3,h4,hm⟩:=qI hm;refine s_vn [qc 3 [9,10] 2 (qGJ a1.Box a2 v3 h4)] 2 ⟨[(6,vb v3.2)],[]⟩ (s_vn [] 3 ⟨[(4,vb v3.2)],[]⟩ ?_);obtain rfl:=oi hm;exact q_rt q_rm
open Go.Proofs Go.Proofs.Try
def qEF (r:Bool):V:=vb r
def qD1 (r:Bool):List (Nat×(Nat×O)):=[]
def qBM (x5:Bool):St:=
 ⟨[(4,vb x5)],[]⟩
theorem qDl (a1:Span) (a2:Int) (r:Bool) (hm:BD a1 a2=some r):CtX Try.prog globs 88 0 0 [.agg (qP a1),.one (ci a2)] [] (qEF r) (qD1 r):=by
 unfold BD at hm;refine q_E f88 21 λE=>?_;refine s_vn [] 0 ⟨[(1,vi a2),(2,vp 0 0)],[(0,bx 26 (qP a1))]⟩ (q_jn (qBM) (λp=>YQ p=some r) ?_ ?_)
 ·rintro x5 hm;obtain rfl:=oi hm;exact q_rt q_rm
 ·rcases bif_c hm with⟨b3,hm⟩|⟨b3,hm⟩
  ·rcases bif_c hm with⟨b4,hm⟩|⟨b4,hm⟩
   ·exact q_vn [qf 3 b3,qf 10 b4] 1 ⟨[(4,vb (decide (a1.B<=a2)))],[]⟩ (q_J (decide (a1.B<=a2)) hm)
   ·exact q_vn [qf 3 b3,qf 10 b4] 1 ⟨[(4,vb false)],[]⟩ (q_J (false) hm)
  ·exact q_vn [qf 3 b3] 1 ⟨[(4,vb false)],[]⟩ (q_J (false) hm)
def FV (r:Int×Bool):V:= .tup [.one (ci r.1),.one (cb r.2)]
def LA (r:Int×Bool):List (Nat×(Nat×O)):=[]
def GI (a1:Product) (a2:Int) (x3:Int):St:=
 ⟨[(1,vi a2),(2,vp 0 0),(9,vc (tl qJ du a1.Lengths)),(10,vi (a1.Lengths.length:Int)),(11,vi x3)],[(0,bx 114 (qD a1))]⟩
def HW :St:=
 ⟨[],[]⟩
theorem qBS (E:Env 0) (a1:Product) (a2:Int):∀(n:Nat) (x3:Int) (res:(Int×Bool)⊕Unit),QW a1 a2 n x3=some res->HL (kx E 30 0) (nd f89 52) (JW 0 (λo=>HW) (λv st=>RetQ Try.prog f89 (FV v) (LA v) .ret st) res) n (GI a1 a2 x3):=by
 intro n
 induction n with
 |zero=>
  intro x3 res hm;cases hm
 |succ n ih=>
  intro x3 res hm;refine zE (s_va 1 [(12,vb (decide (x3<(a1.Lengths.length:Int))))] ?_);refine q_sq (q_cq hm (λhm=>?_) (λhm=>?_))
  ·refine q_sk (q_sq ?_);refine q_bk 1 ?_;obtain⟨g5,hm⟩:=qU hm;refine s_vv [qi 1 g5] 1 [12] [(6,vi x3),(7,vi (a1.Lengths.getD x3.toNat du))] (q_sq ?_);refine s_vv [] 1 [7] [(18,vb ((a1.Lengths.getD x3.toNat du) !=a2))] (q_cq hm (λhm=>?_) (λhm=>?_))
   ·refine q_ex 1 (q_vv [] 1 [6,11,18] [(11,vi (w64 (x3+1)))] ?_);exact q_hl (GI a1 a2 (w64 (x3+1))) (ih (w64 (x3+1)) _ hm)
   ·refine q_sk (q_sq ?_);refine s_vv [] 1 [1,9,10,11,18] [(23,vb (decide (x3≥(a1.Prices.length:Int))))] (q_cq hm (λhm=>?_) (λhm=>?_))
    ·refine s_vn [] 1 ⟨[(4,vi 0),(5,vb false)],[]⟩ ?_;obtain rfl:=oi hm;refine q_rt (wO (0,false) ?_);exact q_rm
    ·refine q_sk ?_;obtain⟨g8,hm⟩:=qU hm;refine s_vn [qi 3 g8] 1 ⟨[(4,vi (a1.Prices.getD x3.toNat du)),(5,vb true)],[]⟩ ?_;obtain rfl:=oi hm;refine q_rt (wO ((a1.Prices.getD x3.toNat du),true) ?_);exact q_rm
  ·refine q_ex 0 ?_;obtain rfl:=oi hm;exact q_l1 ()
theorem qDP (a1:Product) (a2:Int) (r:Int×Bool) (hm:UN a1 a2=some r):CtX Try.prog globs 89 0 0 [.agg (qD a1),.one (ci a2)] [] (FV r) (LA r):=by
 unfold UN at hm;refine q_E f89 30 λE=>?_;refine s_vn [] 0 ⟨[(1,vi a2),(2,vp 0 0)],[(0,bx 114 (qD a1))]⟩ (q_sq ?_);refine s_va 1 [(9,vc (tl qJ du a1.Lengths)),(10,vi (a1.Lengths.length:Int)),(11,vi 0)] ?_;obtain⟨u11,h10,hm⟩:=qI hm;refine yX (nd f89 52) 0 (by kernel_rfl) FUEL (λo=>HW) (λv st=>RetQ Try.prog f89 (FV v) (LA v) .ret st) u11 (q_hl (GI a1 a2 0) (qBS E a1 a2 FUEL 0 u11 h10)) ?_ ?_
 ·rintro v12 rfl st hr;obtain rfl:=oi hm;exact hr
 ·rintro o9 rfl;replace hm:_=some r:=hm;refine s_vn [] 1 ⟨[(4,vi 0),(5,vb false)],[]⟩ ?_;obtain rfl:=oi hm;exact q_rt q_rm
def AN (r:Box):V:=va (WI r)
def UH (r:Box):List (Nat×(Nat×O)):=[]
theorem qD9 (r:Box):GT (UH r):=by
 intro i k o h;unfold UH at h;cases h
theorem SV (a1:qT) (a2:Span) (r:Box) (hm:XK a1 a2=some r):CtX Try.prog globs 86 0 0 [.agg (GX a1),.agg (qP a2)] [] (AN r) (UH r):=by
 unfold XK at hm;refine q_E f86 13 λE=>?_;refine s_vn [] 0 ⟨[(2,vp 0 0),(3,vp 1 0),(4,vp 2 0)],[(0,bx 149 (GX a1)),(1,bx 26 (qP a2)),(2,bx 58 [ci 0,ci 0,ci 0,ci 0,ci 0,ci 0])]⟩ (s_vn [] 3 ⟨[(4,vp 2 0)],[(2,bx 58 [ci a1.rect.X.A,ci a1.rect.X.B,ci a1.rect.Y.A,ci a1.rect.Y.B,ci a2.A,ci a2.B])]⟩ ?_);obtain rfl:=oi hm;exact q_rt q_rm
open Go.Proofs Go.Proofs.Try
def qHF (r:Int):V:=vi r
def qHW (r:Int):List (Nat×(Nat×O)):=[]
def VX (a1:List qR) (a2:Span) (x4:Int):St:=
 ⟨[(3,vp 0 0),(8,vc (tl zB du a1)),(9,vi (a1.length:Int)),(10,vi x4)],[(0,bx 26 (qP a2))]⟩
def qEa (a1:List qR) (a2:Span) (x4:Int) (x10:Int):St:=
 (VX a1 a2 x4).up [] [(5,vi x10)] [] []
def qEo (a1:List qR) (a2:Span) (x3:Int) (x4:Int) (x8:Bool):St:=
 (VX a1 a2 x4).up [] [(5,vi x3),(7,vp 1 0),(27,vb x8)] [] [(1,bx 182 (zB (a1.getD x4.toNat du)))]
def FE (a1:List qR) (a2:Span) (x3:Int) (x4:Int):St:=
 (VX a1 a2 x4).up [] [(5,vi x3)] [] []
def AC (x11:Int):St:=
 ⟨[(5,vi x11)],[]⟩
theorem qDn (E:Env 0) (a1:List qR) (a2:Span):∀(n:Nat) (x3:Int) (x4:Int) (res:Int),QB a1 a2 n x3 x4=some res->HL (kx E 34 0) (nd f90 116) (jL 0 AC res) n (FE a1 a2 x3 x4):=by
 intro n
 induction n with
 |zero=>
  intro x3 x4 res hm;cases hm
 |succ n ih=>
  intro x3 x4 res hm;refine zE (s_va 1 [(11,vb (decide (x4<(a1.length:Int))))] ?_);refine q_sq (q_cq hm (λhm=>?_) (λhm=>?_))
  ·refine q_sk (q_jn (qEa a1 a2 x4) (λp=>DZ x4 (QB a1 a2 n) p=some res) ?_ ?_)
   ·rintro x10 hm;exact q_vv [] 2 [10] [(10,vi (w64 (x4+1)))] (q_hl (FE a1 a2 x10 (w64 (x4+1))) (ih x10 (w64 (x4+1)) _ hm))
   ·refine q_bk 1 ?_;obtain⟨g6,hm⟩:=qU hm;refine s_vu [qi 0 g6] 1 [11] [(7,vp 1 0)] [] [(1,bx 182 (zB (a1.getD x4.toNat du)))] (q_jn (qEo a1 a2 x3 x4) (λp=>BC a1 x3 x4 (QB a1 a2 n) p=some res) ?_ ?_)
    ·rintro x8 hm;refine q_cq hm (λhm=>?_) (λhm=>?_)
     ·exact q_vu [] 2 [5,7,27] [(5,vi (imax x3 ((a1.getD x4.toNat du).lack)))] [1] [] (q_J (imax x3 ((a1.getD x4.toNat du).lack)) hm)
     ·exact q_sk (q_J (x3) hm)
    ·rcases bif_c hm with⟨b7,hm⟩|⟨b7,hm⟩
     ·exact q_vv [qf 6 b7] 2 [] [(27,vb (decide (a2.A<(((a1.getD x4.toNat du).z).B))))] (q_J (decide (a2.A<(((a1.getD x4.toNat du).z).B))) hm)
     ·exact q_vv [qf 6 b7] 2 [] [(27,vb false)] (q_J (false) hm)
  ·refine q_ex 0 ?_;obtain rfl:=oi hm;exact q_l0
theorem qGI (a1:List qR) (a2:Span) (r:Int) (hm:NJ a1 a2=some r):CtX Try.prog globs 90 0 0 [.one (tl zB du a1),.agg (qP a2)] [] (qHF r) (qHW r):=by
 unfold NJ at hm;refine q_E f90 34 λE=>?_;refine s_vn [] 0 ⟨[(0,vc (tl zB du a1)),(3,vp 0 0)],[(0,bx 26 (qP a2))]⟩ (s_va 1 [(5,vi 0)] ?_);refine q_sq (s_vv [] 1 [0] [(8,vc (tl zB du a1)),(9,vi (a1.length:Int)),(10,vi 0)] ?_);obtain⟨o12,h13,hm⟩:=qI hm;refine jG (nd f90 116) 0 (by kernel_rfl) FUEL AC o12 (q_hl (FE a1 a2 0 0) (qDn E a1 a2 FUEL 0 0 o12 h13)) (s_vn [] 1 ⟨[(4,vi o12)],[]⟩ ?_);obtain rfl:=oi hm;exact q_rt q_rm
end Saw
end Go.SL

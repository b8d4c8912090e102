import Derived.Test.YtpommeghjpbepaaEBase
import Derived.Test.YtpommeghjpbepaaEFa6
import Derived.Test.YtpommeghjpbepaaEFa7
import Derived.Test.YtpommeghjpbepaaEFa8
import Derived.Test.YtpommeghjpbepaaEFa1
import Derived.Test.YtpommeghjpbepaaEFa9
set_option linter.unusedVariables false
set_option linter.unusedSimpArgs false
namespace Go.SL
namespace Saw
open Go.Proofs Go.Proofs.Try
set_option maxHeartbeats 4000000
set_option maxRecDepth 100000
def qI3 :Int⊕(zB×Int)->V
 | .inl r=> .tup [.one (.val (.pointer none)),.one (ci r)]
 | .inr r=> .tup [.one (.bptr 0 0 0),.one (ci r.2)]
def qI7 :Int⊕(zB×Int)->List (Nat×(Nat×O))
 | .inl r=>[]
 | .inr r=>[(0,bx 78 [tl qF du r.1.solid,tl qE du r.1.defects,tl qC du r.1.catalog,ci r.1.saw.Kerf,ci r.1.saw.Trim,ci r.1.saw.Pitch,ci r.1.saw.Step,ci r.1.rates.Chip,ci r.1.rates.Dust,ci r.1.rates.Fine,ci r.1.length,.own 1 0 24 r.1.nodes.length,tl qL du r.1.rips,.own 2 0 4 r.1.sawn.length]),(1,ro 0 80 24 r.1.nodes.length (rf qD r.1.nodes)),(2,ro 0 28 4 r.1.sawn.length (rf qK r.1.sawn))]
def BA (a4:Pattern) (v10:(List Leaf)×Int) (x22:Int) (l23:List qA):St:=
 ⟨[(9,vp 0 0),(15,vo 3 0 5 v10.1.length),(17,vp 4 0),(21,vp 8 0),(55,vc (tl jS du a4.Nodes)),(56,vi (a4.Nodes.length:Int)),(57,vi x22)],[(0,bx 31 (qN a4)),(3,ro 0 110 5 v10.1.length (rf zI v10.1)),(5,ro 0 80 24 l23.length (rf qD l23))]⟩
def CC (a4:Pattern) (a5:Saw) (a6:Rates) (v10:(List Leaf)×Int) (v13:(List qG)) (v15:List qJ) (v17:(List Product)) (v19:Int) (x22:Int) (l23:List qA) (x32:Int) (x33:qA) (l34:List Int) (l34n:Nat):St:=
 (BA a4 v10 x22 l23).up [] [(18,vi x32)] [] [(4,bx 78 [tl qF du v13,tl qE du v15,tl qC du v17,ci a5.Kerf,ci a5.Trim,ci a5.Pitch,ci a5.Step,ci a6.Chip,ci a6.Dust,ci a6.Fine,ci v19,.own 5 0 24 l23.length,.own 6 0 1 l34n,.emp]),(6,ro 0 3 1 l34n (rf qL l34)),(8,bx 80 (qD x33))]
def qFP (a4:Pattern) (a5:Saw) (a6:Rates) (v10:(List Leaf)×Int) (v13:(List qG)) (v15:List qJ) (v17:(List Product)) (v19:Int) (x21:Int) (x22:Int) (l23:List qA) (l24:List Int) (x28:Bool):St:=
 (BA a4 v10 x22 l23).up [] [(18,vi x21),(19,vi x22),(74,vb x28)] [] [(4,bx 78 [tl qF du v13,tl qE du v15,tl qC du v17,ci a5.Kerf,ci a5.Trim,ci a5.Pitch,ci a5.Step,ci a6.Chip,ci a6.Dust,ci a6.Fine,ci v19,.own 5 0 24 l23.length,.own 6 0 1 l24.length,.emp]),(6,ro 0 3 1 l24.length (rf qL l24)),(8,bx 80 [ci ((a4.Nodes.getD x22.toNat du).Kind),ci ((a4.Nodes.getD x22.toNat du).At),ci 0,ci 0,cb false,ci 0,ci 0,ci 0,ci 0,ci 0,ci 0,ci 0,ci 0,ci 0,cb false,ci 0,ci 0,ci 0,ci 0,ci 0,ci 0,ci 0,ci 0,ci 0])]
def LS (a4:Pattern) (a5:Saw) (a6:Rates) (v10:(List Leaf)×Int) (v13:(List qG)) (v15:List qJ) (v17:(List Product)) (v19:Int) (x21:Int) (x22:Int) (l23:List qA) (l23n:Nat) (l24:List Int) (l24n:Nat):St:=
 (BA a4 v10 x22 l23).up [21] [(18,vi x21)] [5] [(4,bx 78 [tl qF du v13,tl qE du v15,tl qC du v17,ci a5.Kerf,ci a5.Trim,ci a5.Pitch,ci a5.Step,ci a6.Chip,ci a6.Dust,ci a6.Fine,ci v19,.own 5 0 24 l23n,.own 6 0 1 l24n,.emp]),(5,ro 0 80 24 l23n (rf qD l23)),(6,ro 0 3 1 l24n (rf qL l24))]
def CN (a4:Pattern) (a5:Saw) (a6:Rates) (v13:(List qG)) (v15:List qJ) (v17:(List Product)) (v19:Int) (l36:List qA) (l37:List Int):St:=
 ⟨[(9,vp 0 0),(17,vp 4 0)],[(0,bx 31 (qN a4)),(4,bx 78 [tl qF du v13,tl qE du v15,tl qC du v17,ci a5.Kerf,ci a5.Trim,ci a5.Pitch,ci a5.Step,ci a6.Chip,ci a6.Dust,ci a6.Fine,ci v19,.own 5 0 24 l36.length,.own 6 0 1 l37.length,.emp]),(5,ro 0 80 24 l36.length (rf qD l36)),(6,ro 0 3 1 l37.length (rf qL l37))]⟩
theorem qEw (E:Env 0) (a4:Pattern) (a5:Saw) (a6:Rates) (v10:(List Leaf)×Int) (v13:(List qG)) (v15:List qJ) (v17:(List Product)) (v19:Int):∀(n:Nat) (x21:Int) (x22:Int) (l23:List qA) (l23n:Nat) (l24:List Int) (l24n:Nat) (res:(List qA)×(List Int)),l23.length=l23n->l24.length=l24n->zY a4 v10 n x21 x22 l23 l24=some res->HL (kx E 113 0) (nd f24 2036) (jL 0 (λo=>CN a4 a5 a6 v13 v15 v17 v19 o.1 o.2) res) n (LS a4 a5 a6 v10 v13 v15 v17 v19 x21 x22 l23 l23n l24 l24n):=by
 intro n
 induction n with
 |zero=>
  intro x21 x22 l23 l23n l24 l24n res hl0 hl1 hm;cases hm
 |succ n ih=>
  intro x21 x22 l23 l23n l24 l24n res hl0 hl1 hm;subst hl0;subst hl1;refine zF (s_va 7 [(58,vb (decide (x22<(a4.Nodes.length:Int))))] ?_);refine q_sq (q_cq hm (λhm=>?_) (λhm=>?_))
  ·refine q_sk (q_sq ?_);refine q_bk 1 ?_;obtain⟨g26,hm⟩:=qT hm;refine s_vu [qi 1 g26] 7 [58] [(19,vi x22),(20,vp 7 0)] [] [(7,bx 117 (jS (a4.Nodes.getD x22.toNat du)))] (s_vu [] 8 [] [(21,vp 8 0)] [] [(8,bx 80 [ci ((a4.Nodes.getD x22.toNat du).Kind),ci ((a4.Nodes.getD x22.toNat du).At),ci 0,ci 0,cb false,ci 0,ci 0,ci 0,ci 0,ci 0,ci 0,ci 0,ci 0,ci 0,cb false,ci 0,ci 0,ci 0,ci 0,ci 0,ci 0,ci 0,ci 0,ci 0])] ?_)
   refine q_jn (ι:=Int×qA×(List Int)×Nat) (λp=>CC a4 a5 a6 v10 v13 v15 v17 v19 x22 l23 p.1 p.2.1 p.2.2.1 p.2.2.2) (λp=>p.2.2.1.length=p.2.2.2/\UW x22 l23 (zY a4 v10 n) p.1 p.2.1 p.2.2.1=some res) ?_ ?_
   ·rintro⟨x32,x33,l34,l34n⟩ ⟨el34,hm⟩;replace el34:l34.length=l34n:=el34;subst el34;show H _ (CC a4 a5 a6 v10 v13 v15 v17 v19 x22 l23 x32 x33 l34 l34.length) _ _;obtain⟨g35,hm⟩:=qT hm
    refine q_du [qd 6 (drw 10 0 (rf qD [x33])) (litP qD du 24 (λ_=>rfl) ([x33]:List qA) 1 rfl),qd 7 (drw 5 1 (rf qD (l23++[x33]))) (apP qD du l23 ([x33]:List qA) l23.length 1 24 192 (1<=1) (kf _) rfl rfl (λ_=>rfl) (jQ g35))] [0,0,2,6,14,0,32,126,255,511,1023] 10 [21] [] [4,5,8] [(4,bx 78 [tl qF du v13,tl qE du v15,tl qC du v17,ci a5.Kerf,ci a5.Trim,ci a5.Pitch,ci a5.Step,ci a6.Chip,ci a6.Dust,ci a6.Fine,ci v19,.own 5 1 24 (l23.length+1),.own 6 0 1 l34.length,.emp]),(5,ro 1 80 24 (l23.length+1) (rf qD (l23++[x33])))] (q_vv [] 11 [57] [(57,vi (w64 (x22+1)))] ?_)
    exact q_hl (LS a4 a5 a6 v10 v13 v15 v17 v19 x32 (w64 (x22+1)) (l23++[x33]) (l23.length+1) l34 l34.length) (ih x32 (w64 (x22+1)) (l23++[x33]) (l23.length+1) l34 l34.length _ (wR rfl rfl) rfl hm)
   ·refine q_jn (qFP a4 a5 a6 v10 v13 v15 v17 v19 x21 x22 l23 l24) (λp=>UP a4 v10 x21 x22 l23 l24 (zY a4 v10 n) p=some res) ?_ ?_
    ·rintro x28 hm;refine q_cq hm (λhm=>?_) (λhm=>?_)
     ·obtain⟨g30,hm⟩:=qT hm;refine q_vu [qd 6 (drw 9 0 (rf qL [x22])) (litP qL du 1 (λ_=>rfl) ([x22]:List Int) 1 rfl),qd 7 (drw 6 1 (rf qL (l24++[x22]))) (apP qL du l24 ([x22]:List Int) l24.length 1 1 8 (1<=1) (kf _) rfl rfl (λ_=>rfl) (jQ g30))] 9 [19,74] [] [4,6] [(4,bx 78 [tl qF du v13,tl qE du v15,tl qC du v17,ci a5.Kerf,ci a5.Trim,ci a5.Pitch,ci a5.Step,ci a6.Chip,ci a6.Dust,ci a6.Fine,ci v19,.own 5 0 24 l23.length,.own 6 1 1 (l24.length+1),.emp]),(6,ro 1 3 1 (l24.length+1) (rf qL (l24++[x22])))] ?_
      exact q_J (x21,(qA.mk ((a4.Nodes.getD x22.toNat du).Kind) ((a4.Nodes.getD x22.toNat du).At) 0 0 false (Rect.mk (Span.mk 0 0) (Span.mk 0 0)) 0 (Rect.mk (Span.mk 0 0) (Span.mk 0 0)) false (qI.mk 0 0 (Box.mk (Span.mk 0 0) (Span.mk 0 0) (Span.mk 0 0)) 0)),(l24++[x22]),(l24.length+1)) ⟨(wR rfl rfl),hm⟩
     ·obtain⟨g31,hm⟩:=qT hm;refine s_du [qi 3 g31,qd 5 dN (qX (zG g31))] [0,0,0,6,14,30,1,65,255,511] 9 [19,74] [] [8] [(8,bx 80 [ci ((a4.Nodes.getD x22.toNat du).Kind),ci ((a4.Nodes.getD x22.toNat du).At),ci 0,ci 0,cb false,ci 0,ci 0,ci 0,ci 0,ci x21,ci ((((v10.1.getD x21.toNat du).Rect).X).A),ci ((((v10.1.getD x21.toNat du).Rect).X).B),ci ((((v10.1.getD x21.toNat du).Rect).Y).A),ci ((((v10.1.getD x21.toNat du).Rect).Y).B),cb false,ci 0,ci 0,ci 0,ci 0,ci 0,ci 0,ci 0,ci 0,ci 0])] (q_vv [] 9 [18] [(18,vi (w64 (x21+1)))] ?_)
      exact q_J (w64 (x21+1),(qA.mk ((a4.Nodes.getD x22.toNat du).Kind) ((a4.Nodes.getD x22.toNat du).At) 0 0 false (Rect.mk (Span.mk 0 0) (Span.mk 0 0)) x21 ((v10.1.getD x21.toNat du).Rect) false (qI.mk 0 0 (Box.mk (Span.mk 0 0) (Span.mk 0 0) (Span.mk 0 0)) 0)),l24,l24.length) ⟨rfl,hm⟩
    ·rcases bif_c hm with⟨b27,hm⟩|⟨b27,hm⟩
     ·exact q_vu [qf 3 b27] 9 [20] [(74,vb true)] [7] [] (q_J (true) hm)
     ·exact q_vu [qf 3 b27] 9 [20] [(74,vb (((a4.Nodes.getD x22.toNat du).Kind)==3))] [7] [] (q_J (((a4.Nodes.getD x22.toNat du).Kind)==3) hm)
  ·refine q_ex 0 ?_;obtain rfl:=oi hm;exact q_l0
theorem qBz (a1:List qG) (a2:List qJ) (a3:List Product) (a4:Pattern) (a5:Saw) (a6:Rates) (r:Int⊕(zB×Int)) (hm:TM a1 a2 a3 a4 a5 a6=some r):CtX Try.prog globs 24 0 0 [.one (tl qF du a1),.one (tl qE du a2),.one (tl qC du a3),.agg (qN a4),.agg (ZG a5),.agg (JO a6)] [] (qI3 r) (qI7 r):=by
 unfold TM at hm;refine q_E f24 113 λE=>?_;refine s_vn [] 0 ⟨[(0,vc (tl qF du a1)),(1,vc (tl qE du a2)),(2,vc (tl qC du a3)),(9,vp 0 0),(10,vp 1 0),(11,vp 2 0)],[(0,bx 31 (qN a4)),(1,bx 33 (ZG a5)),(2,bx 35 (JO a6))]⟩ (q_sq ?_);obtain⟨v7,h8,hm⟩:=qH hm;refine s_vv [qc 6 [22,23,24,25,26,27] 3 (qFC a1 a2 a3 a4 a5 a6 v7 h8)] 3 [] [(14,vi v7)] (s_va 3 [(30,vb (v7 !=0))] ?_);refine q_cq hm (λhm=>?_) (λhm=>?_)
 ·refine s_vn [] 3 ⟨[(12,vc (.val (.pointer none))),(13,vi v7)],[]⟩ ?_;obtain rfl:=oi hm;exact q_rt q_rm
 ·refine q_sk ?_;obtain⟨v10,h11,hm⟩:=qH hm;refine s_vu [qc 3 [33,35] 3 (AY a4 a5.Kerf v10 h11)] 3 [14,30] [(15,vo 3 0 5 v10.1.length),(16,vi v10.2)] [] [(3,ro 0 110 5 v10.1.length (rf zI v10.1))] (q_sq ?_);refine s_va 4 [(40,vb (v10.2 !=0))] (q_cq hm (λhm=>?_) (λhm=>?_))
  ·refine s_vn [] 4 ⟨[(12,vc (.val (.pointer none))),(13,vi v10.2)],[]⟩ ?_;obtain rfl:=oi hm;exact q_rt q_rm
  ·refine q_sk ?_;obtain⟨v13,h14,hm⟩:=qH hm;obtain⟨v15,h16,hm⟩:=qH hm;obtain⟨v17,h18,hm⟩:=qH hm;obtain⟨v19,h20,hm⟩:=qH hm
   refine s_du [qc 1 [42] 4 (CtX.frz (x':=vc (tl qF du v13)) (ob':=[]) (qBO a1 v13 h14) 0 (o1 (kf v13.length)) (by kernel_rfl)),qc 3 [44] 4 (CtX.frz (x':=vc (tl qE du v15)) (ob':=[]) (CU a2 v15 h16) 0 (o1 (kf v15.length)) (by kernel_rfl)),qc 5 [46] 4 (CtX.frz (x':=vc (tl qC du v17)) (ob':=[]) (CW a3 v17 h18) 0 (o1 (kf v17.length)) (by kernel_rfl)),qc 9 [50] 4 (HE a1 v19 h20)] [0,1,0,7,0,31,0,0,0,319,1023,2047,4095] 4 [0,1,2,10,11,16,40] [(17,vp 4 0)] [1,2] [(4,bx 78 [tl qF du v13,tl qE du v15,tl qC du v17,ci a5.Kerf,ci a5.Trim,ci a5.Pitch,ci a5.Step,ci a6.Chip,ci a6.Dust,ci a6.Fine,ci v19,.emp,.emp,.emp])] (s_va 5 [(18,vi 0)] ?_)
   refine q_sq (s_va 5 [(55,vc (tl jS du a4.Nodes)),(56,vi (a4.Nodes.length:Int)),(57,vi 0)] ?_);refine q_fu [.ownB 4 11 5 80 24 (rf qD [])] [] [] [4] [(4,bx 78 [tl qF du v13,tl qE du v15,tl qC du v17,ci a5.Kerf,ci a5.Trim,ci a5.Pitch,ci a5.Step,ci a6.Chip,ci a6.Dust,ci a6.Fine,ci v19,.own 5 0 24 0,.emp,.emp]),(5,ro 0 80 24 0 (rf qD []))] o0 (q_fu [.ownB 4 12 6 3 1 (rf qL [])] [] [] [4] [(4,bx 78 [tl qF du v13,tl qE du v15,tl qC du v17,ci a5.Kerf,ci a5.Trim,ci a5.Pitch,ci a5.Step,ci a6.Chip,ci a6.Dust,ci a6.Fine,ci v19,.own 5 0 24 0,.own 6 0 1 0,.emp]),(6,ro 0 3 1 0 (rf qL []))] o0 ?_)
   obtain⟨o38,h39,hm⟩:=qH hm;refine jC (nd f24 2036) 0 (by kernel_rfl) FUEL (λo=>CN a4 a5 a6 v13 v15 v17 v19 o.1 o.2) o38 (q_hl (LS a4 a5 a6 v10 v13 v15 v17 v19 0 0 ([]:List qA) 0 ([]:List Int) 0) (qEw E a4 a5 a6 v10 v13 v15 v17 v19 FUEL 0 0 ([]:List qA) 0 ([]:List Int) 0 o38 rfl rfl h39)) ?_;obtain⟨v40,h41,hm⟩:=qH hm
   refine s_vu [qd 1 (dpr [.frz 6] (dex (cen [(4,0),(5,0)] [0,0] 5 2 (JI 0 v13 v15 v17 a5.Kerf a5.Trim a5.Pitch a5.Step a6.Chip a6.Dust a6.Fine v19 o38.2 o38.1 v40) (JJ 0 v13 v15 v17 a5.Kerf a5.Trim a5.Pitch a5.Step a6.Chip a6.Dust a6.Fine v19 o38.2 o38.1 v40) [106] [4,5]))) (kf o38.2.length),qd 1 dN (zA (K:=(kx E 113 0)) ⟨[(106,vp 4 0)],[(4,bx 78 [tl qF du v13,tl qE du v15,tl qC du v17,ci a5.Kerf,ci a5.Trim,ci a5.Pitch,ci a5.Step,ci a6.Chip,ci a6.Dust,ci a6.Fine,ci v19,.own 5 0 24 o38.1.length,tl qL du o38.2,.emp]),(5,ro 0 80 24 o38.1.length (rf qD o38.1))]⟩ (opAt (rg f24 510) 1) [(4,0),(5,0)] [0,0] 5 o0 rfl (qB7 0 v13 v15 v17 a5.Kerf a5.Trim a5.Pitch a5.Step a6.Chip a6.Dust a6.Fine v19 o38.2 o38.1 v40 h41) (.inl rfl) (by kernel_rfl))] 7 [] [] [4,5,6] [(4,bx 78 [tl qF du v13,tl qE du v15,tl qC du v17,ci a5.Kerf,ci a5.Trim,ci a5.Pitch,ci a5.Step,ci a6.Chip,ci a6.Dust,ci a6.Fine,ci v19,.own 5 0 24 v40.2.length,tl qL du o38.2,.emp]),(5,ro 0 80 24 v40.2.length (rf qD v40.2))] ?_
   obtain⟨v42,h43,hm⟩:=qH hm
   refine s_vu [qd 3 (dex (cen [(4,0),(5,0)] [0,0] 5 2 (MU 0 a4.Frame v13 v15 v17 a5.Kerf a5.Trim a5.Pitch a5.Step a6.Chip a6.Dust a6.Fine v19 o38.2 v40.2 v42) (MM 0 a4.Frame v13 v15 v17 a5.Kerf a5.Trim a5.Pitch a5.Step a6.Chip a6.Dust a6.Fine v19 o38.2 v40.2 v42) [108,110] [4,5])) (zA (K:=(kx E 113 0)) ⟨[(108,vp 4 0),(110,va (qK a4.Frame))],[(4,bx 78 [tl qF du v13,tl qE du v15,tl qC du v17,ci a5.Kerf,ci a5.Trim,ci a5.Pitch,ci a5.Step,ci a6.Chip,ci a6.Dust,ci a6.Fine,ci v19,.own 5 0 24 v40.2.length,tl qL du o38.2,.emp]),(5,ro 0 80 24 v40.2.length (rf qD v40.2))]⟩ (opAt (rg f24 1022) 3) [(4,0),(5,0)] [0,0] 5 o0 rfl (qBQ 0 a4.Frame v13 v15 v17 a5.Kerf a5.Trim a5.Pitch a5.Step a6.Chip a6.Dust a6.Fine v19 o38.2 v40.2 v42 h43) (.inl rfl) (by kernel_rfl))] 7 [9] [] [0,4,5] [(4,bx 78 [tl qF du v13,tl qE du v15,tl qC du v17,ci a5.Kerf,ci a5.Trim,ci a5.Pitch,ci a5.Step,ci a6.Chip,ci a6.Dust,ci a6.Fine,ci v19,.own 5 0 24 v42.length,tl qL du o38.2,.emp]),(5,ro 0 80 24 v42.length (rf qD v42))] ?_
   refine s_vv [] 7 [17] [(12,vp 4 0),(13,vi 0)] (q_fu [.ownB 4 13 7 28 4 (rf qK [])] [] [] [4] [(4,bx 78 [tl qF du v13,tl qE du v15,tl qC du v17,ci a5.Kerf,ci a5.Trim,ci a5.Pitch,ci a5.Step,ci a6.Chip,ci a6.Dust,ci a6.Fine,ci v19,.own 5 0 24 v42.length,tl qL du o38.2,.own 7 0 4 0]),(7,ro 0 28 4 0 (rf qK []))] o0 ?_)
   refine q_fu [.len 7 (([]:List Rect).length)] [] [] [4,7] [(4,bx 78 [tl qF du v13,tl qE du v15,tl qC du v17,ci a5.Kerf,ci a5.Trim,ci a5.Pitch,ci a5.Step,ci a6.Chip,ci a6.Dust,ci a6.Fine,ci v19,.own 5 0 24 v42.length,tl qL du o38.2,.own 7 0 4 (([]:List Rect).length)]),(7,ro 0 28 4 (([]:List Rect).length) (rf qK []))] (o1 (And.intro (show 0=([]:List Rect).length from rfl) (show 0=([]:List Rect).length from rfl))) ?_;obtain rfl:=oi hm;refine q_sw 4 0 (q_sw 5 1 ?_);exact q_sw 7 2 (q_rt q_rm)
def qFW (r:(List Span)):V:=vo 0 0 2 r.length
def qGn (r:(List Span)):List (Nat×(Nat×O)):=[(0,ro 0 26 2 r.length (rf qO r))]
def BV (a1:List qG) (l3:List Span) (l3n:Nat) (x4:Int) (x5:Int):St:=
 ⟨[(3,vo 0 0 2 l3n),(4,vi x4),(10,vc (tl qF du a1)),(11,vi (a1.length:Int)),(12,vi x5)],[(0,ro 0 26 2 l3n (rf qO l3))]⟩
def EO (l9:List Span):St:=
 ⟨[(3,vo 0 0 2 l9.length)],[(0,ro 0 26 2 l9.length (rf qO l9))]⟩
theorem qCP (E:Env 0) (a1:List qG):∀(n:Nat) (l3:List Span) (l3n:Nat) (x4:Int) (x5:Int) (res:(List Span)),l3.length=l3n->JX a1 n l3 x4 x5=some res->HL (kx E 32 0) (nd f31 244) (jL 0 EO res) n (BV a1 l3 l3n x4 x5):=by
 intro n
 induction n with
 |zero=>
  intro l3 l3n x4 x5 res hl0 hm;cases hm
 |succ n ih=>
  intro l3 l3n x4 x5 res hl0 hm;subst hl0;refine zF (s_va 1 [(13,vb (decide (x5<(a1.length:Int))))] ?_);refine q_sq (q_cq hm (λhm=>?_) (λhm=>?_))
  ·refine q_sk (q_sq ?_);refine q_bk 1 ?_;obtain⟨g7,hm⟩:=qT hm;refine s_vu [qi 1 g7] 1 [13] [(5,vi x5),(6,vp 1 0)] [] [(1,bx 93 (qF (a1.getD x5.toNat du)))] ?_;obtain⟨g8,hm⟩:=qT hm
   refine s_vu [qi 8 g8,qd 9 (drw 0 0 (rf qO (l3.set x5.toNat (Span.mk x4 (w64 (x4+((a1.getD x5.toNat du).Len))))))) (stP qO du (Span.mk x4 (w64 (x4+((a1.getD x5.toNat du).Len)))) l3 l3.length x5.toNat 0 [ci x4,ci (w64 (x4+((a1.getD x5.toNat du).Len)))] rfl (qX (zG g8)) rfl)] 2 [5] [] [0] [(0,ro 0 26 2 l3.length (rf qO (l3.set x5.toNat (Span.mk x4 (w64 (x4+((a1.getD x5.toNat du).Len)))))))] (q_vu [] 2 [4,6] [(4,vi (w64 (x4+((a1.getD x5.toNat du).Len))))] [1] [] ?_)
   exact q_vv [] 2 [12] [(12,vi (w64 (x5+1)))] (q_hl (BV a1 (l3.set x5.toNat (Span.mk x4 (w64 (x4+((a1.getD x5.toNat du).Len))))) l3.length (w64 (x4+((a1.getD x5.toNat du).Len))) (w64 (x5+1))) (ih (l3.set x5.toNat (Span.mk x4 (w64 (x4+((a1.getD x5.toNat du).Len))))) l3.length (w64 (x4+((a1.getD x5.toNat du).Len))) (w64 (x5+1)) _ (qBl rfl) hm))
  ·refine q_ex 0 ?_;obtain rfl:=oi hm;exact q_l0
theorem qFM (a1:List qG) (r:(List Span)) (hm:GI a1=some r):CtX Try.prog globs 31 0 0 [.one (tl qF du a1)] [] (qFW r) (qGn r):=by
 unfold GI at hm;refine q_E f31 32 λE=>?_;refine s_vn [] 0 ⟨[(0,vc (tl qF du a1))],[]⟩ ?_;obtain⟨g2,hm⟩:=qT hm;refine s_vu [qd 2 (drw 0 0 (rf qO (List.replicate ((a1.length:Int).toNat) (Span.mk 0 0)))) (mkP qO du (Span.mk 0 0) (a1.length:Int) 16 [ci 0,ci 0] (mkOk_of g2) rfl)] 0 [] [(3,vo 0 0 2 ((a1.length:Int).toNat))] [] [(0,ro 0 26 2 ((a1.length:Int).toNat) (rf qO (List.replicate ((a1.length:Int).toNat) (Span.mk 0 0))))] (s_va 1 [(4,vi 0)] ?_);refine q_sq (s_vv [] 1 [0] [(10,vc (tl qF du a1)),(11,vi (a1.length:Int)),(12,vi 0)] ?_);obtain⟨o10,h11,hm⟩:=qH hm
 refine jC (nd f31 244) 0 (by kernel_rfl) FUEL EO o10 (q_hl (BV a1 (List.replicate ((a1.length:Int).toNat) (Span.mk 0 0)) ((a1.length:Int).toNat) 0 0) (qCP E a1 FUEL (List.replicate ((a1.length:Int).toNat) (Span.mk 0 0)) ((a1.length:Int).toNat) 0 0 o10 len_rep h11)) (s_vv [] 1 [3] [(2,vo 0 0 2 o10.length)] ?_);obtain rfl:=oi hm;exact q_rt q_rm
def qHK (r:Int):V:=vi r
def qHE (r:Int):List (Nat×(Nat×O)):=[]
def qEB (a2:Box) (v3:(List qG)) (v5:(List Span)) (x8:Int) (x19:Int):St:=
 ⟨[(0,vc (tl qF du v3)),(3,vp 0 0),(5,vi x19),(12,vo 1 0 2 v5.length),(13,vi (v5.length:Int)),(14,vi x8)],[(0,bx 58 (WC a2)),(1,ro 0 26 2 v5.length (rf qO v5))]⟩
def FL (a2:Box) (v3:(List qG)) (v5:(List Span)) (x7:Int) (x8:Int):St:=
 ⟨[(0,vc (tl qF du v3)),(3,vp 0 0),(5,vi x7),(12,vo 1 0 2 v5.length),(13,vi (v5.length:Int)),(14,vi x8)],[(0,bx 58 (WC a2)),(1,ro 0 26 2 v5.length (rf qO v5))]⟩
def AQ (x20:Int):St:=
 ⟨[(5,vi x20)],[]⟩
theorem qDj (E:Env 0) (a2:Box) (v3:(List qG)) (v5:(List Span)):∀(n:Nat) (x7:Int) (x8:Int) (res:Int),ZE a2 v3 v5 n x7 x8=some res->HL (kx E 43 0) (nd f14 244) (jL 0 AQ res) n (FL a2 v3 v5 x7 x8):=by
 intro n
 induction n with
 |zero=>
  intro x7 x8 res hm;cases hm
 |succ n ih=>
  intro x7 x8 res hm;refine zF (s_va 2 [(15,vb (decide (x8<(v5.length:Int))))] ?_);refine q_sq (q_cq hm (λhm=>?_) (λhm=>?_))
  ·refine q_sk (q_jn (qEB a2 v3 v5 x8) (λp=>DF x8 (ZE a2 v3 v5 n) p=some res) ?_ ?_)
   ·rintro x19 hm;exact q_vv [] 3 [14] [(14,vi (w64 (x8+1)))] (q_hl (FL a2 v3 v5 x19 (w64 (x8+1))) (ih x19 (w64 (x8+1)) _ hm))
   ·refine q_bk 1 ?_;obtain⟨g10,hm⟩:=qT hm;refine s_vu [qi 1 g10,qd 2 dN (qX (zG g10))] 2 [15] [(6,vi x8),(7,vp 2 0)] [] [(2,bx 26 (qO (v5.getD x8.toNat du)))] ?_;obtain⟨v11,h12,hm⟩:=qH hm;obtain⟨v13,h14,hm⟩:=qH hm;refine s_vu [qc 3 [19,21] 3 (UI (v5.getD x8.toNat du) a2.Z v11 h12),qc 4 [22] 3 (GS v11 v13 h14)] 3 [7] [(8,vi v13)] [2] [] (s_va 3 [(25,vb (decide (v13>0)))] ?_);refine q_cq hm (λhm=>?_) (λhm=>?_)
    ·obtain⟨g16,hm⟩:=qT hm;obtain⟨v17,h18,hm⟩:=qH hm;exact q_du [qi 4 g16,qc 12 [32,37] 3 (AU ((v3.getD x8.toNat du).Sec) (Rect.mk a2.X a2.Y) v17 h18)] [0,0,0,0,12,28,60,0,128,0,512,1920,4092,8190,16383,32767] 3 [5,6,8,25] [(5,vi (w64 (x7+(w64 (v13*v17)))))] [] [] (q_J (w64 (x7+(w64 (v13*v17)))) hm)
    ·exact q_sk (q_J (x7) hm)
  ·refine q_ex 0 ?_;obtain rfl:=oi hm;exact q_l0
theorem RV (a1:List qG) (a2:Box) (r:Int) (hm:WM a1 a2=some r):CtX Try.prog globs 14 0 0 [.one (tl qF du a1),.agg (WC a2)] [] (qHK r) (qHE r):=by
 unfold WM at hm;refine q_E f14 43 λE=>?_;refine s_vn [] 0 ⟨[(0,vc (tl qF du a1)),(3,vp 0 0)],[(0,bx 58 (WC a2))]⟩ ?_;obtain⟨v3,h4,hm⟩:=qH hm;refine s_vv [qc 1 [9] 1 (SE a1 v3 h4)] 1 [0] [(0,vc (tl qF du v3))] (s_va 1 [(5,vi 0)] ?_);refine q_sq ?_;obtain⟨v5,h6,hm⟩:=qH hm;refine s_vu [qc 1 [11] 1 (qFM v3 v5 h6)] 1 [] [(12,vo 1 0 2 v5.length),(13,vi (v5.length:Int)),(14,vi 0)] [] [(1,ro 0 26 2 v5.length (rf qO v5))] ?_;obtain⟨o21,h22,hm⟩:=qH hm;refine jC (nd f14 244) 0 (by kernel_rfl) FUEL AQ o21 (q_hl (FL a2 v3 v5 0 0) (qDj E a2 v3 v5 FUEL 0 0 o21 h22)) (s_vn [] 2 ⟨[(4,vi o21)],[]⟩ ?_)
 obtain rfl:=oi hm;exact q_rt q_rm
open Go.Proofs Go.Proofs.Try
def QD (a1:Rect) (a2:Span) (a3:List qG) (a4:List qJ) (a5:List Product) (a6:Int) (a7:Int) (a8:Int) (a9:Int) (a10:Int) (a11:Int) (a12:Int) (a13:Int) (a14:List Int) (a15:List qA) (a16:List Rect) (r:Int):V:=vi r
def QC (a1:Rect) (a2:Span) (a3:List qG) (a4:List qJ) (a5:List Product) (a6:Int) (a7:Int) (a8:Int) (a9:Int) (a10:Int) (a11:Int) (a12:Int) (a13:Int) (a14:List Int) (a15:List qA) (a16:List Rect) (r:Int):List (Nat×(Nat×O)):=[(0,bx 78 [tl qF du a3,tl qE du a4,tl qC du a5,ci a6,ci a7,ci a8,ci a9,ci a10,ci a11,ci a12,ci a13,.own 1 0 24 a15.length,tl qL du a14,.own 2 0 4 a16.length]),(1,ro 0 80 24 a15.length (rf qD a15)),(2,ro 0 28 4 a16.length (rf qK a16))]
theorem ZK (a1:Rect) (a2:Span) (a3:List qG) (a4:List qJ) (a5:List Product) (a6:Int) (a7:Int) (a8:Int) (a9:Int) (a10:Int) (a11:Int) (a12:Int) (a13:Int) (a14:List Int) (a15:List qA) (a16:List Rect) (r:Int) (hm:wY a1 a2 a3 a4 a5 a6 a7 a8 a9 a10 a11 a12 a13 a14 a15 a16=some r):CtX Try.prog globs 26 3 3 [.one (.bptr 0 0 0),.agg (qK a1),.agg (qO a2)] [(0,bx 78 [tl qF du a3,tl qE du a4,tl qC du a5,ci a6,ci a7,ci a8,ci a9,ci a10,ci a11,ci a12,ci a13,.own 1 0 24 a15.length,tl qL du a14,.own 2 0 4 a16.length]),(1,ro 0 80 24 a15.length (rf qD a15)),(2,ro 0 28 4 a16.length (rf qK a16))] (QD a1 a2 a3 a4 a5 a6 a7 a8 a9 a10 a11 a12 a13 a14 a15 a16 r) (QC a1 a2 a3 a4 a5 a6 a7 a8 a9 a10 a11 a12 a13 a14 a15 a16 r):=by
 unfold wY at hm;refine q_E f26 18 λE=>?_;refine s_vn [] 3 ⟨[(0,vp 0 0),(4,vp 3 0),(5,vp 4 0)],[(0,bx 78 [tl qF du a3,tl qE du a4,tl qC du a5,ci a6,ci a7,ci a8,ci a9,ci a10,ci a11,ci a12,ci a13,.own 1 0 24 a15.length,tl qL du a14,.own 2 0 4 a16.length]),(1,ro 0 80 24 a15.length (rf qD a15)),(2,ro 0 28 4 a16.length (rf qK a16)),(3,bx 28 (qK a1)),(4,bx 26 (qO a2))]⟩ ?_;obtain⟨v17,h18,hm⟩:=qH hm;refine s_du [qc 10 [10,16] 5 (RV a3 (Box.mk a1.X a1.Y a2) v17 h18)] [0,1,3,7,0,16,0,64,0,496,1023,2047] 5 [0,4,5] [(6,vi v17)] [3,4] [] ?_;obtain rfl:=oi hm;exact q_rt q_rm
def FB (r:Span):V:=va (qO r)
def FF (r:Span):List (Nat×(Nat×O)):=[]
theorem CE (a1:jV) (a2:Span) (r:Span) (hm:XC a1 a2=some r):CtX Try.prog globs 27 0 0 [.agg (TP a1),.agg (qO a2)] [] (FB r) (FF r):=by
 unfold XC at hm;refine q_E f27 14 λE=>?_;refine s_vn [] 0 ⟨[(2,vp 0 0),(3,vp 1 0),(4,vp 2 0)],[(0,bx 85 (TP a1)),(1,bx 26 (qO a2)),(2,bx 26 [ci 0,ci 0])]⟩ (s_vn [] 3 ⟨[(4,vp 2 0)],[(2,bx 26 [ci (imax 0 (w64 (a2.A-a1.kerf))),ci a2.A])]⟩ ?_);obtain rfl:=oi hm;exact q_rt q_rm
def DN (r:Span):V:=va (qO r)
def DO (r:Span):List (Nat×(Nat×O)):=[]
theorem IE (a1:jV) (a2:Span) (r:Span) (hm:YK a1 a2=some r):CtX Try.prog globs 28 0 0 [.agg (TP a1),.agg (qO a2)] [] (DN r) (DO r):=by
 unfold YK at hm;refine q_E f28 16 λE=>?_;refine s_vn [] 0 ⟨[(2,vp 0 0),(3,vp 1 0),(4,vp 2 0)],[(0,bx 85 (TP a1)),(1,bx 26 (qO a2)),(2,bx 26 [ci 0,ci 0])]⟩ (s_vn [] 3 ⟨[(4,vp 2 0)],[(2,bx 26 [ci a2.B,ci (imin (w64 (a2.B+a1.kerf)) a1.length)])]⟩ ?_);obtain rfl:=oi hm;exact q_rt q_rm
open Go.Proofs Go.Proofs.Try
def qHq (r:Int):V:=vi r
def qHJ (r:Int):List (Nat×(Nat×O)):=[]
def zaQ (v2:qR) (x4:Int) (x5:Int):St:=
 ⟨[(3,vi x4),(8,vc (tl qO du v2.Rows)),(9,vi (v2.Rows.length:Int)),(10,vi x5)],[]⟩
def AS (x10:Int):St:=
 ⟨[(3,vi x10)],[]⟩
theorem qDG (E:Env 0) (v2:qR):∀(n:Nat) (x4:Int) (x5:Int) (res:Int),YY v2 n x4 x5=some res->HL (kx E 21 0) (nd f30 116) (jL 0 AS res) n (zaQ v2 x4 x5):=by
 intro n
 induction n with
 |zero=>
  intro x4 x5 res hm;cases hm
 |succ n ih=>
  intro x4 x5 res hm;refine zF (s_va 1 [(11,vb (decide (x5<(v2.Rows.length:Int))))] ?_);refine q_sq (q_cq hm (λhm=>?_) (λhm=>?_))
  ·refine q_sk (q_sq ?_);refine q_bk 1 ?_;obtain⟨g7,hm⟩:=qT hm;refine s_vu [qi 0 g7] 1 [11] [(5,vp 1 0)] [] [(1,bx 26 (qO (v2.Rows.getD x5.toNat du)))] ?_;obtain⟨v8,h9,hm⟩:=qH hm;refine q_vu [qc 2 [15] 2 (GS (v2.Rows.getD x5.toNat du) v8 h9)] 2 [3,5] [(3,vi (w64 (x4+v8)))] [1] [] (q_vv [] 2 [10] [(10,vi (w64 (x5+1)))] ?_);exact q_hl (zaQ v2 (w64 (x4+v8)) (w64 (x5+1))) (ih (w64 (x4+v8)) (w64 (x5+1)) _ hm)
  ·refine q_ex 0 ?_;obtain rfl:=oi hm;exact q_l0
theorem qGz (a1:qR) (r:Int) (hm:BQ a1=some r):CtX Try.prog globs 30 0 0 [.agg (jX a1)] [] (qHq r) (qHJ r):=by
 unfold BQ at hm;refine q_E f30 21 λE=>?_;refine s_vn [] 0 ⟨[(1,vp 0 0)],[(0,bx 91 (jX a1))]⟩ (s_va 1 [(3,vi 0)] ?_);refine q_sq ?_;obtain⟨v2,h3,hm⟩:=qH hm;refine s_vu [qc 1 [6] 1 (OK a1 v2 h3)] 1 [1] [(8,vc (tl qO du v2.Rows)),(9,vi (v2.Rows.length:Int)),(10,vi 0)] [0] [] ?_;obtain⟨o11,h12,hm⟩:=qH hm;refine jC (nd f30 116) 0 (by kernel_rfl) FUEL AS o11 (q_hl (zaQ v2 0 0) (qDG E v2 FUEL 0 0 o11 h12)) (s_vn [] 1 ⟨[(2,vi (w64 (10*o11)))],[]⟩ ?_);obtain rfl:=oi hm;exact q_rt q_rm
def qH1 (r:Int):V:=vi r
def qHI (r:Int):List (Nat×(Nat×O)):=[]
def FP (v2:(List qG)) (x4:Int) (x5:Int):St:=
 ⟨[(3,vi x4),(7,vc (tl qF du v2)),(8,vi (v2.length:Int)),(9,vi x5)],[]⟩
def AZ (x10:Int):St:=
 ⟨[(3,vi x10)],[]⟩
theorem qDn (E:Env 0) (v2:(List qG)):∀(n:Nat) (x4:Int) (x5:Int) (res:Int),YZ v2 n x4 x5=some res->HL (kx E 23 0) (nd f12 116) (jL 0 AZ res) n (FP v2 x4 x5):=by
 intro n
 induction n with
 |zero=>
  intro x4 x5 res hm;cases hm
 |succ n ih=>
  intro x4 x5 res hm;refine zF (s_va 0 [(10,vb (decide (x5<(v2.length:Int))))] ?_);refine q_sq (q_cq hm (λhm=>?_) (λhm=>?_))
  ·refine q_sk (q_sq ?_);refine q_bk 1 ?_;obtain⟨g7,hm⟩:=qT hm;refine s_vu [qi 0 g7] 0 [10] [(5,vp 0 0)] [] [(0,bx 93 (qF (v2.getD x5.toNat du)))] ?_;obtain⟨v8,h9,hm⟩:=qH hm;refine q_du [qc 5 [17] 1 (qGz ((v2.getD x5.toNat du).Sec) v8 h9)] [0,0,2,0,8,24,62,127,255] 1 [3,5] [(3,vi (w64 (x4+(w64 (((v2.getD x5.toNat du).Len)*v8)))))] [0] [] (q_vv [] 1 [9] [(9,vi (w64 (x5+1)))] ?_);exact q_hl (FP v2 (w64 (x4+(w64 (((v2.getD x5.toNat du).Len)*v8)))) (w64 (x5+1))) (ih (w64 (x4+(w64 (((v2.getD x5.toNat du).Len)*v8)))) (w64 (x5+1)) _ hm)
  ·refine q_ex 0 ?_;obtain rfl:=oi hm;exact q_l0
theorem qAg (a1:List qG) (r:Int) (hm:TU a1=some r):CtX Try.prog globs 12 0 0 [.one (tl qF du a1)] [] (qH1 r) (qHI r):=by
 unfold TU at hm;refine q_E f12 23 λE=>?_;refine s_vn [] 0 ⟨[(0,vc (tl qF du a1))],[]⟩ (s_va 0 [(3,vi 0)] ?_);refine q_sq ?_;obtain⟨v2,h3,hm⟩:=qH hm;refine s_vv [qc 1 [6] 0 (SE a1 v2 h3)] 0 [0] [(7,vc (tl qF du v2)),(8,vi (v2.length:Int)),(9,vi 0)] ?_;obtain⟨o11,h12,hm⟩:=qH hm;refine jC (nd f12 116) 0 (by kernel_rfl) FUEL AZ o11 (q_hl (FP v2 0 0) (qDn E v2 FUEL 0 0 o11 h12)) (s_vn [] 0 ⟨[(2,vi o11)],[]⟩ ?_);obtain rfl:=oi hm;exact q_rt q_rm
def zQ (a1:List qG) (a2:List qJ) (a3:List Product) (a4:Int) (a5:Int) (a6:Int) (a7:Int) (a8:Int) (a9:Int) (a10:Int) (a11:Int) (a12:List Int) (a13:List qA) (a14:List Rect) (r:(List qI)):V:=vo 3 0 9 r.length
def zO (a1:List qG) (a2:List qJ) (a3:List Product) (a4:Int) (a5:Int) (a6:Int) (a7:Int) (a8:Int) (a9:Int) (a10:Int) (a11:Int) (a12:List Int) (a13:List qA) (a14:List Rect) (r:(List qI)):List (Nat×(Nat×O)):=[(0,bx 78 [tl qF du a1,tl qE du a2,tl qC du a3,ci a4,ci a5,ci a6,ci a7,ci a8,ci a9,ci a10,ci a11,.own 1 0 24 a13.length,tl qL du a12,.own 2 0 4 a14.length]),(1,ro 0 80 24 a13.length (rf qD a13)),(2,ro 0 28 4 a14.length (rf qK a14)),(3,ro 0 60 9 r.length (rf qP r))]
def XM (a1:List qG) (a2:List qJ) (a3:List Product) (a4:Int) (a5:Int) (a6:Int) (a7:Int) (a8:Int) (a9:Int) (a10:Int) (a11:Int) (a12:List Int) (a13:List qA) (a14:List Rect):St:=
 ⟨[],[(0,bx 78 [tl qF du a1,tl qE du a2,tl qC du a3,ci a4,ci a5,ci a6,ci a7,ci a8,ci a9,ci a10,ci a11,.own 1 0 24 a13.length,tl qL du a12,.own 2 0 4 a14.length]),(1,ro 0 80 24 a13.length (rf qD a13)),(2,ro 0 28 4 a14.length (rf qK a14))]⟩
def BX (a1:List qG) (a2:List qJ) (a3:List Product) (a4:Int) (a5:Int) (a6:Int) (a7:Int) (a8:Int) (a9:Int) (a10:Int) (a11:Int) (a12:List Int) (a13:List qA) (a14:List Rect) (x16:Int) (l21:List qI) (l21n:Nat):St:=
 (XM a1 a2 a3 a4 a5 a6 a7 a8 a9 a10 a11 a12 a13 a14).up [] [(3,vo 3 0 9 l21n),(11,vo 1 0 24 a13.length),(12,vi (a13.length:Int)),(13,vi x16)] [] [(3,ro 0 60 9 l21n (rf qP l21))]
def KV (a1:List qG) (a2:List qJ) (a3:List Product) (a4:Int) (a5:Int) (a6:Int) (a7:Int) (a8:Int) (a9:Int) (a10:Int) (a11:Int) (a12:List Int) (a13:List qA) (a14:List Rect) (l15:List qI) (l15n:Nat) (x16:Int):St:=
 (XM a1 a2 a3 a4 a5 a6 a7 a8 a9 a10 a11 a12 a13 a14).up [] [(3,vo 3 0 9 l15n),(11,vo 1 0 24 a13.length),(12,vi (a13.length:Int)),(13,vi x16)] [] [(3,ro 0 60 9 l15n (rf qP l15))]
def DS (a1:List qG) (a2:List qJ) (a3:List Product) (a4:Int) (a5:Int) (a6:Int) (a7:Int) (a8:Int) (a9:Int) (a10:Int) (a11:Int) (a12:List Int) (a13:List qA) (a14:List Rect) (l22:List qI):St:=
 (XM a1 a2 a3 a4 a5 a6 a7 a8 a9 a10 a11 a12 a13 a14).up [] [(3,vo 3 0 9 l22.length)] [] [(3,ro 0 60 9 l22.length (rf qP l22))]
theorem IR (E:Env 3) (a1:List qG) (a2:List qJ) (a3:List Product) (a4:Int) (a5:Int) (a6:Int) (a7:Int) (a8:Int) (a9:Int) (a10:Int) (a11:Int) (a12:List Int) (a13:List qA) (a14:List Rect):∀(n:Nat) (l15:List qI) (l15n:Nat) (x16:Int) (res:(List qI)),l15.length=l15n->wT a13 n l15 x16=some res->HL (kx E 26 3) (nd f13 244) (jL 0 (λo=>DS a1 a2 a3 a4 a5 a6 a7 a8 a9 a10 a11 a12 a13 a14 o) res) n (KV a1 a2 a3 a4 a5 a6 a7 a8 a9 a10 a11 a12 a13 a14 l15 l15n x16):=by
 intro n
 induction n with
 |zero=>
  intro l15 l15n x16 res hl0 hm;cases hm
 |succ n ih=>
  intro l15 l15n x16 res hl0 hm;subst hl0;refine zF (s_va 4 [(14,vb (decide (x16<(a13.length:Int))))] ?_);refine q_sq (q_cq hm (λhm=>?_) (λhm=>?_))
  ·refine q_sk (q_jn (ι:=(List qI)×Nat) (λp=>BX a1 a2 a3 a4 a5 a6 a7 a8 a9 a10 a11 a12 a13 a14 x16 p.1 p.2) (λp=>p.1.length=p.2/\YG x16 (wT a13 n) p.1=some res) ?_ ?_)
   ·rintro⟨l21,l21n⟩ ⟨el21,hm⟩;replace el21:l21.length=l21n:=el21;subst el21;show H _ (BX a1 a2 a3 a4 a5 a6 a7 a8 a9 a10 a11 a12 a13 a14 x16 l21 l21.length) _ _;exact q_vv [] 6 [13] [(13,vi (w64 (x16+1)))] (q_hl (KV a1 a2 a3 a4 a5 a6 a7 a8 a9 a10 a11 a12 a13 a14 l21 l21.length (w64 (x16+1))) (ih l21 l21.length (w64 (x16+1)) _ rfl hm))
   ·refine q_bk 1 ?_;obtain⟨g18,hm⟩:=qT hm;refine s_vu [qi 0 g18,qd 1 dN (qX (zG g18))] 4 [14] [(5,vp 4 0)] [] [(4,bx 80 (qD (a13.getD x16.toNat du)))] (s_va 5 [(18,vb ((a13.getD x16.toNat du).gives))] ?_);refine q_cq hm (λhm=>?_) (λhm=>?_)
    ·obtain⟨g20,hm⟩:=qT hm;exact q_vu [qd 3 (drw 5 0 (rf qP [(a13.getD x16.toNat du).board])) (litP qP du 9 (λ_=>rfl) ([(a13.getD x16.toNat du).board]:List qI) 1 rfl),qd 4 (drw 3 1 (rf qP (l15++[(a13.getD x16.toNat du).board]))) (apP qP du l15 ([(a13.getD x16.toNat du).board]:List qI) l15.length 1 9 72 (1<=1) (kf _) rfl rfl (λ_=>rfl) (jQ g20))] 5 [3,5,18] [(3,vo 3 1 9 (l15.length+1))] [3,4] [(3,ro 1 60 9 (l15.length+1) (rf qP (l15++[(a13.getD x16.toNat du).board])))] (q_J ((l15++[(a13.getD x16.toNat du).board]),(l15.length+1)) ⟨(wR rfl rfl),hm⟩)
    ·exact q_sk (q_J (l15,l15.length) ⟨rfl,hm⟩)
  ·refine q_ex 0 ?_;obtain rfl:=oi hm;exact q_l0
theorem zS (a1:List qG) (a2:List qJ) (a3:List Product) (a4:Int) (a5:Int) (a6:Int) (a7:Int) (a8:Int) (a9:Int) (a10:Int) (a11:Int) (a12:List Int) (a13:List qA) (a14:List Rect) (r:(List qI)) (hm:wW a1 a2 a3 a4 a5 a6 a7 a8 a9 a10 a11 a12 a13 a14=some r):CtX Try.prog globs 13 3 3 [.one (.bptr 0 0 0)] [(0,bx 78 [tl qF du a1,tl qE du a2,tl qC du a3,ci a4,ci a5,ci a6,ci a7,ci a8,ci a9,ci a10,ci a11,.own 1 0 24 a13.length,tl qL du a12,.own 2 0 4 a14.length]),(1,ro 0 80 24 a13.length (rf qD a13)),(2,ro 0 28 4 a14.length (rf qK a14))] (zQ a1 a2 a3 a4 a5 a6 a7 a8 a9 a10 a11 a12 a13 a14 r) (zO a1 a2 a3 a4 a5 a6 a7 a8 a9 a10 a11 a12 a13 a14 r):=by
 unfold wW at hm;refine q_E f13 26 λE=>?_;refine s_vn [] 3 ⟨[(0,vp 0 0)],[(0,bx 78 [tl qF du a1,tl qE du a2,tl qC du a3,ci a4,ci a5,ci a6,ci a7,ci a8,ci a9,ci a10,ci a11,.own 1 0 24 a13.length,tl qL du a12,.own 2 0 4 a14.length]),(1,ro 0 80 24 a13.length (rf qD a13)),(2,ro 0 28 4 a14.length (rf qK a14))]⟩ (q_sq ?_);refine s_va 3 [(7,vb false)] (qAo f13 (.tmp 7) 26 27 (by kernel_rfl) (by kernel_rfl) ?_);refine q_sk (s_vv [] 3 [7] [(3,vc (.emp))] ?_);refine q_sq (s_vv [] 3 [0] [(11,vo 1 0 24 a13.length),(12,vi (a13.length:Int)),(13,vi 0)] ?_);refine q_fo 3 3 60 9 qP ?_
 obtain⟨o23,h24,hm⟩:=qH hm;refine jC (nd f13 244) 0 (by kernel_rfl) FUEL (λo=>DS a1 a2 a3 a4 a5 a6 a7 a8 a9 a10 a11 a12 a13 a14 o) o23 (q_hl (KV a1 a2 a3 a4 a5 a6 a7 a8 a9 a10 a11 a12 a13 a14 ([]:List qI) 0 0) (IR E a1 a2 a3 a4 a5 a6 a7 a8 a9 a10 a11 a12 a13 a14 FUEL ([]:List qI) 0 0 o23 rfl h24)) (s_vv [] 4 [3] [(2,vo 3 0 9 o23.length)] ?_);obtain rfl:=oi hm;exact q_rt q_rm
open Go.Proofs Go.Proofs.Try
def QM (a1:List qG) (a2:List qJ) (a3:List Product) (a4:Int) (a5:Int) (a6:Int) (a7:Int) (a8:Int) (a9:Int) (a10:Int) (a11:Int) (a12:List Int) (a13:List qA) (a14:List Rect) (r:(List Rect)):V:=vo 3 0 4 r.length
def QN (a1:List qG) (a2:List qJ) (a3:List Product) (a4:Int) (a5:Int) (a6:Int) (a7:Int) (a8:Int) (a9:Int) (a10:Int) (a11:Int) (a12:List Int) (a13:List qA) (a14:List Rect) (r:(List Rect)):List (Nat×(Nat×O)):=[(0,bx 78 [tl qF du a1,tl qE du a2,tl qC du a3,ci a4,ci a5,ci a6,ci a7,ci a8,ci a9,ci a10,ci a11,.own 1 0 24 a13.length,tl qL du a12,.own 2 0 4 a14.length]),(1,ro 0 80 24 a13.length (rf qD a13)),(2,ro 0 28 4 a14.length (rf qK a14)),(3,ro 0 28 4 r.length (rf qK r))]
def XS (a1:List qG) (a2:List qJ) (a3:List Product) (a4:Int) (a5:Int) (a6:Int) (a7:Int) (a8:Int) (a9:Int) (a10:Int) (a11:Int) (a12:List Int) (a13:List qA) (a14:List Rect):St:=
 ⟨[],[(0,bx 78 [tl qF du a1,tl qE du a2,tl qC du a3,ci a4,ci a5,ci a6,ci a7,ci a8,ci a9,ci a10,ci a11,.own 1 0 24 a13.length,tl qL du a12,.own 2 0 4 a14.length]),(1,ro 0 80 24 a13.length (rf qD a13)),(2,ro 0 28 4 a14.length (rf qK a14))]⟩
def NX (a1:List qG) (a2:List qJ) (a3:List Product) (a4:Int) (a5:Int) (a6:Int) (a7:Int) (a8:Int) (a9:Int) (a10:Int) (a11:Int) (a12:List Int) (a13:List qA) (a14:List Rect) (x16:Int) (l22:List Rect) (l22n:Nat):St:=
 (XS a1 a2 a3 a4 a5 a6 a7 a8 a9 a10 a11 a12 a13 a14).up [] [(0,vp 0 0),(3,vo 3 0 4 l22n),(12,vc (tl qL du a12)),(13,vi (a12.length:Int)),(14,vi x16)] [] [(3,ro 0 28 4 l22n (rf qK l22))]
def PT (a1:List qG) (a2:List qJ) (a3:List Product) (a4:Int) (a5:Int) (a6:Int) (a7:Int) (a8:Int) (a9:Int) (a10:Int) (a11:Int) (a12:List Int) (a13:List qA) (a14:List Rect) (l15:List Rect) (l15n:Nat) (x16:Int):St:=
 (XS a1 a2 a3 a4 a5 a6 a7 a8 a9 a10 a11 a12 a13 a14).up [] [(0,vp 0 0),(3,vo 3 0 4 l15n),(12,vc (tl qL du a12)),(13,vi (a12.length:Int)),(14,vi x16)] [] [(3,ro 0 28 4 l15n (rf qK l15))]
def FG (a1:List qG) (a2:List qJ) (a3:List Product) (a4:Int) (a5:Int) (a6:Int) (a7:Int) (a8:Int) (a9:Int) (a10:Int) (a11:Int) (a12:List Int) (a13:List qA) (a14:List Rect) (l23:List Rect):St:=
 (XS a1 a2 a3 a4 a5 a6 a7 a8 a9 a10 a11 a12 a13 a14).up [] [(3,vo 3 0 4 l23.length)] [] [(3,ro 0 28 4 l23.length (rf qK l23))]
theorem OC (E:Env 3) (a1:List qG) (a2:List qJ) (a3:List Product) (a4:Int) (a5:Int) (a6:Int) (a7:Int) (a8:Int) (a9:Int) (a10:Int) (a11:Int) (a12:List Int) (a13:List qA) (a14:List Rect):∀(n:Nat) (l15:List Rect) (l15n:Nat) (x16:Int) (res:(List Rect)),l15.length=l15n->wZ a12 a13 n l15 x16=some res->HL (kx E 34 3) (nd f20 244) (jL 0 (λo=>FG a1 a2 a3 a4 a5 a6 a7 a8 a9 a10 a11 a12 a13 a14 o) res) n (PT a1 a2 a3 a4 a5 a6 a7 a8 a9 a10 a11 a12 a13 a14 l15 l15n x16):=by
 intro n
 induction n with
 |zero=>
  intro l15 l15n x16 res hl0 hm;cases hm
 |succ n ih=>
  intro l15 l15n x16 res hl0 hm;subst hl0;refine zF (s_va 4 [(15,vb (decide (x16<(a12.length:Int))))] ?_);refine q_sq (q_cq hm (λhm=>?_) (λhm=>?_))
  ·refine q_sk (q_jn (ι:=(List Rect)×Nat) (λp=>NX a1 a2 a3 a4 a5 a6 a7 a8 a9 a10 a11 a12 a13 a14 x16 p.1 p.2) (λp=>p.1.length=p.2/\XA x16 (wZ a12 a13 n) p.1=some res) ?_ ?_)
   ·rintro⟨l22,l22n⟩ ⟨el22,hm⟩;replace el22:l22.length=l22n:=el22;subst el22;show H _ (NX a1 a2 a3 a4 a5 a6 a7 a8 a9 a10 a11 a12 a13 a14 x16 l22 l22.length) _ _;exact q_vv [] 6 [14] [(14,vi (w64 (x16+1)))] (q_hl (PT a1 a2 a3 a4 a5 a6 a7 a8 a9 a10 a11 a12 a13 a14 l22 l22.length (w64 (x16+1))) (ih l22 l22.length (w64 (x16+1)) _ rfl hm))
   ·refine q_bk 1 ?_;obtain⟨g18,hm⟩:=qT hm;refine s_vv [qi 0 g18] 4 [15] [(5,vi (a12.getD x16.toNat du))] ?_;obtain⟨g19,hm⟩:=qT hm;refine s_vu [qi 5 g19,qd 6 dN (qX (zG g19))] 4 [5] [(6,vp 4 0)] [] [(4,bx 80 (qD (a13.getD ((a12.getD x16.toNat du).toNat) du)))] (s_va 5 [(26,vb ((a13.getD ((a12.getD x16.toNat du).toNat) du).stands))] ?_);refine q_cq hm (λhm=>?_) (λhm=>?_)
    ·obtain⟨g21,hm⟩:=qT hm
     exact q_vu [qd 3 (drw 5 0 (rf qK [(a13.getD ((a12.getD x16.toNat du).toNat) du).rect])) (litP qK du 4 (λ_=>rfl) ([(a13.getD ((a12.getD x16.toNat du).toNat) du).rect]:List Rect) 1 rfl),qd 4 (drw 3 1 (rf qK (l15++[(a13.getD ((a12.getD x16.toNat du).toNat) du).rect]))) (apP qK du l15 ([(a13.getD ((a12.getD x16.toNat du).toNat) du).rect]:List Rect) l15.length 1 4 32 (1<=1) (kf _) rfl rfl (λ_=>rfl) (jQ g21))] 5 [3,6,26] [(3,vo 3 1 4 (l15.length+1))] [3,4] [(3,ro 1 28 4 (l15.length+1) (rf qK (l15++[(a13.getD ((a12.getD x16.toNat du).toNat) du).rect])))] (q_J ((l15++[(a13.getD ((a12.getD x16.toNat du).toNat) du).rect]),(l15.length+1)) ⟨(wR rfl rfl),hm⟩)
    ·exact q_sk (q_J (l15,l15.length) ⟨rfl,hm⟩)
  ·refine q_ex 0 ?_;obtain rfl:=oi hm;exact q_l0
theorem ZS (a1:List qG) (a2:List qJ) (a3:List Product) (a4:Int) (a5:Int) (a6:Int) (a7:Int) (a8:Int) (a9:Int) (a10:Int) (a11:Int) (a12:List Int) (a13:List qA) (a14:List Rect) (r:(List Rect)) (hm:jY a1 a2 a3 a4 a5 a6 a7 a8 a9 a10 a11 a12 a13 a14=some r):CtX Try.prog globs 20 3 3 [.one (.bptr 0 0 0)] [(0,bx 78 [tl qF du a1,tl qE du a2,tl qC du a3,ci a4,ci a5,ci a6,ci a7,ci a8,ci a9,ci a10,ci a11,.own 1 0 24 a13.length,tl qL du a12,.own 2 0 4 a14.length]),(1,ro 0 80 24 a13.length (rf qD a13)),(2,ro 0 28 4 a14.length (rf qK a14))] (QM a1 a2 a3 a4 a5 a6 a7 a8 a9 a10 a11 a12 a13 a14 r) (QN a1 a2 a3 a4 a5 a6 a7 a8 a9 a10 a11 a12 a13 a14 r):=by
 unfold jY at hm;refine q_E f20 34 λE=>?_;refine s_vn [] 3 ⟨[(0,vp 0 0)],[(0,bx 78 [tl qF du a1,tl qE du a2,tl qC du a3,ci a4,ci a5,ci a6,ci a7,ci a8,ci a9,ci a10,ci a11,.own 1 0 24 a13.length,tl qL du a12,.own 2 0 4 a14.length]),(1,ro 0 80 24 a13.length (rf qD a13)),(2,ro 0 28 4 a14.length (rf qK a14))]⟩ (q_sq ?_);refine s_va 3 [(8,vb false)] (qAo f20 (.tmp 8) 26 27 (by kernel_rfl) (by kernel_rfl) ?_);refine q_sk (s_vv [] 3 [8] [(3,vc (.emp))] ?_);refine q_sq (s_va 3 [(12,vc (tl qL du a12)),(13,vi (a12.length:Int)),(14,vi 0)] ?_);refine q_fo 3 3 28 4 qK ?_;obtain⟨o24,h25,hm⟩:=qH hm
 refine jC (nd f20 244) 0 (by kernel_rfl) FUEL (λo=>FG a1 a2 a3 a4 a5 a6 a7 a8 a9 a10 a11 a12 a13 a14 o) o24 (q_hl (PT a1 a2 a3 a4 a5 a6 a7 a8 a9 a10 a11 a12 a13 a14 ([]:List Rect) 0 0) (OC E a1 a2 a3 a4 a5 a6 a7 a8 a9 a10 a11 a12 a13 a14 FUEL ([]:List Rect) 0 0 o24 rfl h25)) (s_vv [] 4 [3] [(2,vo 3 0 4 o24.length)] ?_);obtain rfl:=oi hm;exact q_rt q_rm
end Saw
end Go.SL

import Derived.Test.YtpommeghjpbepaaEBase
import Derived.Test.YtpommeghjpbepaaEFa11
import Derived.Test.YtpommeghjpbepaaEFa6
import Derived.Test.YtpommeghjpbepaaEFa7
import Derived.Test.YtpommeghjpbepaaEFa10
import Derived.Test.YtpommeghjpbepaaEFa1
set_option linter.unusedVariables false
set_option linter.unusedSimpArgs false
namespace Go.SL
namespace Saw
open Go.Proofs Go.Proofs.Try
set_option maxHeartbeats 4000000
set_option maxRecDepth 100000
noncomputable def UO (a1:Pattern) (a2:Int) (a3:Pattern) (a4:Int) (a5:List Rect) (ri:RI 47) (r:Nat×(List Rect)):V:= .undef
noncomputable def TY (a1:Pattern) (a2:Int) (a3:Pattern) (a4:Int) (a5:List Rect) (ri:RI 47) (r:Nat×(List Rect)):List (Nat×(Nat×O)):=[(0,lz (rc f36 122 ri) ri.b [] r.1),(1,bx 31 (qN a1)),(2,bx 3 [ci a2]),(3,bx 70 [.own 6 0 4 r.2.length]),(4,bx 31 (qN a3)),(5,bx 3 [ci a4]),(6,ro 0 28 4 r.2.length (rf qK r.2))]
noncomputable def BK (ri:RI 47) (a1:Pattern) (a2:Int) (a3:Pattern) (a4:Int) (x7:Int) (l23:List qB) (l23n:Nat) (l24:List Rect) (l24n:Nat):St:=
 ⟨[(0,vc (.yl (rc f36 122 ri) ri.b [2,3,7] [.bptr 1 0 0,.bptr 2 0 0,.bptr 3 0 0])),(1,vp 4 0),(2,vp 5 0),(4,vo 7 0 5 l23n),(5,vi x7)],[(0,lq (rc f36 122 ri) ri.b),(1,bx 31 (qN a1)),(2,bx 3 [ci a2]),(3,bx 70 [.own 6 0 4 l24n]),(4,bx 31 (qN a3)),(5,bx 3 [ci a4]),(6,ro 0 28 4 l24n (rf qK l24)),(7,ro 0 142 5 l23n (rf qM l23))]⟩
noncomputable def KY (ri:RI 47) (a1:Pattern) (a2:Int) (a3:Pattern) (a4:Int) (l6:List qB) (l6n:Nat) (x7:Int) (l8:List Rect) (l8n:Nat):St:=
 ⟨[(0,vc (.yl (rc f36 122 ri) ri.b [2,3,7] [.bptr 1 0 0,.bptr 2 0 0,.bptr 3 0 0])),(1,vp 4 0),(2,vp 5 0),(4,vo 7 0 5 l6n),(5,vi x7)],[(0,lq (rc f36 122 ri) ri.b),(1,bx 31 (qN a1)),(2,bx 3 [ci a2]),(3,bx 70 [.own 6 0 4 l8n]),(4,bx 31 (qN a3)),(5,bx 3 [ci a4]),(6,ro 0 28 4 l8n (rf qK l8)),(7,ro 0 142 5 l6n (rf qM l6))]⟩
noncomputable def DX (ri:RI 47) (a1:Pattern) (a2:Int) (a3:Pattern) (a4:Int) (l25:List Rect):St:=
 ⟨[],[(0,lq (rc f36 122 ri) ri.b),(1,bx 31 (qN a1)),(2,bx 3 [ci a2]),(3,bx 70 [.own 6 0 4 l25.length]),(4,bx 31 (qN a3)),(5,bx 3 [ci a4]),(6,ro 0 28 4 l25.length (rf qK l25))]⟩
theorem IM (E:Env 7) (ri:RI 47) (a1:Pattern) (a2:Int) (a3:Pattern) (a4:Int) (a5:List Rect):∀(n:Nat) (l6:List qB) (l6n:Nat) (x7:Int) (l8:List Rect) (l8n:Nat) (res:(Nat×(List Rect))⊕(List Rect)),l6.length=l6n->l8.length=l8n->jF a1 a2 a3 a4 n l6 x7 l8=some res->HL (kx E 73 6) (nd f81 28) (WB 0 (λo=>DX ri a1 a2 a3 a4 o) (λv st=>RetQ Try.prog f81 (UO a1 a2 a3 a4 a5 ri v) (TY a1 a2 a3 a4 a5 ri v) .ret st) res) n (KY ri a1 a2 a3 a4 l6 l6n x7 l8 l8n):=by
 intro n
 induction n with
 |zero=>
  intro l6 l6n x7 l8 l8n res hl0 hl1 hm;cases hm
 |succ n ih=>
  intro l6 l6n x7 l8 l8n res hl0 hl1 hm;subst hl0;subst hl1;refine zF (q_sq ?_);refine s_va 8 [(17,vb (decide ((l6.length:Int)>0)))] (q_cq hm (λhm=>?_) (λhm=>?_))
  ·refine q_sk (q_jn (ι:=(List qB)×Nat×(List Rect)×Nat) (λp=>BK ri a1 a2 a3 a4 x7 p.1 p.2.1 p.2.2.1 p.2.2.2) (λp=>p.1.length=p.2.1/\p.2.2.1.length=p.2.2.2/\YI x7 (jF a1 a2 a3 a4 n) p.1 p.2.2.1=some res) ?_ ?_)
   ·rintro⟨l23,l23n,l24,l24n⟩ ⟨el23,el24,hm⟩;replace el23:l23.length=l23n:=el23;subst el23;replace el24:l24.length=l24n:=el24;subst el24;show H _ (BK ri a1 a2 a3 a4 x7 l23 l23.length l24 l24.length) _ _;exact q_vv [] 14 [5] [(5,vi (w64 (x7+1)))] (q_hl (KY ri a1 a2 a3 a4 l23 l23.length (w64 (x7+1)) l24 l24.length) (ih l23 l23.length (w64 (x7+1)) l24 l24.length _ rfl rfl hm))
   ·refine q_bk 1 ?_;obtain⟨g10,hm⟩:=qT hm;refine s_vu [qi 4 g10,qd 5 dN (qX (zG g10))] 8 [17] [(6,vp 8 0)] [] [(8,bx 142 (qM (l6.getD ((w64 ((l6.length:Int)-1)).toNat) du)))] ?_;obtain⟨g11,hm⟩:=qT hm
    refine s_wu [qd 4 dN (And.intro (wG g11).2.1 (wG g11).2.2)] [.row 7 ((w64 ((l6.length:Int)-1)).toNat) (rf qM (l6.take ((w64 ((l6.length:Int)-1)).toNat)))] (o1 (tkP qM du l6 l6.length ((w64 ((l6.length:Int)-1)).toNat) (show(w64 ((l6.length:Int)-1)).toNat<=l6.length by have:=(wG g11);omega))) 9 [4] [(4,vo 7 0 5 ((w64 ((l6.length:Int)-1)).toNat))] [7] [(7,ro 0 142 5 ((w64 ((l6.length:Int)-1)).toNat) (rf qM (l6.take ((w64 ((l6.length:Int)-1)).toNat))))] (q_sq ?_);refine q_sq ?_;obtain⟨v12,h13,hm⟩:=qH hm;rcases bif_c hm with⟨b14,hm⟩|⟨b14,hm⟩
    ·refine q_vu [qd 3 (dex (cen [(0,0),(1,0),(2,0),(3,0),(6,0)] [0,0,0,0,1] 4 4 (VH x7 (l6.getD ((w64 ((l6.length:Int)-1)).toNat) du) a1 a2 l8 ri v12) (GA x7 (l6.getD ((w64 ((l6.length:Int)-1)).toNat) du) a1 a2 l8 ri v12) [31,32,33] [0,1,2,3,6])) (IT (K:=(kx E 73 6)) ⟨[(31,vc (.yl (rc f36 122 ri) ri.b [2,3,7] [.bptr 1 0 0,.bptr 2 0 0,.bptr 3 0 0])),(32,vi x7),(33,va [ci ((((l6.getD ((w64 ((l6.length:Int)-1)).toNat) du).rect).X).A),ci ((((l6.getD ((w64 ((l6.length:Int)-1)).toNat) du).rect).X).B),ci ((((l6.getD ((w64 ((l6.length:Int)-1)).toNat) du).rect).Y).A),ci ((((l6.getD ((w64 ((l6.length:Int)-1)).toNat) du).rect).Y).B),ci ((l6.getD ((w64 ((l6.length:Int)-1)).toNat) du).level)])],[(0,lq (rc f36 122 ri) ri.b),(1,bx 31 (qN a1)),(2,bx 3 [ci a2]),(3,bx 70 [.own 6 0 4 l8.length]),(6,ro 0 28 4 l8.length (rf qK l8))]⟩ (opAt (rg f81 3660) 3) [(0,0),(1,0),(2,0),(3,0),(6,0)] [0,0,0,0,1] 4 0 o0 rfl (MC x7 (l6.getD ((w64 ((l6.length:Int)-1)).toNat) du) a1 a2 l8 ri v12 h13) (.inl rfl) (by kernel_rfl)),qf 5 b14] 9 [] [(42,vb true)] [0,3,6] [(0,lz (rc f36 122 ri) ri.b [] v12.1),(3,bx 70 [.own 6 1 4 v12.2.length]),(6,ro 1 28 4 v12.2.length (rf qK v12.2))] ?_
     refine EC f81 (.tmp 42) 7322 7323 (by kernel_rfl) (by kernel_rfl) ?_;obtain rfl:=oi hm;refine q_rt (wS (v12.1,v12.2) ?_);exact q_rm
    ·refine q_wu [qd 3 (dex (cen [(0,0),(1,0),(2,0),(3,0),(6,0)] [0,0,0,0,1] 4 4 (VH x7 (l6.getD ((w64 ((l6.length:Int)-1)).toNat) du) a1 a2 l8 ri v12) (GA x7 (l6.getD ((w64 ((l6.length:Int)-1)).toNat) du) a1 a2 l8 ri v12) [31,32,33] [0,1,2,3,6])) (IT (K:=(kx E 73 6)) ⟨[(31,vc (.yl (rc f36 122 ri) ri.b [2,3,7] [.bptr 1 0 0,.bptr 2 0 0,.bptr 3 0 0])),(32,vi x7),(33,va [ci ((((l6.getD ((w64 ((l6.length:Int)-1)).toNat) du).rect).X).A),ci ((((l6.getD ((w64 ((l6.length:Int)-1)).toNat) du).rect).X).B),ci ((((l6.getD ((w64 ((l6.length:Int)-1)).toNat) du).rect).Y).A),ci ((((l6.getD ((w64 ((l6.length:Int)-1)).toNat) du).rect).Y).B),ci ((l6.getD ((w64 ((l6.length:Int)-1)).toNat) du).level)])],[(0,lq (rc f36 122 ri) ri.b),(1,bx 31 (qN a1)),(2,bx 3 [ci a2]),(3,bx 70 [.own 6 0 4 l8.length]),(6,ro 0 28 4 l8.length (rf qK l8))]⟩ (opAt (rg f81 3660) 3) [(0,0),(1,0),(2,0),(3,0),(6,0)] [0,0,0,0,1] 4 0 o0 rfl (MC x7 (l6.getD ((w64 ((l6.length:Int)-1)).toNat) du) a1 a2 l8 ri v12 h13) (.inl rfl) (by kernel_rfl)),qf 5 b14] [.lpn 0 .ready none] (o1 (qG3 (js:=[]) b14)) 9 [] [(42,vb (decide (x7≥(a3.Nodes.length:Int))))] [3,6] [(3,bx 70 [.own 6 1 4 v12.2.length]),(6,ro 1 28 4 v12.2.length (rf qK v12.2))] ?_
     refine q_cq hm (λhm=>?_) (λhm=>?_)
     ·obtain rfl:=oi hm;refine q_rt (wS (0,v12.2) ?_);exact q_rm
     ·refine q_sk ?_;obtain⟨g16,hm⟩:=qT hm;refine s_vu [qi 3 g16] 9 [42] [(7,vp 9 0)] [] [(9,bx 117 (jS (a3.Nodes.getD x7.toNat du)))] ?_;obtain⟨v17,h18,hm⟩:=qH hm;refine s_vv [qc 2 [49] 10 (JV ((a3.Nodes.getD x7.toNat du).Kind) v17 h18)] 10 [] [(50,vb v17)] (q_cq hm (λhm=>?_) (λhm=>?_))
      ·obtain⟨v20,h21,hm⟩:=qH hm;refine s_vu [qc 4 [53,54,55] 10 (KS ((l6.getD ((w64 ((l6.length:Int)-1)).toNat) du).rect) (a3.Nodes.getD x7.toNat du) a4 v20 h21)] 10 [7,50] [(8,vp 10 0),(10,vp 12 0)] [9] [(10,bx 28 (qK v20.1)),(12,bx 28 (qK v20.2.2))] ?_;obtain⟨g22,hm⟩:=qT hm
       refine q_vu [qd 11 (drw 13 0 (rf qM [(qB.mk v20.2.2 (w64 (((l6.getD ((w64 ((l6.length:Int)-1)).toNat) du).level)+1))),(qB.mk v20.1 (w64 (((l6.getD ((w64 ((l6.length:Int)-1)).toNat) du).level)+1)))])) (litP qM du 5 (λ_=>rfl) ([(qB.mk v20.2.2 (w64 (((l6.getD ((w64 ((l6.length:Int)-1)).toNat) du).level)+1))),(qB.mk v20.1 (w64 (((l6.getD ((w64 ((l6.length:Int)-1)).toNat) du).level)+1)))]:List qB) 2 rfl),qd 12 (drw 7 1 (rf qM ((l6.take ((w64 ((l6.length:Int)-1)).toNat))++[(qB.mk v20.2.2 (w64 (((l6.getD ((w64 ((l6.length:Int)-1)).toNat) du).level)+1))),(qB.mk v20.1 (w64 (((l6.getD ((w64 ((l6.length:Int)-1)).toNat) du).level)+1)))]))) (apP qM du (l6.take ((w64 ((l6.length:Int)-1)).toNat)) ([(qB.mk v20.2.2 (w64 (((l6.getD ((w64 ((l6.length:Int)-1)).toNat) du).level)+1))),(qB.mk v20.1 (w64 (((l6.getD ((w64 ((l6.length:Int)-1)).toNat) du).level)+1)))]:List qB) ((w64 ((l6.length:Int)-1)).toNat) 2 5 40 (2<=2) (kf _) (XJ rfl (show(w64 ((l6.length:Int)-1)).toNat<=l6.length by have:=(wG g11);omega)) rfl (λ_=>rfl) (jQ g22))] 13 [4,6,8,10] [(4,vo 7 1 5 ((w64 ((l6.length:Int)-1)).toNat+2))] [7,8,10,12] [(7,ro 1 142 5 ((w64 ((l6.length:Int)-1)).toNat+2) (rf qM ((l6.take ((w64 ((l6.length:Int)-1)).toNat))++[(qB.mk v20.2.2 (w64 (((l6.getD ((w64 ((l6.length:Int)-1)).toNat) du).level)+1))),(qB.mk v20.1 (w64 (((l6.getD ((w64 ((l6.length:Int)-1)).toNat) du).level)+1)))])))] ?_
       exact q_J (((l6.take ((w64 ((l6.length:Int)-1)).toNat))++[(qB.mk v20.2.2 (w64 (((l6.getD ((w64 ((l6.length:Int)-1)).toNat) du).level)+1))),(qB.mk v20.1 (w64 (((l6.getD ((w64 ((l6.length:Int)-1)).toNat) du).level)+1)))]),((w64 ((l6.length:Int)-1)).toNat+2),v12.2,v12.2.length) ⟨(wR (XJ rfl (show(w64 ((l6.length:Int)-1)).toNat<=l6.length by have:=(wG g11);omega)) rfl),rfl,hm⟩
      ·exact q_sk (q_J ((l6.take ((w64 ((l6.length:Int)-1)).toNat)),(w64 ((l6.length:Int)-1)).toNat,v12.2,v12.2.length) ⟨(XJ rfl (show(w64 ((l6.length:Int)-1)).toNat<=l6.length by have:=(wG g11);omega)),rfl,hm⟩)
  ·refine q_ex 0 ?_;obtain rfl:=oi hm;exact q_l1 l8
theorem qBd (a1:Pattern) (a2:Int) (a3:Pattern) (a4:Int) (a5:List Rect) (ri:RI 47) (r:Nat×(List Rect)) (hm:JM a1 a2 a3 a4 a5=some r):CtX Try.prog globs 81 7 6 [.one (.yl (rc f36 122 ri) ri.b [2,3,7] [.bptr 1 0 0,.bptr 2 0 0,.bptr 3 0 0]),.one (.bptr 4 0 0),.one (.bptr 5 0 0)] [(0,lq (rc f36 122 ri) ri.b),(1,bx 31 (qN a1)),(2,bx 3 [ci a2]),(3,bx 70 [.own 6 0 4 a5.length]),(4,bx 31 (qN a3)),(5,bx 3 [ci a4]),(6,ro 0 28 4 a5.length (rf qK a5))] (UO a1 a2 a3 a4 a5 ri r) (TY a1 a2 a3 a4 a5 ri r):=by
 unfold JM at hm;refine q_E f81 73 λE=>?_;refine s_vn [qd 3 (drw 7 0 (rf qM [(qB.mk a3.Frame 1)])) (litP qM du 5 (λ_=>rfl) ([(qB.mk a3.Frame 1)]:List qB) 1 rfl)] 7 ⟨[(0,vc (.yl (rc f36 122 ri) ri.b [2,3,7] [.bptr 1 0 0,.bptr 2 0 0,.bptr 3 0 0])),(1,vp 4 0),(2,vp 5 0),(4,vo 7 0 5 1)],[(0,lq (rc f36 122 ri) ri.b),(1,bx 31 (qN a1)),(2,bx 3 [ci a2]),(3,bx 70 [.own 6 0 4 a5.length]),(4,bx 31 (qN a3)),(5,bx 3 [ci a4]),(6,ro 0 28 4 a5.length (rf qK a5)),(7,ro 0 142 5 1 (rf qM [(qB.mk a3.Frame 1)]))]⟩ (s_va 8 [(5,vi 0)] ?_);obtain⟨u28,h27,hm⟩:=qH hm
 refine yA (nd f81 28) 0 (by kernel_rfl) FUEL (λo=>DX ri a1 a2 a3 a4 o) (λv st=>RetQ Try.prog f81 (UO a1 a2 a3 a4 a5 ri v) (TY a1 a2 a3 a4 a5 ri v) .ret st) u28 (q_hl (KY ri a1 a2 a3 a4 ([(qB.mk a3.Frame 1)]:List qB) 1 0 a5 a5.length) (IM E ri a1 a2 a3 a4 a5 FUEL ([(qB.mk a3.Frame 1)]:List qB) 1 0 a5 a5.length u28 rfl rfl h27)) ?_ ?_
 ·rintro v29 rfl st hr;obtain rfl:=oi hm;exact hr
 ·rintro o26 rfl;replace hm:_=some r:=hm;obtain rfl:=oi hm;exact q_rm
def qHL (r:(List Rect)×Int):V:= .tup [.one (.own 0 0 4 r.1.length),.one (ci r.2)]
def qHd (r:(List Rect)×Int):List (Nat×(Nat×O)):=[(0,ro 0 28 4 r.1.length (rf qK r.1))]
theorem qF9 (a1:Pattern) (a2:Int) (r:(List Rect)×Int) (hm:BI a1 a2=some r):CtX Try.prog globs 36 0 0 [.agg (qN a1),.one (ci a2)] [] (qHL r) (qHd r):=by
 unfold BI at hm;refine q_E f36 47 λE=>?_;refine s_vn [] 0 ⟨[(2,vp 0 0),(3,vp 1 0)],[(0,bx 31 (qN a1)),(1,bx 3 [ci a2])]⟩ (q_sq ?_);obtain⟨v3,h4,hm⟩:=qH hm;refine s_vv [qk 2 [14,15] 2 ⟨[(14,va (qN a1)),(15,vi a2)],[]⟩ (HT a1 a2 v3 h4)] 2 [] [(6,vi v3)] (s_va 2 [(18,vb (v3 !=0))] ?_);refine q_cq hm (λhm=>?_) (λhm=>?_)
 ·refine s_vn [] 2 ⟨[(4,vc (.emp)),(5,vi v3)],[]⟩ (q_fo 4 2 28 4 qK ?_);refine q_fl 4 2 28 4 qK ?_;obtain rfl:=oi hm;exact q_sw 2 0 (q_rt q_rm)
 ·refine q_sk (s_vu [] 2 [6,18] [(7,vp 2 0)] [] [(2,bx 70 [.emp])] ?_);refine q_sq ?_;obtain⟨v6,h7,hm⟩:=qH hm;refine s_vu [qc 2 [20,21] 3 (TQ a1 a2 v6 h7)] 3 [] [(22,vc (.fn 81 [.bptr 3 0 0,.bptr 4 0 0]))] [] [(3,bx 31 (qN v6.1)),(4,bx 3 [ci v6.2])] (q_bk 0 ?_)
  refine q_fu [.ownB 2 0 5 28 4 (rf qK [])] [] [] [2] [(2,bx 70 [.own 5 0 4 0]),(5,ro 0 28 4 0 (rf qK []))] o0 (q_fu [.len 5 (([]:List Rect).length)] [] [] [2,5] [(2,bx 70 [.own 5 0 4 (([]:List Rect).length)]),(5,ro 0 28 4 (([]:List Rect).length) (rf qK []))] (o1 (And.intro (show 0=([]:List Rect).length from rfl) (show 0=([]:List Rect).length from rfl))) ?_);obtain⟨v8,h9,hm⟩:=qH hm
  refine q_rf (.tmp 22) [2,3,7] 6 [(6,0),(0,0),(1,0),(2,0),(3,0),(4,0),(5,0)] [0,0,0,0,0,0,1] 0 6 [] v8.1 0 ⟨[(7,vp 2 0)],[(2,bx 70 [.own 5 0 4 v8.2.length]),(5,ro 0 28 4 v8.2.length (rf qK v8.2))]⟩ (λri=>qBd a1 a2 v6.1 v6.2 ([]:List Rect) ri v8 h9) ?_;rcases bif_c hm with⟨b10,hm⟩|⟨b10,hm⟩
  ·refine JQ_n b10 (s_vu [] 7 [7] [(4,vo 5 0 4 v8.2.length),(5,vi 0)] [2] [] ?_);obtain rfl:=oi hm;exact q_sw 5 0 (q_rt q_rm)
  ·cases hm
def qMs (r:zM×Int):V:= .tup [.agg (WV r.1),.one (ci r.2)]
def qMA (r:zM×Int):List (Nat×(Nat×O)):=[]
def HB (a1:List qG) (a5:Saw) (a6:Rates) (v10:(List qI)×Int) (v16:Int):St:=
 ⟨[(0,vc (tl qF du a1)),(10,vp 1 0),(11,vp 2 0),(12,vp 3 0),(15,vo 4 0 9 v10.1.length),(18,vi v16),(19,vp 6 0)],[(1,bx 33 (ZG a5)),(2,bx 35 (JO a6)),(3,bx 50 [ci 0,ci 0,ci 0,ci 0,ci 0]),(4,ro 0 60 9 v10.1.length (rf qP v10.1))]⟩
def AM (a1:List qG) (a5:Saw) (a6:Rates) (v10:(List qI)×Int) (v13:(List Rect)×Int) (v16:Int) (v18:Int) (x20:Int) (x21:Int):St:=
 (HB a1 a5 a6 v10 v16).up [] [(68,vo 5 0 4 v13.1.length),(69,vi (v13.1.length:Int)),(70,vi x20)] [] [(5,ro 0 28 4 v13.1.length (rf qK v13.1)),(6,bx 50 [ci v18,ci 0,ci 0,ci x21,ci 0])]
def qCG (a1:List qG) (a5:Saw) (a6:Rates) (v10:(List qI)×Int) (v16:Int) (x28:zM):St:=
 (HB a1 a5 a6 v10 v16).up [] [] [] [(6,bx 50 (WV x28))]
def AG (a1:List qG) (a5:Saw) (a6:Rates) (v10:(List qI)×Int) (v16:Int) (o29:zM) (x31:Int) (x32:Int) (x33:Int) (x34:Int):St:=
 (HB a1 a5 a6 v10 v16).up [15] [(85,vo 4 0 9 v10.1.length),(86,vi (v10.1.length:Int)),(87,vi x31)] [] [(6,bx 50 [ci o29.Log,ci x32,ci o29.Chips,ci x33,ci x34])]
def qCD (a6:Rates) (x47:zM):St:=
 ⟨[(11,vp 2 0),(12,vp 3 0),(19,vp 6 0)],[(2,bx 35 (JO a6)),(3,bx 50 [ci 0,ci 0,ci 0,ci 0,ci 0]),(6,bx 50 (WV x47))]⟩
theorem qH6 (E:Env 0) (a1:List qG) (a5:Saw) (a6:Rates) (v10:(List qI)×Int) (v13:(List Rect)×Int) (v16:Int) (v18:Int):∀(n:Nat) (x20:Int) (x21:Int) (res:zM),TN a1 v13 v16 v18 n x20 x21=some res->HL (kx E 177 0) (nd f16 8180) (jL 0 (λo=>qCG a1 a5 a6 v10 v16 o) res) n (AM a1 a5 a6 v10 v13 v16 v18 x20 x21):=by
 intro n
 induction n with
 |zero=>
  intro x20 x21 res hm;cases hm
 |succ n ih=>
  intro x20 x21 res hm;refine zF (s_va 7 [(71,vb (decide (x20<(v13.1.length:Int))))] ?_);refine q_sq (q_cq hm (λhm=>?_) (λhm=>?_))
  ·refine q_sk (q_sq ?_);refine q_bk 1 ?_;obtain⟨g23,hm⟩:=qT hm;refine s_vu [qi 0 g23,qd 1 dN (qX (zG g23))] 7 [71] [(21,vp 7 0)] [] [(7,bx 28 (qK (v13.1.getD x20.toNat du)))] ?_;obtain⟨v24,h25,hm⟩:=qH hm;obtain⟨v26,h27,hm⟩:=qH hm;refine q_du [qc 6 [77,79] 8 (HR (v13.1.getD x20.toNat du) (Span.mk 0 v16) v24 h25),qc 7 [76,80] 8 (RV a1 v24 v26 h27)] [0,1,0,0,0,16,56,124,255,511,1023] 8 [21] [] [6,7] [(6,bx 50 [ci v18,ci 0,ci 0,ci (w64 (x21+v26)),ci 0])] (q_vv [] 8 [70] [(70,vi (w64 (x20+1)))] ?_)
   exact q_hl (AM a1 a5 a6 v10 v13 v16 v18 (w64 (x20+1)) (w64 (x21+v26))) (ih (w64 (x20+1)) (w64 (x21+v26)) _ hm)
  ·refine q_ex 0 ?_;obtain rfl:=oi hm;exact q_l0
theorem qH0 (E:Env 0) (a1:List qG) (a5:Saw) (a6:Rates) (v10:(List qI)×Int) (v16:Int) (o29:zM):∀(n:Nat) (x31:Int) (x32:Int) (x33:Int) (x34:Int) (res:zM),TH a1 a5 v10 v16 o29 n x31 x32 x33 x34=some res->HL (kx E 177 0) (nd f16 16372) (jL 2 (λo=>qCD a6 o) res) n (AG a1 a5 a6 v10 v16 o29 x31 x32 x33 x34):=by
 intro n
 induction n with
 |zero=>
  intro x31 x32 x33 x34 res hm;cases hm
 |succ n ih=>
  intro x31 x32 x33 x34 res hm;refine zF (s_va 7 [(88,vb (decide (x31<(v10.1.length:Int))))] ?_);refine q_sq (q_cq hm (λhm=>?_) (λhm=>?_))
  ·refine q_sk (q_sq ?_);refine q_bk 3 ?_;obtain⟨g36,hm⟩:=qT hm;refine s_vu [qi 0 g36,qd 1 dN (qX (zG g36))] 7 [88] [(23,vp 7 0)] [] [(7,bx 60 (qP (v10.1.getD x31.toNat du)))] ?_;obtain⟨v37,h38,hm⟩:=qH hm;refine s_du [qc 5 [93,95] 8 (RV a1 ((v10.1.getD x31.toNat du).Box) v37 h38)] [0,1,0,0,8,28,63,127,255] 8 [] [] [6] [(6,bx 50 [ci o29.Log,ci (w64 (x32+v37)),ci o29.Chips,ci x33,ci x34])] (s_vu [] 8 [] [] [6] [(6,bx 50 [ci o29.Log,ci (w64 (x32+v37)),ci o29.Chips,ci x33,ci (w64 (x34+(w64 (1000000*((v10.1.getD x31.toNat du).Worth)))))])] ?_)
   refine s_vu [] 8 [] [(24,vp 8 0)] [] [(8,bx 28 [ci ((((v10.1.getD x31.toNat du).Box).X).A),ci ((((v10.1.getD x31.toNat du).Box).X).B),ci ((((v10.1.getD x31.toNat du).Box).Y).A),ci ((((v10.1.getD x31.toNat du).Box).Y).B)])] (s_vu [] 9 [23] [(25,vp 9 0)] [7] [(9,bx 26 (qO (((v10.1.getD x31.toNat du).Box).Z)))] ?_);obtain⟨v39,h40,hm⟩:=qH hm;obtain⟨v41,h42,hm⟩:=qH hm
   refine s_du [qc 13 [119,128] 10 (HR (Rect.mk (((v10.1.getD x31.toNat du).Box).X) (((v10.1.getD x31.toNat du).Box).Y)) (Span.mk (imax 0 (w64 (((((v10.1.getD x31.toNat du).Box).Z).A)-a5.Trim))) ((((v10.1.getD x31.toNat du).Box).Z).A)) v39 h40),qc 14 [118,129] 10 (RV a1 v39 v41 h42)] [0,1,0,0,0,16,0,64,240,496,0,1024,4080,8184,16380,32767,65535,131071] 10 [] [] [6] [(6,bx 50 [ci o29.Log,ci (w64 (x32+v37)),ci o29.Chips,ci (w64 (x33+v41)),ci (w64 (x34+(w64 (1000000*((v10.1.getD x31.toNat du).Worth)))))])] ?_;obtain⟨v43,h44,hm⟩:=qH hm;obtain⟨v45,h46,hm⟩:=qH hm
   refine q_du [qc 14 [136,146] 10 (HR (Rect.mk (((v10.1.getD x31.toNat du).Box).X) (((v10.1.getD x31.toNat du).Box).Y)) (Span.mk ((((v10.1.getD x31.toNat du).Box).Z).B) (imin (w64 (((((v10.1.getD x31.toNat du).Box).Z).B)+a5.Trim)) v16)) v43 h44),qc 15 [135,147] 10 (RV a1 v43 v45 h46)] [0,1,0,0,0,16,0,64,0,256,960,0,4032,8176,16376,32764,65535,131071,262143] 10 [24,25] [] [6,8,9] [(6,bx 50 [ci o29.Log,ci (w64 (x32+v37)),ci o29.Chips,ci (w64 ((w64 (x33+v41))+v45)),ci (w64 (x34+(w64 (1000000*((v10.1.getD x31.toNat du).Worth)))))])] (q_vv [] 10 [87] [(87,vi (w64 (x31+1)))] ?_)
   exact q_hl (AG a1 a5 a6 v10 v16 o29 (w64 (x31+1)) (w64 (x32+v37)) (w64 ((w64 (x33+v41))+v45)) (w64 (x34+(w64 (1000000*((v10.1.getD x31.toNat du).Worth)))))) (ih (w64 (x31+1)) (w64 (x32+v37)) (w64 ((w64 (x33+v41))+v45)) (w64 (x34+(w64 (1000000*((v10.1.getD x31.toNat du).Worth))))) _ hm)
  ·refine q_ex 2 ?_;obtain rfl:=oi hm;exact q_l0
theorem qEL (a1:List qG) (a2:List qJ) (a3:List Product) (a4:Pattern) (a5:Saw) (a6:Rates) (r:zM×Int) (hm:BN a1 a2 a3 a4 a5 a6=some r):CtX Try.prog globs 16 0 0 [.one (tl qF du a1),.one (tl qE du a2),.one (tl qC du a3),.agg (qN a4),.agg (ZG a5),.agg (JO a6)] [] (qMs r) (qMA r):=by
 unfold BN at hm;refine q_E f16 177 λE=>?_;refine s_vn [] 0 ⟨[(0,vc (tl qF du a1)),(1,vc (tl qE du a2)),(2,vc (tl qC du a3)),(9,vp 0 0),(10,vp 1 0),(11,vp 2 0),(12,vp 3 0)],[(0,bx 31 (qN a4)),(1,bx 33 (ZG a5)),(2,bx 35 (JO a6)),(3,bx 50 [ci 0,ci 0,ci 0,ci 0,ci 0])]⟩ (q_sq ?_);obtain⟨v7,h8,hm⟩:=qH hm;refine s_vv [qc 6 [26,27,28,29,30,31] 4 (qBm a1 a2 a3 a4 a5 a6 v7 h8)] 4 [] [(14,vi v7)] (s_va 4 [(34,vb (v7 !=0))] ?_);refine q_cq hm (λhm=>?_) (λhm=>?_)
 ·refine s_vu [] 4 [0,1,2,9,10,11,14,34] [(13,vi v7)] [0,1,2] [] ?_;obtain rfl:=oi hm;exact q_rt q_rm
 ·refine q_sk ?_;obtain⟨v10,h11,hm⟩:=qH hm;refine s_vu [qc 7 [38,39,40,41,42,44] 4 (qAM a1 a2 a3 a4 a5 a6.Fine v10 h11)] 4 [1,2,14,34] [(15,vo 4 0 9 v10.1.length),(16,vi v10.2)] [] [(4,ro 0 60 9 v10.1.length (rf qP v10.1))] (q_sq ?_);refine s_va 5 [(49,vb (v10.2 !=0))] (q_cq hm (λhm=>?_) (λhm=>?_))
  ·refine s_vu [] 5 [0,9,10,11,15,16,49] [(13,vi v10.2)] [0,1,2,4] [] ?_;obtain rfl:=oi hm;exact q_rt q_rm
  ·refine q_sk ?_;obtain⟨v13,h14,hm⟩:=qH hm;refine s_vu [qc 3 [53,55] 5 (qF9 a4 a5.Kerf v13 h14)] 5 [9,16,49] [(16,vi v13.2),(17,vo 5 0 4 v13.1.length)] [0] [(5,ro 0 28 4 v13.1.length (rf qK v13.1))] (q_sq ?_);refine s_va 6 [(60,vb (v13.2 !=0))] (q_cq hm (λhm=>?_) (λhm=>?_))
   ·refine s_vu [] 6 [0,10,11,15,16,17,60] [(13,vi v13.2)] [1,2,4,5] [] ?_;obtain rfl:=oi hm;exact q_rt q_rm
   ·refine q_sk ?_;obtain⟨v16,h17,hm⟩:=qH hm;refine s_vv [qc 1 [63] 6 (HE a1 v16 h17)] 6 [16,60] [(18,vi v16)] ?_;obtain⟨v18,h19,hm⟩:=qH hm;refine s_vu [qc 1 [65] 6 (qAg a1 v18 h19)] 6 [] [(19,vp 6 0)] [] [(6,bx 50 [ci v18,ci 0,ci 0,ci 0,ci 0])] (q_sq ?_);refine s_vv [] 7 [17] [(68,vo 5 0 4 v13.1.length),(69,vi (v13.1.length:Int)),(70,vi 0)] ?_;obtain⟨o29,h30,hm⟩:=qH hm;refine jC (nd f16 8180) 0 (by kernel_rfl) FUEL (λo=>qCG a1 a5 a6 v10 v16 o) o29 (q_hl (AM a1 a5 a6 v10 v13 v16 v18 0 0) (qH6 E a1 a5 a6 v10 v13 v16 v18 FUEL 0 0 o29 h30)) (q_sq ?_)
    refine s_vv [] 7 [15] [(85,vo 4 0 9 v10.1.length),(86,vi (v10.1.length:Int)),(87,vi 0)] ?_;obtain⟨o48,h49,hm⟩:=qH hm;refine jC (nd f16 16372) 2 (by kernel_rfl) FUEL (λo=>qCD a6 o) o48 (q_hl (AG a1 a5 a6 v10 v16 o29 0 o29.Boards o29.Dust o29.Value) (qH0 E a1 a5 a6 v10 v16 o29 FUEL 0 o29.Boards o29.Dust o29.Value o48 h49)) (s_vu [] 7 [] [] [6] [(6,bx 50 [ci o48.Log,ci o48.Boards,ci (w64 ((w64 (o48.Log-o48.Boards))-o48.Dust)),ci o48.Dust,ci o48.Value])] ?_)
    refine s_vu [] 7 [11] [] [2,6] [(6,bx 50 [ci o48.Log,ci o48.Boards,ci (w64 ((w64 (o48.Log-o48.Boards))-o48.Dust)),ci o48.Dust,ci (w64 (o48.Value+(w64 ((w64 (a6.Chip*(w64 ((w64 (o48.Log-o48.Boards))-o48.Dust))))+(w64 (a6.Dust*o48.Dust))))))])] (s_vu [] 7 [19] [(13,vi 0)] [3,6] [(3,bx 50 [ci o48.Log,ci o48.Boards,ci (w64 ((w64 (o48.Log-o48.Boards))-o48.Dust)),ci o48.Dust,ci (w64 (o48.Value+(w64 ((w64 (a6.Chip*(w64 ((w64 (o48.Log-o48.Boards))-o48.Dust))))+(w64 (a6.Dust*o48.Dust))))))])] ?_);obtain rfl:=oi hm;exact q_rt q_rm
open Go.Proofs Go.Proofs.Try
def ZZ (r:Bool):V:=vb r
def QH (r:Bool):List (Nat×(Nat×O)):=[]
theorem UH (r:Bool):US (QH r):=by
 intro i k o h;unfold QH at h;cases h
def MW (a1:List zH) (a2:List zH) (x4:Int):St:=
 ⟨[(0,vc (tl zK du a1)),(1,vc (tl zK du a2)),(5,vi x4)],[]⟩
def qAF :St:=
 ⟨[],[]⟩
theorem qFI (E:Env 0) (a1:List zH) (a2:List zH):∀(n:Nat) (x4:Int) (res:Bool⊕Unit),QL a1 a2 n x4=some res->HL (kx E 26 0) (nd f18 116) (WB 0 (λo=>qAF) (λv st=>RetQ Try.prog f18 (ZZ v) (QH v) .ret st) res) n (MW a1 a2 x4):=by
 intro n
 induction n with
 |zero=>
  intro x4 res hm;cases hm
 |succ n ih=>
  intro x4 res hm;refine zF (q_sq ?_);refine s_va 0 [(14,vb (decide (x4<(a1.length:Int))))] (q_cq hm (λhm=>?_) (λhm=>?_))
  ·refine q_sk (q_sq ?_);refine q_bk 1 ?_;obtain⟨g6,hm⟩:=qT hm;obtain⟨g7,hm⟩:=qT hm
   refine s_du [qi 2 g6,qi 6 g7] [0,0,3,7,0,0,48,112,255] 0 [14] [(25,vb (!((((a1.getD x4.toNat du).Leaf)==((a2.getD x4.toNat du).Leaf))&&((((a1.getD x4.toNat du).Product)==((a2.getD x4.toNat du).Product))&&((((((((a1.getD x4.toNat du).Box).X).A)==((((a2.getD x4.toNat du).Box).X).A))&&((((((a1.getD x4.toNat du).Box).X).B)==((((a2.getD x4.toNat du).Box).X).B))&&true))&&(((((((a1.getD x4.toNat du).Box).Y).A)==((((a2.getD x4.toNat du).Box).Y).A))&&((((((a1.getD x4.toNat du).Box).Y).B)==((((a2.getD x4.toNat du).Box).Y).B))&&true))&&(((((((a1.getD x4.toNat du).Box).Z).A)==((((a2.getD x4.toNat du).Box).Z).A))&&((((((a1.getD x4.toNat du).Box).Z).B)==((((a2.getD x4.toNat du).Box).Z).B))&&true))&&true)))&&((((a1.getD x4.toNat du).Worth)==((a2.getD x4.toNat du).Worth))&&true))))))] [] [] ?_
   refine q_cq hm (λhm=>?_) (λhm=>?_)
   ·refine s_vn [] 0 ⟨[(4,vb false)],[]⟩ ?_;obtain rfl:=oi hm;refine q_rt (wS false ?_);exact q_rm
   ·refine q_sk (q_vv [] 0 [5,25] [(5,vi (w64 (x4+1)))] ?_);exact q_hl (MW a1 a2 (w64 (x4+1))) (ih (w64 (x4+1)) _ hm)
  ·refine q_ex 0 ?_;obtain rfl:=oi hm;exact q_l1 ()
theorem RD (a1:List zH) (a2:List zH) (r:Bool) (hm:HI a1 a2=some r):CtX Try.prog globs 18 0 0 [.one (tl zK du a1),.one (tl zK du a2)] [] (ZZ r) (QH r):=by
 unfold HI at hm;refine q_E f18 26 λE=>?_;refine s_vn [] 0 ⟨[(0,vc (tl zK du a1)),(1,vc (tl zK du a2))],[]⟩ (q_sq ?_);refine s_va 0 [(10,vb ((a1.length:Int) !=(a2.length:Int)))] (q_cq hm (λhm=>?_) (λhm=>?_))
 ·refine s_vn [] 0 ⟨[(4,vb false)],[]⟩ ?_;obtain rfl:=oi hm;exact q_rt q_rm
 ·refine q_sk (q_sq ?_);refine s_vv [] 0 [10] [(5,vi 0)] ?_;obtain⟨u11,h10,hm⟩:=qH hm;refine yA (nd f18 116) 0 (by kernel_rfl) FUEL (λo=>qAF) (λv st=>RetQ Try.prog f18 (ZZ v) (QH v) .ret st) u11 (q_hl (MW a1 a2 0) (qFI E a1 a2 FUEL 0 u11 h10)) ?_ ?_
  ·rintro v12 rfl st hr;obtain rfl:=oi hm;exact hr
  ·rintro o9 rfl;replace hm:_=some r:=hm;refine s_vn [] 0 ⟨[(4,vb true)],[]⟩ ?_;obtain rfl:=oi hm;exact q_rt q_rm
end Saw
end Go.SL

import Derived.Test.YtidlfgiogdjkaaaGreatDoorEBase
import Derived.Test.YtidlfgiogdjkaaaGreatDoorEFa12
import Derived.Test.YtidlfgiogdjkaaaGreatDoorEFa9
import Derived.Test.YtidlfgiogdjkaaaGreatDoorEFa11
import Derived.Test.YtidlfgiogdjkaaaGreatDoorEFa10
set_option linter.unusedVariables false
set_option linter.unusedSimpArgs false
namespace Go.SL
namespace Saw
open Go.Proofs Go.Proofs.Tryz
set_option maxHeartbeats 4000000
set_option maxRecDepth 100000
def qE0 (r:(List qX)×Int×Int):V:= .tup [.one (.own 0 0 2 r.1.length),.one (ci r.2.1),.one (ci r.2.2)]
def MV (r:(List qX)×Int×Int):List (Nat×(Nat×O)):=[(0,ro 0 92 2 r.1.length (rf zY r.1))]
theorem qJN (r:(List qX)×Int×Int):jS (MV r):=by
 intro i k o h;unfold MV at h;rw[look_cons] at h;split at h
 ·cases h;exact λ_ _=>rfl
 ·cases h
def qBj (a1:Line) (v5:(List Int)) (v7:(List Int)) (l10:List qS) (l10n:Nat) (x11:Int):St:=
 ⟨[(1,vp 0 0),(6,vo 1 0 1 v5.length),(7,vo 2 0 1 v7.length),(8,vo 3 0 3 l10n),(9,vi x11)],[(0,bx 84 (wB a1)),(1,ro 0 3 1 v5.length (rf qA v5)),(2,ro 0 3 1 v7.length (rf qA v7)),(3,ro 0 156 3 l10n (rf zU l10))]⟩
def qGN (a1:Line) (l16:List qS):St:=
 ⟨[(1,vp 0 0),(8,vo 3 0 3 l16.length)],[(0,bx 84 (wB a1)),(3,ro 0 156 3 l16.length (rf zU l16))]⟩
def qBo (a1:Line) (o17:(List qS)) (l19:List qX) (l19n:Nat) (x20:Int):St:=
 ⟨[(1,vp 0 0),(8,vo 3 0 3 o17.length),(10,vo 4 0 2 l19n),(11,vi x20)],[(0,bx 84 (wB a1)),(3,ro 0 156 3 o17.length (rf zU o17)),(4,ro 0 92 2 l19n (rf zY l19))]⟩
def qGw (o17:(List qS)) (l26:List qX):St:=
 ⟨[(8,vo 3 0 3 o17.length),(10,vo 4 0 2 l26.length)],[(3,ro 0 156 3 o17.length (rf zU o17)),(4,ro 0 92 2 l26.length (rf zY l26))]⟩
theorem qN9 (E:Env 0) (a1:Line) (v5:(List Int)) (v7:(List Int)):∀(n:Nat) (l10:List qS) (l10n:Nat) (x11:Int) (res:(List qS)),l10.length=l10n->UC a1 v5 v7 n l10 x11=some res->HL (kx E 85 0) (nd f44 500) (zL 0 (λo=>qGN a1 o) res) n (qBj a1 v5 v7 l10 l10n x11):=by
 intro n
 induction n with
 |zero=>
  intro l10 l10n x11 res hl0 hm;cases hm
 |succ n ih=>
  intro l10 l10n x11 res hl0 hm;subst hl0;refine qT (q_sq ?_);refine s_va 4 [(32,vb (decide (x11≥0)))] (q_cq hm (λhm=>?_) (λhm=>?_))
  ·refine q_sk (q_sq ?_);refine q_bk 1 ?_;obtain⟨v13,h14,hm⟩:=qB hm;obtain⟨g15,hm⟩:=qI hm
   refine q_vu [qd 7 (dex (cen [] [] 4 0 (qK1 v13) (qBW v13) [37,38,39,40,41] [1,2,3])) (wU (K:=(kx E 85 0)) (b:=false) ⟨[(37,va (wB a1)),(38,vi x11),(39,vo 1 0 1 v5.length),(40,vo 2 0 1 v7.length),(41,vo 3 0 3 l10.length)],[(1,ro 0 3 1 v5.length (rf qA v5)),(2,ro 0 3 1 v7.length (rf qA v7)),(3,ro 0 156 3 l10.length (rf zU l10))]⟩ (opAt (rg f44 4004) 7) [] [] 4 (o1 (And.intro (ki v5.length) (And.intro (ki v7.length) (ki l10.length)))) rfl (qTB a1 x11 v5 v7 l10 v13 h14) (.inr ⟨(by kernel_rfl),qWy v13⟩) (by kernel_rfl)),qi 8 g15,qd 9 (drw 0 0 (rf zU (l10.set x11.toNat v13))) (stP zU du v13 l10 l10.length x11.toNat 0 (zU v13) rfl (qV (zC g15)) rfl)] 4 [32] [] [3] [(3,ro 0 156 3 l10.length (rf zU (l10.set x11.toNat v13)))] ?_
   exact q_vv [] 4 [9] [(9,vi (w64 (x11-1)))] (q_hl (qBj a1 v5 v7 (l10.set x11.toNat v13) l10.length (w64 (x11-1))) (ih (l10.set x11.toNat v13) l10.length (w64 (x11-1)) _ (qEI rfl) hm))
  ·refine q_ex 0 ?_;obtain rfl:=oi hm;exact q_l0
theorem qN8 (E:Env 0) (a1:Line) (o17:(List qS)):∀(n:Nat) (l19:List qX) (l19n:Nat) (x20:Int) (res:(List qX)),l19.length=l19n->FD a1 o17 n l19 x20=some res->HL (kx E 85 0) (nd f44 2040) (zL 2 (λo=>qGw o17 o) res) n (qBo a1 o17 l19 l19n x20):=by
 intro n
 induction n with
 |zero=>
  intro l19 l19n x20 res hl0 hm;cases hm
 |succ n ih=>
  intro l19 l19n x20 res hl0 hm;subst hl0;refine qT (q_sq ?_);obtain⟨g21,hm⟩:=qI hm;refine s_vv [qi 2 g21,qd 5 dN (qV (zC g21))] 5 [] [(50,vb (decide ((((o17.getD x20.toNat du).piece).Size)≥0)))] (q_cq hm (λhm=>?_) (λhm=>?_))
  ·refine q_sk (q_bk 3 ?_);refine s_vu [qi 2 g21,qd 4 dN (qV (zC g21))] 5 [11,50] [(12,vp 5 0)] [] [(5,bx 92 (zY ((o17.getD x20.toNat du).piece)))] ?_;obtain⟨g23,hm⟩:=qI hm
   refine s_vu [qd 2 (drw 6 0 (rf zY [(o17.getD x20.toNat du).piece])) (litP zY du 2 (λ_=>rfl) ([(o17.getD x20.toNat du).piece]:List qX) 1 rfl),qd 3 (drw 4 1 (rf zY (l19++[(o17.getD x20.toNat du).piece]))) (apP zY du l19 ([(o17.getD x20.toNat du).piece]:List qX) l19.length 1 2 16 (1<=1) (ki _) rfl rfl (λ_=>rfl) (zI g23))] 6 [10] [(10,vo 4 1 2 (l19.length+1))] [4] [(4,ro 1 92 2 (l19.length+1) (rf zY (l19++[(o17.getD x20.toNat du).piece])))] ?_;obtain⟨g24,hm⟩:=qI hm
   refine s_du [qi 6 g24] [0,1,0,4,0,16,60,124,255,511] 7 [12] [(13,vi (w64 ((((o17.getD x20.toNat du).piece).At)+(a1.Sizes.getD (((o17.getD x20.toNat du).piece).Size).toNat du))))] [5] [] (q_sq ?_);refine s_va 7 [(72,vb ((w64 ((((o17.getD x20.toNat du).piece).At)+(a1.Sizes.getD (((o17.getD x20.toNat du).piece).Size).toNat du)))==a1.Len))] (q_cq hm (λhm=>?_) (λhm=>?_))
   ·refine q_fu [.len 4 ((l19++[(o17.getD x20.toNat du).piece]).length)] [10] [(10,vo 4 1 2 ((l19++[(o17.getD x20.toNat du).piece]).length))] [4] [(4,ro 1 92 2 ((l19++[(o17.getD x20.toNat du).piece]).length) (rf zY (l19++[(o17.getD x20.toNat du).piece])))] (o1 (And.intro (Eq.symm (show(l19++[(o17.getD x20.toNat du).piece]).length=(l19.length+1) from(zE rfl rfl))) (Eq.symm (show(l19++[(o17.getD x20.toNat du).piece]).length=(l19.length+1) from(zE rfl rfl))))) (q_ex 2 ?_);obtain rfl:=oi hm;exact q_l0
   ·refine q_sk (q_vv [] 7 [13,72] [(11,vi (imin (w64 ((w64 ((((o17.getD x20.toNat du).piece).At)+(a1.Sizes.getD (((o17.getD x20.toNat du).piece).Size).toNat du)))+a1.Kerf)) a1.Len))] ?_)
    exact q_hl (qBo a1 o17 (l19++[(o17.getD x20.toNat du).piece]) (l19.length+1) (imin (w64 ((w64 ((((o17.getD x20.toNat du).piece).At)+(a1.Sizes.getD (((o17.getD x20.toNat du).piece).Size).toNat du)))+a1.Kerf)) a1.Len)) (ih (l19++[(o17.getD x20.toNat du).piece]) (l19.length+1) (imin (w64 ((w64 ((((o17.getD x20.toNat du).piece).At)+(a1.Sizes.getD (((o17.getD x20.toNat du).piece).Size).toNat du)))+a1.Kerf)) a1.Len) _ (zE rfl rfl) hm)
  ·refine q_ex 2 ?_;obtain rfl:=oi hm;exact q_l0
theorem qJf (a1:Line) (r:(List qX)×Int×Int) (hm:EB a1=some r):CtX Tryz.prog globs 44 0 0 [.agg (wB a1)] [] (qE0 r) (MV r):=by
 unfold EB at hm;refine q_E f44 85 λE=>?_;refine s_vn [] 0 ⟨[(1,vp 0 0)],[(0,bx 84 (wB a1))]⟩ (q_sq ?_);obtain⟨v2,h3,hm⟩:=qB hm;refine s_vv [qc 1 [14] 1 (qSg a1 v2 h3)] 1 [] [(5,vi v2)] (s_va 1 [(17,vb (v2 !=0))] ?_);refine q_cq hm (λhm=>?_) (λhm=>?_)
 ·refine s_vn [] 1 ⟨[(2,vc (.emp)),(3,vi 0),(4,vi v2)],[]⟩ (q_fo 2 1 92 2 zY ?_);refine q_fl 2 1 92 2 zY ?_;obtain rfl:=oi hm;exact q_sw 1 0 (q_rt q_rm)
 ·refine q_sk ?_;obtain⟨v5,h6,hm⟩:=qB hm;obtain⟨v7,h8,hm⟩:=qB hm;refine s_du [qc 2 [20] 1 (qGy a1.Chip v5 h6),qc 5 [23] 2 (qGy a1.Dust v7 h8)] [0,1,3,0,8,31,63,127] 1 [5,17] [(6,vo 1 0 1 v5.length),(7,vo 2 0 1 v7.length)] [] [(1,ro 0 3 1 v5.length (rf qA v5)),(2,ro 0 3 1 v7.length (rf qA v7))] ?_;obtain⟨g9,hm⟩:=qI hm
  refine s_vu [qd 3 (drw 3 0 (rf zU (List.replicate ((w64 (a1.Len+1)).toNat) (qS.mk 0 (qX.mk 0 0))))) (mkP zU du (qS.mk 0 (qX.mk 0 0)) (w64 (a1.Len+1)) 24 [ci 0,ci 0,ci 0] (qHK g9) rfl)] 3 [] [(8,vo 3 0 3 ((w64 (a1.Len+1)).toNat))] [] [(3,ro 0 156 3 ((w64 (a1.Len+1)).toNat) (rf zU (List.replicate ((w64 (a1.Len+1)).toNat) (qS.mk 0 (qX.mk 0 0)))))] (q_sq ?_);refine s_va 4 [(9,vi a1.Len)] ?_;obtain⟨o17,h18,hm⟩:=qB hm
  refine zF (nd f44 500) 0 (by kernel_rfl) FUEL (λo=>qGN a1 o) o17 (q_hl (qBj a1 v5 v7 (List.replicate ((w64 (a1.Len+1)).toNat) (qS.mk 0 (qX.mk 0 0))) ((w64 (a1.Len+1)).toNat) a1.Len) (qN9 E a1 v5 v7 FUEL (List.replicate ((w64 (a1.Len+1)).toNat) (qS.mk 0 (qX.mk 0 0))) ((w64 (a1.Len+1)).toNat) a1.Len o17 qHq h18)) (s_va 4 [(10,vc (.emp))] ?_);refine s_va 4 [(11,vi 0)] (q_sq ?_);refine q_fo 10 4 92 2 zY ?_;obtain⟨o27,h28,hm⟩:=qB hm;refine zF (nd f44 2040) 2 (by kernel_rfl) FUEL (λo=>qGw o17 o) o27 (q_hl (qBo a1 o17 ([]:List qX) 0 0) (qN8 E a1 o17 FUEL ([]:List qX) 0 0 o27 rfl h28)) ?_
  obtain⟨g29,hm⟩:=qI hm;refine s_du [qi 2 g29,qd 4 dN (qV (zC g29))] [0,0,2,6,14,1,63,127] 5 [8,10] [(2,vo 4 0 2 o27.length),(3,vi ((o17.getD ((0:Int).toNat) du).value)),(4,vi 0)] [3] [] ?_;obtain rfl:=oi hm;exact q_sw 4 0 (q_rt q_rm)
def qSn (r:Bool):V:=vb r
def qRa (r:Bool):List (Nat×(Nat×O)):=[]
def qLY (x7:Bool):St:=
 ⟨[(2,vb x7)],[]⟩
theorem qF1 (a1:Rect) (r:Bool) (hm:HK a1=some r):CtX Tryz.prog globs 56 0 0 [.agg (qO a1)] [] (qSn r) (qRa r):=by
 unfold HK at hm;refine q_E f56 43 λE=>?_;refine s_vn [] 0 ⟨[(1,vp 0 0)],[(0,bx 33 (qO a1))]⟩ (q_jn (qLY) (λp=>WW p=some r) ?_ ?_)
 ·rintro x7 hm;obtain rfl:=oi hm;exact q_rt q_rm
 ·rcases bif_c hm with⟨b2,hm⟩|⟨b2,hm⟩
  ·rcases bif_c hm with⟨b3,hm⟩|⟨b3,hm⟩
   ·rcases bif_c hm with⟨b4,hm⟩|⟨b4,hm⟩
    ·rcases bif_c hm with⟨b5,hm⟩|⟨b5,hm⟩
     ·rcases bif_c hm with⟨b6,hm⟩|⟨b6,hm⟩
      ·exact q_vn [qf 7 b2,qf 16 b3,qf 22 b4,qf 28 b5,qf 34 b6] 1 ⟨[(2,vb (decide (a1.Y.B<=600)))],[]⟩ (q_J (decide (a1.Y.B<=600)) hm)
      ·exact q_vn [qf 7 b2,qf 16 b3,qf 22 b4,qf 28 b5,qf 34 b6] 1 ⟨[(2,vb false)],[]⟩ (q_J (false) hm)
     ·exact q_vn [qf 7 b2,qf 16 b3,qf 22 b4,qf 28 b5] 1 ⟨[(2,vb false)],[]⟩ (q_J (false) hm)
    ·exact q_vn [qf 7 b2,qf 16 b3,qf 22 b4] 1 ⟨[(2,vb false)],[]⟩ (q_J (false) hm)
   ·exact q_vn [qf 7 b2,qf 16 b3] 1 ⟨[(2,vb false)],[]⟩ (q_J (false) hm)
  ·exact q_vn [qf 7 b2] 1 ⟨[(2,vb false)],[]⟩ (q_J (false) hm)
def OI (r:(List Node)×Int):V:= .tup [.one (.own 0 0 2 r.1.length),.one (ci r.2)]
def VT (r:(List Node)×Int):List (Nat×(Nat×O)):=[(0,ro 0 65 2 r.1.length (rf qE r.1))]
theorem qMD (r:(List Node)×Int):jS (VT r):=by
 intro i k o h;unfold VT at h;rw[look_cons] at h;split at h
 ·cases h;exact λ_ _=>rfl
 ·cases h
def yV (a2:Int) (a3:Int) (a4:List Span) (a5:List (List Node)):St:=
 ⟨[(1,vi a2),(2,vi a3),(3,vc (tl qG du a4)),(4,vc (tl (qM qE) du a5))],[]⟩
def qHM (a2:Int) (a3:Int) (a4:List Span) (a5:List (List Node)) (x18:Span) (x22:Int) (l36:List Node) (l36n:Nat):St:=
 (yV a2 a3 a4 a5).up [] [(12,vp 1 0),(13,vo 2 0 2 l36n),(15,vb (((a4.getD x22.toNat du).B)==x18.B)),(16,vi x22)] [] [(1,bx 31 (qG x18)),(2,ro 0 65 2 l36n (rf qE l36))]
def qH1 (a2:Int) (a3:Int) (a4:List Span) (a5:List (List Node)) (x18:Span) (x22:Int) (l33:List Node) (l33n:Nat):St:=
 (yV a2 a3 a4 a5).up [] [(12,vp 1 0),(13,vo 2 0 2 l33n),(16,vi x22)] [] [(1,bx 31 (qG x18)),(2,ro 0 65 2 l33n (rf qE l33))]
def qRW (a2:Int) (a3:Int) (a4:List Span) (a5:List (List Node)) (x18:Span) (l19:List Node) (x20:Int) (x22:Int) (x28:Bool):St:=
 (yV a2 a3 a4 a5).up [] [(12,vp 1 0),(13,vo 2 0 2 l19.length),(14,vi x20),(16,vi x22),(65,vb x28)] [] [(1,bx 31 (qG x18)),(2,ro 0 65 2 l19.length (rf qE l19))]
def qCB (a2:Int) (a3:Int) (a4:List Span) (a5:List (List Node)) (x18:Span) (l19:List Node) (l19n:Nat) (x20:Int) (x21:Bool) (x22:Int):St:=
 (yV a2 a3 a4 a5).up [] [(12,vp 1 0),(13,vo 2 0 2 l19n),(14,vi x20),(15,vb x21),(16,vi x22)] [] [(1,bx 31 (qG x18)),(2,ro 0 65 2 l19n (rf qE l19))]
def qHt (l39:List Node) (x40:Bool):St:=
 ⟨[(13,vo 2 0 2 l39.length),(15,vb x40)],[(2,ro 0 65 2 l39.length (rf qE l39))]⟩
def qHw (l47:List Node) (l47n:Nat):St:=
 ⟨[(13,vo 2 0 2 l47n)],[(2,ro 0 65 2 l47n (rf qE l47))]⟩
def qRE (a2:Int) (a3:Int) (a4:List Span) (a5:List (List Node)) (x18:Span):St:=
 (yV a2 a3 a4 a5).up [] [(12,vp 1 0)] [] [(1,bx 31 (qG x18))]
def qSb (a1:Rect) (a2:Int) (a3:Int) (a4:List Span) (a5:List (List Node)) (x15:Bool):St:=
 (yV a2 a3 a4 a5).up [] [(5,vp 0 0),(38,vb x15)] [] [(0,bx 33 (qO a1))]
def qRk (a1:Rect) (a2:Int) (a3:Int) (a4:List Span) (a5:List (List Node)) (x12:Bool):St:=
 (yV a2 a3 a4 a5).up [] [(5,vp 0 0),(32,vb x12)] [] [(0,bx 33 (qO a1))]
def qQW (a1:Rect) (a2:Int) (a3:Int) (a4:List Span) (a5:List (List Node)) (x7:Bool):St:=
 (yV a2 a3 a4 a5).up [] [(5,vp 0 0),(22,vb x7)] [] [(0,bx 33 (qO a1))]
theorem qOJ (E:Env 0) (a2:Int) (a3:Int) (a4:List Span) (a5:List (List Node)) (x18:Span):∀(n:Nat) (l19:List Node) (l19n:Nat) (x20:Int) (x21:Bool) (x22:Int) (res:((List Node)×Int)⊕((List Node)×Bool)),l19.length=l19n->jT a2 a3 a4 a5 x18 n l19 x20 x21 x22=some res->HL (kx E 163 0) (nd f47 8180) (wN 0 (λo=>qHt o.1 o.2) (λv st=>RetQ Tryz.prog f47 (OI v) (VT v) .ret st) res) n (qCB a2 a3 a4 a5 x18 l19 l19n x20 x21 x22):=by
 intro n
 induction n with
 |zero=>
  intro l19 l19n x20 x21 x22 res hl0 hm;cases hm
 |succ n ih=>
  intro l19 l19n x20 x21 x22 res hl0 hm;subst hl0;refine qT (q_sq ?_);refine s_va 3 [(50,vb (decide (x22<(a4.length:Int))))] (q_cq hm (λhm=>?_) (λhm=>?_))
  ·refine q_sk (q_sq ?_);refine q_bk 1 (q_sq ?_);refine q_bk 2 ?_;obtain⟨g24,hm⟩:=qI hm;refine s_du [qi 2 g24,qi 7 g24] [0,0,3,7,15,0,0,96,224,480,1023,2047] 3 [50] [(53,vb (decide (((a4.getD x22.toNat du).A)≥((a4.getD x22.toNat du).B))))] [] [] (q_cq hm (λhm=>?_) (λhm=>?_))
   ·refine s_vn [] 3 ⟨[(10,vc (.emp)),(11,vi 19)],[]⟩ (q_fo 10 3 65 2 qE ?_);refine q_fl 10 3 65 2 qE ?_;obtain rfl:=oi hm;refine q_sw 3 0 (q_rt ?_);exact zG (([]:List Node),19) q_rm
   ·refine q_jn (qRW a2 a3 a4 a5 x18 l19 x20 x22) (λp=>HI a2 a3 a4 a5 x18 l19 x20 x22 (jT a2 a3 a4 a5 x18 n) p=some res) ?_ ?_
    ·rintro x28 hm;refine q_cq hm (λhm=>?_) (λhm=>?_)
     ·refine s_vn [] 3 ⟨[(10,vc (.emp)),(11,vi 11)],[]⟩ (q_fo 10 3 65 2 qE ?_);refine q_fl 10 3 65 2 qE ?_;obtain rfl:=oi hm;refine q_sw 3 0 (q_rt ?_);exact zG (([]:List Node),11) q_rm
     ·refine s_du [qi 2 g24] [0,0,3,7,15,0,32,127,255] 3 [65] [(88,vb (decide (((a4.getD x22.toNat du).B)>x18.B)))] [] [] (q_cq hm (λhm=>?_) (λhm=>?_))
      ·refine s_vn [] 3 ⟨[(10,vc (.emp)),(11,vi 20)],[]⟩ (q_fo 10 3 65 2 qE ?_);refine q_fl 10 3 65 2 qE ?_;obtain rfl:=oi hm;refine q_sw 3 0 (q_rt ?_);exact zG (([]:List Node),20) q_rm
      ·refine q_sk (q_jn (ι:=(List Node)×Nat) (λp=>qH1 a2 a3 a4 a5 x18 x22 p.1 p.2) (λp=>p.1.length=p.2/\MW a2 a3 a4 a5 x18 x22 (jT a2 a3 a4 a5 x18 n) p.1=some res) ?_ ?_)
       ·rintro⟨l33,l33n⟩ ⟨el33,hm⟩;replace el33:l33.length=l33n:=el33;subst el33;show H _ (qH1 a2 a3 a4 a5 x18 x22 l33 l33.length) _ _;refine s_du [qi 2 g24] [0,0,3,7,15,0,32,127,255] 4 [] [(15,vb (((a4.getD x22.toNat du).B)==x18.B))] [] [] (q_jn (ι:=(List Node)×Nat) (λp=>qHM a2 a3 a4 a5 x18 x22 p.1 p.2) (λp=>p.1.length=p.2/\qBV a3 a4 a5 x18 x22 (jT a2 a3 a4 a5 x18 n) p.1=some res) ?_ ?_)
        ·rintro⟨l36,l36n⟩ ⟨el36,hm⟩;replace el36:l36.length=l36n:=el36;subst el36;show H _ (qHM a2 a3 a4 a5 x18 x22 l36 l36.length) _ _;obtain⟨g37,hm⟩:=qI hm;obtain⟨g38,hm⟩:=qI hm
         refine s_vu [qi 3 g37,qd 5 (drw 2 1 (rf qE (l36++(a5.getD x22.toNat du)))) (apP qE du l36 (a5.getD x22.toNat du) l36.length ((a5.getD x22.toNat du).length) 2 16 (True) trivial rfl rfl (λ_=>rfl) (zI g38))] 5 [13] [(13,vo 2 1 2 (l36.length+(a5.getD x22.toNat du).length))] [2] [(2,ro 1 65 2 (l36.length+(a5.getD x22.toNat du).length) (rf qE (l36++(a5.getD x22.toNat du))))] (q_du [qi 2 g24] [0,0,3,7,15,0,63,0,128,511,1023] 5 [] [(14,vi (imin (w64 (((a4.getD x22.toNat du).B)+a3)) x18.B))] [] [] ?_)
         exact q_vv [] 5 [16] [(16,vi (w64 (x22+1)))] (q_hl (qCB a2 a3 a4 a5 x18 (l36++(a5.getD x22.toNat du)) (l36.length+(a5.getD x22.toNat du).length) (imin (w64 (((a4.getD x22.toNat du).B)+a3)) x18.B) (((a4.getD x22.toNat du).B)==x18.B) (w64 (x22+1))) (ih (l36++(a5.getD x22.toNat du)) (l36.length+(a5.getD x22.toNat du).length) (imin (w64 (((a4.getD x22.toNat du).B)+a3)) x18.B) (((a4.getD x22.toNat du).B)==x18.B) (w64 (x22+1)) _ (zE rfl rfl) hm))
        ·refine s_va 4 [(126,vb (!(((a4.getD x22.toNat du).B)==x18.B)))] (q_cq hm (λhm=>?_) (λhm=>?_))
         ·obtain⟨g35,hm⟩:=qI hm
          exact q_vu [qi 4 g24,qd 8 (drw 4 0 (rf qE [(Node.mk a2 ((a4.getD x22.toNat du).B))])) (litP qE du 2 (λ_=>rfl) ([(Node.mk a2 ((a4.getD x22.toNat du).B))]:List Node) 1 rfl),qd 9 (drw 2 1 (rf qE (l33++[(Node.mk a2 ((a4.getD x22.toNat du).B))]))) (apP qE du l33 ([(Node.mk a2 ((a4.getD x22.toNat du).B))]:List Node) l33.length 1 2 16 (1<=1) (ki _) rfl rfl (λ_=>rfl) (zI g35))] 4 [13,126] [(13,vo 2 1 2 (l33.length+1))] [2] [(2,ro 1 65 2 (l33.length+1) (rf qE (l33++[(Node.mk a2 ((a4.getD x22.toNat du).B))])))] (q_J ((l33++[(Node.mk a2 ((a4.getD x22.toNat du).B))]),(l33.length+1)) ⟨(zE rfl rfl),hm⟩)
         ·exact q_sk (q_J (l33,l33.length) ⟨rfl,hm⟩)
       ·refine s_vv [qi 2 g24] 3 [14,88] [(103,vb (((a4.getD x22.toNat du).A) !=x20))] (q_cq hm (λhm=>?_) (λhm=>?_))
        ·obtain⟨g32,hm⟩:=qI hm
         refine q_vu [qi 4 g24,qd 11 (drw 3 0 (rf qE [(Node.mk a2 (w64 (((a4.getD x22.toNat du).A)-a3))),(Node.mk 0 0)])) (litP qE du 2 (λ_=>rfl) ([(Node.mk a2 (w64 (((a4.getD x22.toNat du).A)-a3))),(Node.mk 0 0)]:List Node) 2 rfl),qd 12 (drw 2 1 (rf qE (l19++[(Node.mk a2 (w64 (((a4.getD x22.toNat du).A)-a3))),(Node.mk 0 0)]))) (apP qE du l19 ([(Node.mk a2 (w64 (((a4.getD x22.toNat du).A)-a3))),(Node.mk 0 0)]:List Node) l19.length 2 2 16 (2<=2) (ki _) rfl rfl (λ_=>rfl) (zI g32))] 3 [13,103] [(13,vo 2 1 2 (l19.length+2))] [2] [(2,ro 1 65 2 (l19.length+2) (rf qE (l19++[(Node.mk a2 (w64 (((a4.getD x22.toNat du).A)-a3))),(Node.mk 0 0)])))] ?_
         exact q_J ((l19++[(Node.mk a2 (w64 (((a4.getD x22.toNat du).A)-a3))),(Node.mk 0 0)]),(l19.length+2)) ⟨(zE rfl rfl),hm⟩
        ·exact q_sk (q_J (l19,l19.length) ⟨rfl,hm⟩)
    ·rcases bif_c hm with⟨b26,hm⟩|⟨b26,hm⟩
     ·exact q_vv [qf 1 b26] 3 [15,53] [(65,vb true)] (q_J (true) hm)
     ·rcases bif_c hm with⟨b27,hm⟩|⟨b27,hm⟩
      ·exact q_vv [qf 1 b26,qi 4 g24,qf 9 b27,qi 12 g24] 3 [15,53] [(65,vb (decide (((a4.getD x22.toNat du).A)<(w64 ((w64 (x20+a3))+1)))))] (q_J (decide (((a4.getD x22.toNat du).A)<(w64 ((w64 (x20+a3))+1)))) hm)
      ·exact q_vv [qf 1 b26,qi 4 g24,qf 9 b27] 3 [15,53] [(65,vb false)] (q_J (false) hm)
  ·refine q_ex 0 ?_;obtain rfl:=oi hm;exact L1_mk (l19,x21) (by kernel_rfl) (by kernel_rfl)
theorem qKY (a1:Rect) (a2:Int) (a3:Int) (a4:List Span) (a5:List (List Node)) (r:(List Node)×Int) (hm:UO a1 a2 a3 a4 a5=some r):CtX Tryz.prog globs 47 0 0 [.agg (qO a1),.one (ci a2),.one (ci a3),.one (tl qG du a4),.one (tl (qM qE) du a5)] [] (OI r) (VT r):=by
 unfold UO at hm;refine q_E f47 163 λE=>?_;refine s_vn [] 0 ⟨[(1,vi a2),(2,vi a3),(3,vc (tl qG du a4)),(4,vc (tl (qM qE) du a5)),(5,vp 0 0)],[(0,bx 33 (qO a1))]⟩ (q_sq ?_);refine q_jn (qQW a1 a2 a3 a4 a5) (λp=>qBw a1 a2 a3 a4 a5 p=some r) ?_ ?_
 ·rintro x7 hm;refine q_cq hm (λhm=>?_) (λhm=>?_)
  ·refine s_vn [] 1 ⟨[(10,vc (.emp)),(11,vi 10)],[]⟩ (q_fo 10 1 65 2 qE ?_);refine q_fl 10 1 65 2 qE ?_;obtain rfl:=oi hm;exact q_sw 1 0 (q_rt q_rm)
  ·refine q_sk (q_sq ?_);refine q_jn (qRk a1 a2 a3 a4 a5) (λp=>qA8 a1 a2 a3 a4 a5 p=some r) ?_ ?_
   ·rintro x12 hm;refine q_cq hm (λhm=>?_) (λhm=>?_)
    ·refine s_vn [] 1 ⟨[(10,vc (.emp)),(11,vi 19)],[]⟩ (q_fo 10 1 65 2 qE ?_);refine q_fl 10 1 65 2 qE ?_;obtain rfl:=oi hm;exact q_sw 1 0 (q_rt q_rm)
    ·refine q_sk (q_sq ?_);refine q_jn (qSb a1 a2 a3 a4 a5) (λp=>qBE a1 a2 a3 a4 a5 p=some r) ?_ ?_
     ·rintro x15 hm;refine q_cq hm (λhm=>?_) (λhm=>?_)
      ·refine s_vn [] 1 ⟨[(10,vc (.emp)),(11,vi 9)],[]⟩ (q_fo 10 1 65 2 qE ?_);refine q_fl 10 1 65 2 qE ?_;obtain rfl:=oi hm;exact q_sw 1 0 (q_rt q_rm)
      ·refine q_sk (s_vu [] 1 [38] [(12,vp 1 0)] [] [(1,bx 31 (qG a1.X))] ?_);refine q_jn (qRE a2 a3 a4 a5) (λp=>MU a2 a3 a4 a5 p=some r) ?_ ?_
       ·rintro x18 hm;refine s_va 2 [(13,vc (.emp))] (s_va 2 [(14,vi x18.A),(15,vb false)] ?_);refine q_sq (s_va 2 [(16,vi 0)] ?_);refine q_fo 13 2 65 2 qE ?_;obtain⟨u43,h42,hm⟩:=qB hm;refine zT (nd f47 8180) 0 (by kernel_rfl) FUEL (λo=>qHt o.1 o.2) (λv st=>RetQ Tryz.prog f47 (OI v) (VT v) .ret st) u43 (q_hl (qCB a2 a3 a4 a5 x18 ([]:List Node) 0 x18.A false 0) (qOJ E a2 a3 a4 a5 x18 FUEL ([]:List Node) 0 x18.A false 0 u43 rfl h42)) ?_ ?_
        ·rintro v44 rfl st hr;obtain rfl:=oi hm;exact hr
        ·rintro o41 rfl;replace hm:_=some r:=hm;refine q_jn (ι:=(List Node)×Nat) (λp=>qHw p.1 p.2) (λp=>p.1.length=p.2/\MZ p.1=some r) ?_ ?_
         ·rintro⟨l47,l47n⟩ ⟨el47,hm⟩;replace el47:l47.length=l47n:=el47;subst el47;show H _ (qHw l47 l47.length) _ _;refine q_sq (s_va 4 [(161,vb (decide ((l47.length:Int)>127)))] ?_);refine q_cq hm (λhm=>?_) (λhm=>?_)
          ·refine s_vn [] 4 ⟨[(10,vc (.emp)),(11,vi 4)],[]⟩ (q_fo 10 4 65 2 qE ?_);refine q_fl 10 4 65 2 qE ?_;obtain rfl:=oi hm;exact q_sw 4 0 (q_rt q_rm)
          ·refine q_sk (s_vv [] 4 [13,161] [(10,vo 2 0 2 l47.length),(11,vi 0)] ?_);obtain rfl:=oi hm;exact q_sw 2 0 (q_rt q_rm)
         ·refine s_vv [] 3 [15] [(154,vb (!o41.2))] (q_cq hm (λhm=>?_) (λhm=>?_))
          ·obtain⟨g46,hm⟩:=qI hm;exact q_vn [qd 2 (drw 3 0 (rf qE [(Node.mk 0 0)])) (litP qE du 2 (λ_=>rfl) ([(Node.mk 0 0)]:List Node) 1 rfl),qd 3 (drw 2 1 (rf qE (o41.1++[(Node.mk 0 0)]))) (apP qE du o41.1 ([(Node.mk 0 0)]:List Node) o41.1.length 1 2 16 (1<=1) (ki _) rfl rfl (λ_=>rfl) (zI g46))] 3 ⟨[(13,vo 2 1 2 (o41.1.length+1))],[(2,ro 1 65 2 (o41.1.length+1) (rf qE (o41.1++[(Node.mk 0 0)])))]⟩ (q_J ((o41.1++[(Node.mk 0 0)]),(o41.1.length+1)) ⟨(zE rfl rfl),hm⟩)
          ·exact q_sk (q_J (o41.1,o41.1.length) ⟨rfl,hm⟩)
       ·refine s_va 2 [(42,vb (a2==3))] (q_cq hm (λhm=>?_) (λhm=>?_))
        ·exact q_vu [] 2 [5,42] [] [0,1] [(1,bx 31 (qG a1.Y))] (q_J (a1.Y) hm)
        ·exact q_sk (q_J (a1.X) hm)
     ·rcases bif_c hm with⟨b14,hm⟩|⟨b14,hm⟩
      ·exact q_vv [qf 2 b14] 1 [32] [(38,vb true)] (q_J (true) hm)
      ·exact q_vv [qf 2 b14] 1 [32] [(38,vb (decide (a3>20)))] (q_J (decide (a3>20)) hm)
   ·obtain⟨v9,h10,hm⟩:=qB hm;rcases bif_c hm with⟨b11,hm⟩|⟨b11,hm⟩
    ·exact q_vv [qc 1 [23] 1 (qF1 a1 v9 h10),qf 3 b11] 1 [22] [(32,vb true)] (q_J (true) hm)
    ·exact q_vv [qc 1 [23] 1 (qF1 a1 v9 h10),qf 3 b11] 1 [22] [(32,vb ((a4.length:Int) !=(a5.length:Int)))] (q_J ((a4.length:Int) !=(a5.length:Int)) hm)
 ·rcases bif_c hm with⟨b6,hm⟩|⟨b6,hm⟩
  ·exact q_vv [qf 2 b6] 1 [] [(22,vb (a2 !=3))] (q_J (a2 !=3) hm)
  ·exact q_vv [qf 2 b6] 1 [] [(22,vb false)] (q_J (false) hm)
open Go.Proofs Go.Proofs.Tryz
def qVR (r:(List Node)×Int×Int):V:= .tup [.one (.own 0 0 2 r.1.length),.one (ci r.2.1),.one (ci r.2.2)]
def qWa (r:(List Node)×Int×Int):List (Nat×(Nat×O)):=[(0,ro 0 65 2 r.1.length (rf qE r.1))]
def qBh (a4:Rect) (a5:Saw) (v7:Line×Int) (v10:(List Int)×(List Int)) (v12:(List qX)×Int×Int) (l15:List Span) (l15n:Nat) (l16:List (List Node)) (l16n:Nat) (x17:Int):St:=
 ⟨[(9,vp 0 0),(10,vp 1 0),(15,vp 7 0),(18,vo 9 0 1 v10.2.length),(19,vo 10 0 2 v12.1.length),(20,vi v12.2.1),(22,vo 11 0 2 l15n),(23,vo 12 0 1 l16n),(24,vi x17)],[(0,bx 33 (qO a4)),(1,bx 38 (zW a5)),(3,ro 0 3 1 v7.1.Sizes.length (rf qA v7.1.Sizes)),(4,ro 0 28 1 v7.1.Gain.length (rf (qM qA) v7.1.Gain)),(5,ro 0 3 1 v7.1.Chip.length (rf qA v7.1.Chip)),(6,ro 0 3 1 v7.1.Dust.length (rf qA v7.1.Dust)),(7,bx 84 [ci v7.1.Len,ci v7.1.Kerf,ci v7.1.Pitch,.own 3 0 1 v7.1.Sizes.length,.own 4 0 1 v7.1.Gain.length,.own 5 0 1 v7.1.Chip.length,.own 6 0 1 v7.1.Dust.length]),(9,ro 0 3 1 v10.2.length (rf qA v10.2)),(10,ro 0 92 2 v12.1.length (rf zY v12.1)),(11,ro 0 31 2 l15n (rf qG l15)),(12,ro 0 44 1 l16n (rf (qM qE) l16))]⟩
def qGO (a4:Rect) (a5:Saw) (v12:(List qX)×Int×Int) (l26:List Span) (l27:List (List Node)):St:=
 ⟨[(9,vp 0 0),(10,vp 1 0),(20,vi v12.2.1),(22,vo 11 0 2 l26.length),(23,vo 12 0 1 l27.length)],[(0,bx 33 (qO a4)),(1,bx 38 (zW a5)),(11,ro 0 31 2 l26.length (rf qG l26)),(12,ro 0 44 1 l27.length (rf (qM qE) l27))]⟩
theorem qNT (E:Env 0) (a4:Rect) (a5:Saw) (v7:Line×Int) (v10:(List Int)×(List Int)) (v12:(List qX)×Int×Int):∀(n:Nat) (l15:List Span) (l15n:Nat) (l16:List (List Node)) (l16n:Nat) (x17:Int) (res:(List Span)×(List (List Node))),l15.length=l15n->l16.length=l16n->UA a4 v7 v10 v12 n l15 l16 x17=some res->HL (kx E 113 0) (nd f46 8180) (zL 0 (λo=>qGO a4 a5 v12 o.1 o.2) res) n (qBh a4 a5 v7 v10 v12 l15 l15n l16 l16n x17):=by
 intro n
 induction n with
 |zero=>
  intro l15 l15n l16 l16n x17 res hl0 hl1 hm;cases hm
 |succ n ih=>
  intro l15 l15n l16 l16n x17 res hl0 hl1 hm;subst hl0;subst hl1;refine qT (q_sq ?_);refine s_va 13 [(65,vb (decide (x17<(v12.1.length:Int))))] (q_cq hm (λhm=>?_) (λhm=>?_))
  ·refine q_sk (q_sq ?_);refine q_bk 1 ?_;obtain⟨g19,hm⟩:=qI hm;refine s_vu [qi 2 g19,qd 3 dN (qV (zC g19))] 13 [65] [(25,vp 13 0)] [] [(13,bx 92 (zY (v12.1.getD x17.toNat du)))] ?_;obtain⟨g20,hm⟩:=qI hm;obtain⟨v21,h22,hm⟩:=qB hm;obtain⟨g23,hm⟩:=qI hm
   refine s_du [qi 10 g20,qd 11 dN (qV (zC g20)),qc 13 [73,75,84] 14 (qDK a4 ((v12.1.getD x17.toNat du).At) (w64 (((v12.1.getD x17.toNat du).At)+(v7.1.Sizes.getD (((v12.1.getD x17.toNat du).Size).toNat) du))) v21 h22),qd 15 (drw 14 0 (rf qG [v21.X])) (litP qG du 2 (λ_=>rfl) ([v21.X]:List Span) 1 rfl),qd 16 (drw 11 1 (rf qG (l15++[v21.X]))) (apP qG du l15 ([v21.X]:List Span) l15.length 1 2 16 (1<=1) (ki _) rfl rfl (λ_=>rfl) (zI g23))] [0,0,0,4,0,16,0,64,0,256,960,1984,4080,8190,16382,32766,65535,131071] 14 [22] [(22,vo 11 1 2 (l15.length+1))] [11] [(11,ro 1 31 2 (l15.length+1) (rf qG (l15++[v21.X])))] ?_
   obtain⟨g24,hm⟩:=qI hm;obtain⟨g25,hm⟩:=qI hm
   refine q_vu [qi 4 g24,qd 5 dN (qV (zC g24)),qd 7 (drw 15 0 (rf qE [(Node.mk 1 (v10.2.getD (((v12.1.getD x17.toNat du).Size).toNat) du))])) (litP qE du 2 (λ_=>rfl) ([(Node.mk 1 (v10.2.getD (((v12.1.getD x17.toNat du).Size).toNat) du))]:List Node) 1 rfl),qd 8 (dpr [.len 15 (([(Node.mk 1 (v10.2.getD (((v12.1.getD x17.toNat du).Size).toNat) du))]:List Node).length),.frz 15] (drw 16 0 (rf (qM qE) ([([(Node.mk 1 (v10.2.getD (((v12.1.getD x17.toNat du).Size).toNat) du))]:List Node)]:List (List Node))))) (And.intro (And.intro (show 1=([(Node.mk 1 (v10.2.getD (((v12.1.getD x17.toNat du).Size).toNat) du))]:List Node).length from rfl) (show 1=([(Node.mk 1 (v10.2.getD (((v12.1.getD x17.toNat du).Size).toNat) du))]:List Node).length from rfl)) (ki (([(Node.mk 1 (v10.2.getD (((v12.1.getD x17.toNat du).Size).toNat) du))]:List Node).length))),qd 8 dN (litP (qM qE) du 1 (λ_=>rfl) ([([(Node.mk 1 (v10.2.getD (((v12.1.getD x17.toNat du).Size).toNat) du))]:List Node)]:List (List Node)) 1 rfl),qd 9 (drw 12 1 (rf (qM qE) (l16++([([(Node.mk 1 (v10.2.getD (((v12.1.getD x17.toNat du).Size).toNat) du))]:List Node)]:List (List Node))))) (apP (qM qE) du l16 ([([(Node.mk 1 (v10.2.getD (((v12.1.getD x17.toNat du).Size).toNat) du))]:List Node)]:List (List Node)) l16.length 1 1 24 (1<=1) (ki _) rfl rfl (λ_=>rfl) (zI g25))] 15 [23,25] [(23,vo 12 1 1 (l16.length+1))] [12,13] [(12,ro 1 44 1 (l16.length+1) (rf (qM qE) (l16++([([(Node.mk 1 (v10.2.getD (((v12.1.getD x17.toNat du).Size).toNat) du))]:List Node)]:List (List Node)))))] ?_
   exact q_vv [] 17 [24] [(24,vi (w64 (x17+1)))] (q_hl (qBh a4 a5 v7 v10 v12 (l15++[v21.X]) (l15.length+1) (l16++([([(Node.mk 1 (v10.2.getD (((v12.1.getD x17.toNat du).Size).toNat) du))]:List Node)]:List (List Node))) (l16.length+1) (w64 (x17+1))) (ih (l15++[v21.X]) (l15.length+1) (l16++([([(Node.mk 1 (v10.2.getD (((v12.1.getD x17.toNat du).Size).toNat) du))]:List Node)]:List (List Node))) (l16.length+1) (w64 (x17+1)) _ (zE rfl rfl) (zE rfl rfl) hm))
  ·refine q_ex 0 ?_;obtain rfl:=oi hm;exact q_l0
theorem qJg (a1:List qC) (a2:List qF) (a3:List Product) (a4:Rect) (a5:Saw) (a6:Rates) (r:(List Node)×Int×Int) (hm:EH a1 a2 a3 a4 a5 a6=some r):CtX Tryz.prog globs 46 0 0 [.one (tl qL du a1),.one (tl qP du a2),.one (tl qH du a3),.agg (qO a4),.agg (zW a5),.agg (zN a6)] [] (qVR r) (qWa r):=by
 unfold EH at hm;refine q_E f46 113 λE=>?_;refine s_vn [] 0 ⟨[(0,vc (tl qL du a1)),(1,vc (tl qP du a2)),(2,vc (tl qH du a3)),(9,vp 0 0),(10,vp 1 0),(11,vp 2 0)],[(0,bx 33 (qO a4)),(1,bx 38 (zW a5)),(2,bx 40 (zN a6))]⟩ ?_;obtain⟨v7,h8,hm⟩:=qB hm
 refine s_vu [qc 6 [29,30,31,32,33,34] 3 (qTK a1 a2 a3 a4 a5 a6 v7 h8)] 3 [0,1,11] [(15,vp 7 0),(16,vi v7.2)] [2] [(3,ro 0 3 1 v7.1.Sizes.length (rf qA v7.1.Sizes)),(4,ro 0 28 1 v7.1.Gain.length (rf (qM qA) v7.1.Gain)),(5,ro 0 3 1 v7.1.Chip.length (rf qA v7.1.Chip)),(6,ro 0 3 1 v7.1.Dust.length (rf qA v7.1.Dust)),(7,bx 84 [ci v7.1.Len,ci v7.1.Kerf,ci v7.1.Pitch,.own 3 0 1 v7.1.Sizes.length,.own 4 0 1 v7.1.Gain.length,.own 5 0 1 v7.1.Chip.length,.own 6 0 1 v7.1.Dust.length])] (q_sq ?_);refine s_va 8 [(39,vb (v7.2 !=0))] (q_cq hm (λhm=>?_) (λhm=>?_))
 ·refine s_vn [] 8 ⟨[(12,vc (.emp)),(13,vi 0),(14,vi v7.2)],[]⟩ (q_fo 12 8 65 2 qE ?_);refine q_fl 12 8 65 2 qE ?_;obtain rfl:=oi hm;exact q_sw 8 0 (q_rt q_rm)
 ·refine q_sk ?_;obtain⟨v10,h11,hm⟩:=qB hm;refine s_vu [qc 8 [42,49] 8 (qHO a3 (w64 (a4.Y.B-a4.Y.A)) v10 h11)] 8 [2,16,39] [(18,vo 9 0 1 v10.2.length)] [] [(9,ro 0 3 1 v10.2.length (rf qA v10.2))] ?_;obtain⟨v12,h13,hm⟩:=qB hm
  refine s_vu [qd 1 (dex (cen [] [] 10 0 (qE0 v12) (MV v12) [54] [3,4,5,6])) (wU (K:=(kx E 113 0)) (b:=false) ⟨[(54,va [ci v7.1.Len,ci v7.1.Kerf,ci v7.1.Pitch,.own 3 0 1 v7.1.Sizes.length,.own 4 0 1 v7.1.Gain.length,.own 5 0 1 v7.1.Chip.length,.own 6 0 1 v7.1.Dust.length])],[(3,ro 0 3 1 v7.1.Sizes.length (rf qA v7.1.Sizes)),(4,ro 0 28 1 v7.1.Gain.length (rf (qM qA) v7.1.Gain)),(5,ro 0 3 1 v7.1.Chip.length (rf qA v7.1.Chip)),(6,ro 0 3 1 v7.1.Dust.length (rf qA v7.1.Dust))]⟩ (opAt (rg f46 62) 1) [] [] 10 (o1 (And.intro (ki v7.1.Sizes.length) (And.intro (ki v7.1.Gain.length) (And.intro (ki v7.1.Chip.length) (ki v7.1.Dust.length))))) rfl (qJf (Line.mk v7.1.Len v7.1.Kerf v7.1.Pitch v7.1.Sizes v7.1.Gain v7.1.Chip v7.1.Dust) v12 h13) (.inr ⟨(by kernel_rfl),qJN v12⟩) (by kernel_rfl))] 10 [] [(19,vo 10 0 2 v12.1.length),(20,vi v12.2.1),(21,vi v12.2.2)] [] [(10,ro 0 92 2 v12.1.length (rf zY v12.1))] ?_
  refine q_sq (s_va 11 [(60,vb (v12.2.2 !=0))] ?_);refine q_cq hm (λhm=>?_) (λhm=>?_)
  ·refine s_vn [] 11 ⟨[(12,vc (.emp)),(13,vi 0),(14,vi v12.2.2)],[]⟩ (q_fo 12 11 65 2 qE ?_);refine q_fl 12 11 65 2 qE ?_;obtain rfl:=oi hm;exact q_sw 11 0 (q_rt q_rm)
  ·refine q_sk (s_vv [] 11 [21,60] [(22,vc (.emp))] ?_);refine s_va 11 [(23,vc (.emp))] (q_sq ?_);refine s_va 11 [(24,vi 0)] (q_fo 22 11 31 2 qG ?_);refine q_fo 23 12 44 1 (qM qE) ?_;obtain⟨o28,h29,hm⟩:=qB hm;refine zF (nd f46 8180) 0 (by kernel_rfl) FUEL (λo=>qGO a4 a5 v12 o.1 o.2) o28 (q_hl (qBh a4 a5 v7 v10 v12 ([]:List Span) 0 ([]:List (List Node)) 0 0) (qNT E a4 a5 v7 v10 v12 FUEL ([]:List Span) 0 ([]:List (List Node)) 0 0 o28 rfl rfl h29)) ?_;obtain⟨v30,h31,hm⟩:=qB hm
   refine s_vn [qd 5 (dex (cen [] [] 13 0 (OI v30) (VT v30) [100,102,103,104] [11,12])) (wU (K:=(kx E 113 0)) (b:=false) ⟨[(100,va (qO a4)),(102,vi a5.Kerf),(103,vo 11 0 2 o28.1.length),(104,vo 12 0 1 o28.2.length)],[(11,ro 0 31 2 o28.1.length (rf qG o28.1)),(12,ro 0 44 1 o28.2.length (rf (qM qE) o28.2))]⟩ (opAt (rg f46 2046) 5) [] [] 13 (o1 (And.intro (ki o28.1.length) (ki o28.2.length))) rfl (qKY a4 2 a5.Kerf o28.1 o28.2 v30 h31) (.inr ⟨(by kernel_rfl),qMD v30⟩) (by kernel_rfl))] 13 ⟨[(20,vi v12.2.1),(26,vo 13 0 2 v30.1.length),(27,vi v30.2)],[(13,ro 0 65 2 v30.1.length (rf qE v30.1))]⟩ (q_sq ?_)
   refine s_va 14 [(109,vb (v30.2 !=0))] (q_cq hm (λhm=>?_) (λhm=>?_))
   ·refine s_vn [] 14 ⟨[(12,vc (.emp)),(13,vi 0),(14,vi v30.2)],[]⟩ (q_fo 12 14 65 2 qE ?_);refine q_fl 12 14 65 2 qE ?_;obtain rfl:=oi hm;exact q_sw 14 0 (q_rt q_rm)
   ·refine q_sk (s_vv [] 14 [20,26,27,109] [(12,vo 13 0 2 v30.1.length),(13,vi v12.2.1),(14,vi 0)] ?_);obtain rfl:=oi hm;exact q_sw 13 0 (q_rt q_rm)
def qPj (r:Bool):V:=vb r
def qPQ (r:Bool):List (Nat×(Nat×O)):=[]
def qKM (x5:Bool):St:=
 ⟨[(2,vb x5)],[]⟩
theorem qAd (a1:Span) (r:Bool) (hm:CK a1=some r):CtX Tryz.prog globs 93 0 0 [.agg (qG a1)] [] (qPj r) (qPQ r):=by
 unfold CK at hm;refine q_E f93 21 λE=>?_;refine s_vn [] 0 ⟨[(1,vp 0 0)],[(0,bx 31 (qG a1))]⟩ (q_jn (qKM) (λp=>RS p=some r) ?_ ?_)
 ·rintro x5 hm;obtain rfl:=oi hm;exact q_rt q_rm
 ·rcases bif_c hm with⟨b2,hm⟩|⟨b2,hm⟩
  ·exact q_vn [qf 3 b2] 1 ⟨[(2,vb true)],[]⟩ (q_J (true) hm)
  ·rcases bif_c hm with⟨b3,hm⟩|⟨b3,hm⟩
   ·exact q_vn [qf 3 b2,qf 8 b3] 1 ⟨[(2,vb true)],[]⟩ (q_J (true) hm)
   ·rcases bif_c hm with⟨b4,hm⟩|⟨b4,hm⟩
    ·exact q_vn [qf 3 b2,qf 8 b3,qf 13 b4] 1 ⟨[(2,vb true)],[]⟩ (q_J (true) hm)
    ·exact q_vn [qf 3 b2,qf 8 b3,qf 13 b4] 1 ⟨[(2,vb (decide (a1.B>600)))],[]⟩ (q_J (decide (a1.B>600)) hm)
def qTZ (r:Int):V:=vi r
def qUh (r:Int):List (Nat×(Nat×O)):=[]
def qN5 (x27:Bool):St:=
 ⟨[(61,vb x27)],[]⟩
def qOf (a4:Rect) (x20:Bool):St:=
 ⟨[(9,vp 0 0),(53,vb x20)],[(0,bx 33 (qO a4))]⟩
theorem qRw (a1:List qC) (a2:List qF) (a3:List Product) (a4:Rect) (a5:Saw) (a6:Rates) (r:Int) (hm:qCV a1 a2 a3 a4 a5 a6=some r):CtX Tryz.prog globs 42 0 0 [.one (tl qL du a1),.one (tl qP du a2),.one (tl qH du a3),.agg (qO a4),.agg (zW a5),.agg (zN a6)] [] (qTZ r) (qUh r):=by
 unfold qCV at hm;refine q_E f42 62 λE=>?_;refine s_vn [] 0 ⟨[(0,vc (tl qL du a1)),(1,vc (tl qP du a2)),(2,vc (tl qH du a3)),(9,vp 0 0),(10,vp 1 0),(11,vp 2 0)],[(0,bx 33 (qO a4)),(1,bx 38 (zW a5)),(2,bx 40 (zN a6))]⟩ (q_sq ?_);obtain⟨v7,h8,hm⟩:=qB hm;refine s_vv [qc 1 [17] 3 (jG a1 v7 h8)] 3 [0] [(13,vi v7)] (s_va 3 [(20,vb (v7 !=0))] ?_);refine q_cq hm (λhm=>?_) (λhm=>?_)
 ·refine s_vn [] 3 ⟨[(12,vi v7)],[]⟩ ?_;obtain rfl:=oi hm;exact q_rt q_rm
 ·refine q_sk (q_sq ?_);obtain⟨v10,h11,hm⟩:=qB hm;refine s_vv [qc 1 [22] 3 (SZ a2 v10 h11)] 3 [1,13,20] [(14,vi v10)] (s_va 3 [(25,vb (v10 !=0))] ?_);refine q_cq hm (λhm=>?_) (λhm=>?_)
  ·refine s_vn [] 3 ⟨[(12,vi v10)],[]⟩ ?_;obtain rfl:=oi hm;exact q_rt q_rm
  ·refine q_sk (q_sq ?_);obtain⟨v13,h14,hm⟩:=qB hm;refine s_vv [qc 1 [27] 3 (GZ a3 v13 h14)] 3 [2,14,25] [(15,vi v13)] (s_va 3 [(30,vb (v13 !=0))] ?_);refine q_cq hm (λhm=>?_) (λhm=>?_)
   ·refine s_vn [] 3 ⟨[(12,vi v13)],[]⟩ ?_;obtain rfl:=oi hm;exact q_rt q_rm
   ·refine q_sk (q_sq ?_);obtain⟨v16,h17,hm⟩:=qB hm;refine s_vu [qc 2 [32,33] 3 (qHA a5 a6 v16 h17)] 3 [10,11,15,30] [(16,vi v16)] [1,2] [] (s_va 3 [(36,vb (v16 !=0))] ?_);refine q_cq hm (λhm=>?_) (λhm=>?_)
    ·refine s_vn [] 3 ⟨[(12,vi v16)],[]⟩ ?_;obtain rfl:=oi hm;exact q_rt q_rm
    ·refine q_sk (q_sq ?_);refine q_jn (qOf a4) (λp=>qB4 a4 p=some r) ?_ ?_
     ·rintro x20 hm;refine q_cq hm (λhm=>?_) (λhm=>?_)
      ·refine s_vn [] 3 ⟨[(12,vi 19)],[]⟩ ?_;obtain rfl:=oi hm;exact q_rt q_rm
      ·refine q_sk (q_sq ?_);refine q_jn (qN5) (λp=>qCk p=some r) ?_ ?_
       ·rintro x27 hm;refine q_cq hm (λhm=>?_) (λhm=>?_)
        ·refine s_vn [] 3 ⟨[(12,vi 9)],[]⟩ ?_;obtain rfl:=oi hm;exact q_rt q_rm
        ·refine q_sk (s_vn [] 3 ⟨[(12,vi 0)],[]⟩ ?_);obtain rfl:=oi hm;exact q_rt q_rm
       ·obtain⟨v22,h23,hm⟩:=qB hm;rcases bif_c hm with⟨b24,hm⟩|⟨b24,hm⟩
        ·exact q_vn [qc 2 [55] 3 (qAd a4.X v22 h23),qf 3 b24] 3 ⟨[(61,vb true)],[]⟩ (q_J (true) hm)
        ·obtain⟨v25,h26,hm⟩:=qB hm;exact q_vn [qc 2 [55] 3 (qAd a4.X v22 h23),qf 3 b24,qk 6 [57,59] 3 ⟨[(57,vb false),(59,va (qG a4.Y))],[]⟩ (qAd a4.Y v25 h26)] 3 ⟨[(61,vb v25)],[]⟩ (q_J (v25) hm)
     ·rcases bif_c hm with⟨b19,hm⟩|⟨b19,hm⟩
      ·exact q_vv [qf 7 b19] 3 [16,36] [(53,vb true)] (q_J (true) hm)
      ·exact q_vv [qf 7 b19] 3 [16,36] [(53,vb (decide (a4.Y.A≥a4.Y.B)))] (q_J (decide (a4.Y.A≥a4.Y.B)) hm)
open Go.Proofs Go.Proofs.Tryz
def ED (r:Bool):V:=vb r
def RK (r:Bool):List (Nat×(Nat×O)):=[]
theorem qSw (r:Bool):jS (RK r):=by
 intro i k o h;unfold RK at h;cases h
def OB (a1:List Node) (x2:Int):St:=
 ⟨[(0,vc (tl qE du a1)),(3,vi x2)],[]⟩
def qD6 :St:=
 ⟨[],[]⟩
theorem qKQ (E:Env 0) (a1:List Node):∀(n:Nat) (x2:Int) (res:Bool⊕Unit),KM a1 n x2=some res->HL (kx E 16 0) (nd f94 52) (wN 0 (λo=>qD6) (λv st=>RetQ Tryz.prog f94 (ED v) (RK v) .ret st) res) n (OB a1 x2):=by
 intro n
 induction n with
 |zero=>
  intro x2 res hm;cases hm
 |succ n ih=>
  intro x2 res hm;refine qT (q_sq ?_);refine s_va 0 [(7,vb (decide (x2<(a1.length:Int))))] (q_cq hm (λhm=>?_) (λhm=>?_))
  ·refine q_sk (q_sq ?_);refine q_bk 1 ?_;obtain⟨g4,hm⟩:=qI hm;refine s_vv [qi 2 g4] 0 [7] [(15,vb (((a1.getD x2.toNat du).Kind)==1))] (q_cq hm (λhm=>?_) (λhm=>?_))
   ·refine s_vn [] 0 ⟨[(2,vb true)],[]⟩ ?_;obtain rfl:=oi hm;refine q_rt (zG true ?_);exact q_rm
   ·refine q_sk (q_vv [] 0 [3,15] [(3,vi (w64 (x2+1)))] ?_);exact q_hl (OB a1 (w64 (x2+1))) (ih (w64 (x2+1)) _ hm)
  ·refine q_ex 0 ?_;obtain rfl:=oi hm;exact q_l1 ()
theorem qOS (a1:List Node) (r:Bool) (hm:SR a1=some r):CtX Tryz.prog globs 94 0 0 [.one (tl qE du a1)] [] (ED r) (RK r):=by
 unfold SR at hm;refine q_E f94 16 λE=>?_;refine s_vn [] 0 ⟨[(0,vc (tl qE du a1))],[]⟩ (q_sq ?_);refine s_va 0 [(3,vi 0)] ?_;obtain⟨u8,h7,hm⟩:=qB hm;refine zT (nd f94 52) 0 (by kernel_rfl) FUEL (λo=>qD6) (λv st=>RetQ Tryz.prog f94 (ED v) (RK v) .ret st) u8 (q_hl (OB a1 0) (qKQ E a1 FUEL 0 u8 h7)) ?_ ?_
 ·rintro v9 rfl st hr;obtain rfl:=oi hm;exact hr
 ·rintro o6 rfl;replace hm:_=some r:=hm;refine s_vn [] 0 ⟨[(2,vb false)],[]⟩ ?_;obtain rfl:=oi hm;exact q_rt q_rm
def qSl (r:Int):V:=vi r
def qRv (r:Int):List (Nat×(Nat×O)):=[]
theorem qF3 (a1:List qC) (a2:Rect) (r:Int) (hm:DE a1 a2=some r):CtX Tryz.prog globs 49 0 0 [.one (tl qL du a1),.agg (qO a2)] [] (qSl r) (qRv r):=by
 unfold DE at hm;refine q_E f49 15 λE=>?_;refine s_vn [] 0 ⟨[(0,vc (tl qL du a1)),(3,vp 0 0)],[(0,bx 33 (qO a2))]⟩ ?_;obtain⟨v3,h4,hm⟩:=qB hm;obtain⟨v5,h6,hm⟩:=qB hm;refine s_dn [qc 6 [10] 1 (UQ a1 v3 h4),qc 9 [5,13] 1 (qGR a1 (Box.mk a2.X a2.Y (Span.mk 0 v3)) v5 h6)] [0,0,2,0,8,0,32,96,254,511,1023] 1 ⟨[(4,vi v5)],[]⟩ ?_;obtain rfl:=oi hm;exact q_rt q_rm
end Saw
end Go.SL

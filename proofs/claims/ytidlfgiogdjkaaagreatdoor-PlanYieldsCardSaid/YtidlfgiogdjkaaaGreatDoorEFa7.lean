import Derived.Test.YtidlfgiogdjkaaaGreatDoorEBase
import Derived.Test.YtidlfgiogdjkaaaGreatDoorEFa2
import Derived.Test.YtidlfgiogdjkaaaGreatDoorEFa5
import Derived.Test.YtidlfgiogdjkaaaGreatDoorEFa6
import Derived.Test.YtidlfgiogdjkaaaGreatDoorEFa4
import Derived.Test.YtidlfgiogdjkaaaGreatDoorEFa1
import Derived.Test.YtidlfgiogdjkaaaGreatDoorYa6
import Derived.Ground.NamesProg
set_option linter.unusedVariables false
set_option linter.unusedSimpArgs false
namespace Go.SL
namespace Saw
open Go.Proofs
set_option maxHeartbeats 4000000
set_option maxRecDepth 100000
def qPy (r:(List Node)×Int×Int):V:= .tup [.one (.own 0 0 2 r.1.length),.one (ci r.2.1),.one (ci r.2.2)]
def qPs (r:(List Node)×Int×Int):List (Nat×(Nat×O)):=[(0,ro 0 65 2 r.1.length (rf e_Node r.1))]
def OD (a4:Rect) (a5:Saw) (v10:(List Piece)×Int×Int) (v13:(List Int)×(List Int)) (l15:List Span) (l15n:Nat) (l16:List (List Node)) (l16n:Nat) (x17:Int):St:=
 ⟨[(9,vp 0 0),(10,vp 1 0),(18,vi v10.2.1),(19,vo 9 0 1 v13.1.length),(20,vo 10 0 1 v13.2.length),(21,vo 11 0 2 l15n),(22,vo 12 0 1 l16n),(60,vo 8 0 2 v10.1.length),(61,vi ((v10.1.length:Nat):Int)),(62,vi x17)],[(0,bx 33 (qD a4)),(1,bx 38 (qQ a5)),(8,ro 0 92 2 v10.1.length (rf jA v10.1)),(9,ro 0 3 1 v13.1.length (rf e_i64 v13.1)),(10,ro 0 3 1 v13.2.length (rf e_i64 v13.2)),(11,ro 0 31 2 l15n (rf e_Span l15)),(12,ro 0 44 1 l16n (rf (qE e_Node) l16))]⟩
def qEi (a4:Rect) (a5:Saw) (v10:(List Piece)×Int×Int) (l27:List Span) (l28:List (List Node)):St:=
 ⟨[(9,vp 0 0),(10,vp 1 0),(18,vi v10.2.1),(21,vo 11 0 2 l27.length),(22,vo 12 0 1 l28.length)],[(0,bx 33 (qD a4)),(1,bx 38 (qQ a5)),(11,ro 0 31 2 l27.length (rf e_Span l27)),(12,ro 0 44 1 l28.length (rf (qE e_Node) l28))]⟩
theorem qKc (E:Env 0) (a4:Rect) (a5:Saw) (v10:(List Piece)×Int×Int) (v13:(List Int)×(List Int)):∀(n:Nat) (l15:List Span) (l15n:Nat) (l16:List (List Node)) (l16n:Nat) (x17:Int) (res:(List Span)×(List (List Node))),l15.length=l15n->l16.length=l16n->TC a4 v10 v13 n l15 l16 x17=some res->HL (kx E 106 0) (nd Tryz.f148 8180) (zR 0 (λo=>qEi a4 a5 v10 o.1 o.2) res) n (OD a4 a5 v10 v13 l15 l15n l16 l16n x17):=by
 intro n
 induction n with
 |zero=>
  intro l15 l15n l16 l16n x17 res hl0 hl1 hm;cases hm
 |succ n ih=>
  intro l15 l15n l16 l16n x17 res hl0 hl1 hm;subst hl0;subst hl1;refine qO ?_;refine s_vu [] 13 [] [(63,vb (decide (x17<((v10.1.length:Nat):Int))))] [] [] ?_;refine q_sq ?_;refine q_cm hm (λb18 hm=>?_) (λb18 hm=>?_)
  ·refine q_sk ?_;refine q_sq ?_;refine q_bk 1 ?_;obtain⟨g19,hm⟩:=qI hm;refine s_vu [qd 0 (Dir.none) (inb_of g19),qd 1 (Dir.none) (toNat_lt (inb_of g19))] 13 [63] [(24,vp 13 0)] [] [(13,bx 92 [ci ((v10.1.getD x17.toNat default).Size),ci ((v10.1.getD x17.toNat default).At)])] ?_;obtain⟨g20,hm⟩:=qI hm;obtain⟨v21,h22,hm⟩:=qA hm;obtain⟨g23,hm⟩:=qI hm
   refine s_du [qd 9 (Dir.none) (inb_of g20),qd 10 (Dir.none) (toNat_lt (inb_of g20)),qc 12 [67,69,77] 14 (qCi a4 ((v10.1.getD x17.toNat default).At) (w64 (((v10.1.getD x17.toNat default).At)+(v13.1.getD (((v10.1.getD x17.toNat default).Size).toNat) default))) v21 h22),qd 14 (drw 14 0 (rf e_Span ([v21.X]:List Span))) (litP e_Span default 2 (λ_=>rfl) ([v21.X]:List Span) 1 rfl),qd 15 (drw 11 1 (rf e_Span (l15++([v21.X]:List Span)))) (apP e_Span default l15 ([v21.X]:List Span) l15.length 1 2 16 (1<=1) (Nat.le_refl _) rfl rfl (λ_=>rfl) (zG g23))] [0,0,0,4,0,16,0,0,128,448,960,2032,4094,8190,16382,32767,65535] 14 [21] [(21,vo 11 1 2 (l15.length+1))] [11] [(11,ro 1 31 2 (l15.length+1) (rf e_Span (l15++([v21.X]:List Span))))] ?_
   obtain⟨g24,hm⟩:=qI hm;obtain⟨v25,h26,hm⟩:=qA hm
   refine q_vu [qd 4 (Dir.none) (inb_of g24),qd 5 (Dir.none) (toNat_lt (inb_of g24)),qd 7 (drw 15 0 (rf e_Node ([(Node.mk 1 (v13.2.getD (((v10.1.getD x17.toNat default).Size).toNat) default))]:List Node))) (litP e_Node default 2 (λ_=>rfl) ([(Node.mk 1 (v13.2.getD (((v10.1.getD x17.toNat default).Size).toNat) default))]:List Node) 1 rfl),qd 8 (dpr [.len 15 (([(Node.mk 1 (v13.2.getD (((v10.1.getD x17.toNat default).Size).toNat) default))]:List Node).length)] (dex (cen [(12,0),(15,0)] [1,1] 14 0 (qAV l16 ([(Node.mk 1 (v13.2.getD (((v10.1.getD x17.toNat default).Size).toNat) default))]:List Node) v25) (qBt l16 ([(Node.mk 1 (v13.2.getD (((v10.1.getD x17.toNat default).Size).toNat) default))]:List Node) v25) [82,89] [12,15]))) (And.intro (show 1=([(Node.mk 1 (v13.2.getD (((v10.1.getD x17.toNat default).Size).toNat) default))]:List Node).length from rfl) (show 1=([(Node.mk 1 (v13.2.getD (((v10.1.getD x17.toNat default).Size).toNat) default))]:List Node).length from rfl)),qd 8 (Dir.none) (wM (K:=(kx E 106 0)) ⟨[(82,vo 12 0 1 l16.length),(89,vo 15 0 2 (([(Node.mk 1 (v13.2.getD (((v10.1.getD x17.toNat default).Size).toNat) default))]:List Node).length))],[(12,ro 0 44 1 l16.length (rf (qE e_Node) l16)),(15,ro 0 65 2 (([(Node.mk 1 (v13.2.getD (((v10.1.getD x17.toNat default).Size).toNat) default))]:List Node).length) (rf e_Node ([(Node.mk 1 (v13.2.getD (((v10.1.getD x17.toNat default).Size).toNat) default))]:List Node)))]⟩ (opAt (rg Tryz.f148 523571) 8) [(12,0),(15,0)] [1,1] 14 o0 rfl (qGt l16 ([(Node.mk 1 (v13.2.getD (((v10.1.getD x17.toNat default).Size).toNat) default))]:List Node) v25 h26) (.inl rfl) (by kernel_rfl))] 15 [22,24] [(22,vo 12 1 1 v25.2.length)] [12,13] [(12,ro 1 44 1 v25.2.length (rf (qE e_Node) v25.2))] ?_
   refine q_vu [] 16 [62] [(62,vi (w64 (x17+1)))] [] [] ?_;exact q_hl (OD a4 a5 v10 v13 (l15++([v21.X]:List Span)) (l15.length+1) v25.2 v25.2.length (w64 (x17+1))) (ih (l15++([v21.X]:List Span)) (l15.length+1) v25.2 v25.2.length (w64 (x17+1)) _ (len_app rfl rfl) rfl hm)
  ·refine q_ex 0 ?_;obtain rfl:=oi hm;exact wJ (by kernel_rfl) (by kernel_rfl)
theorem qO1 (a1:List qB) (a2:List Defect) (a3:List Product) (a4:Rect) (a5:Saw) (a6:Rates) (r:(List Node)×Int×Int) (hm:CM a1 a2 a3 a4 a5 a6=some r):CtX Tryz.prog globs 148 0 0 [.one (tl qG default a1),.one (tl qH default a2),.one (tl qC default a3),.agg (qD a4),.agg (qQ a5),.agg (qS a6)] [] (qPy r) (qPs r):=by
 unfold CM at hm;refine q_E Tryz.f148 106 λE=>?_;refine s_vn [] 0 ⟨[(0,vc (tl qG default a1)),(1,vc (tl qH default a2)),(2,vc (tl qC default a3)),(9,vp 0 0),(10,vp 1 0),(11,vp 2 0)],[(0,bx 33 (qD a4)),(1,bx 38 (qQ a5)),(2,bx 40 (qS a6))]⟩ ?_;obtain⟨v7,h8,hm⟩:=qA hm
 refine s_vu [qc 6 [27,28,29,30,31,32] 3 (qNx a1 a2 a3 a4 a5 a6 v7 h8)] 3 [0,1,11] [(15,vp 7 0),(16,vi v7.2)] [2] [(3,ro 0 3 1 v7.1.Sizes.length (rf e_i64 v7.1.Sizes)),(4,ro 0 28 1 v7.1.Gain.length (rf (qE e_i64) v7.1.Gain)),(5,ro 0 3 1 v7.1.Chip.length (rf e_i64 v7.1.Chip)),(6,ro 0 3 1 v7.1.Dust.length (rf e_i64 v7.1.Dust)),(7,bx 84 [ci v7.1.Len,ci v7.1.Kerf,ci v7.1.Pitch,.own 3 0 1 v7.1.Sizes.length,.own 4 0 1 v7.1.Gain.length,.own 5 0 1 v7.1.Chip.length,.own 6 0 1 v7.1.Dust.length])] ?_;refine q_sq ?_;refine s_vu [] 8 [] [(37,vb (v7.2 !=0))] [] [] ?_
 refine q_cm hm (λb9 hm=>?_) (λb9 hm=>?_)
 ·refine s_vn [] 8 ⟨[(12,vc (.emp)),(13,vi 0),(14,vi v7.2)],[]⟩ ?_;refine q_fn [.own 12 8 65 2 (rf e_Node ([]:List Node))] ⟨[(12,vo 8 0 2 0),(13,vi 0),(14,vi v7.2)],[(8,ro 0 65 2 0 (rf e_Node ([]:List Node)))]⟩ o0 ?_;refine q_fn [.len 8 (([]:List Node).length)] ⟨[(12,vo 8 0 2 (([]:List Node).length)),(13,vi 0),(14,vi v7.2)],[(8,ro 0 65 2 (([]:List Node).length) (rf e_Node ([]:List Node)))]⟩ (o1 (And.intro (show 0=([]:List Node).length from rfl) (show 0=([]:List Node).length from rfl))) ?_;obtain rfl:=oi hm;refine qV 8 0 (by kernel_rfl) ?_;refine q_rt ?_;exact q_rm
 ·refine q_sk ?_;obtain⟨v10,h11,hm⟩:=qA hm
  refine s_vu [qd 1 (dex (cen [] [] 8 0 (IQ v10) (TD v10) [40] [3,4,5,6])) (wM (K:=(kx E 106 0)) (b:=false) ⟨[(40,va [ci v7.1.Len,ci v7.1.Kerf,ci v7.1.Pitch,.own 3 0 1 v7.1.Sizes.length,.own 4 0 1 v7.1.Gain.length,.own 5 0 1 v7.1.Chip.length,.own 6 0 1 v7.1.Dust.length])],[(3,ro 0 3 1 v7.1.Sizes.length (rf e_i64 v7.1.Sizes)),(4,ro 0 28 1 v7.1.Gain.length (rf (qE e_i64) v7.1.Gain)),(5,ro 0 3 1 v7.1.Chip.length (rf e_i64 v7.1.Chip)),(6,ro 0 3 1 v7.1.Dust.length (rf e_i64 v7.1.Dust))]⟩ (opAt (rg Tryz.f148 30) 1) [] [] 8 (o1 (And.intro (Nat.le_refl v7.1.Sizes.length) (And.intro (Nat.le_refl v7.1.Gain.length) (And.intro (Nat.le_refl v7.1.Chip.length) (Nat.le_refl v7.1.Dust.length))))) rfl (cutting_Best_ok (Line.mk v7.1.Len v7.1.Kerf v7.1.Pitch v7.1.Sizes v7.1.Gain v7.1.Chip v7.1.Dust) v10 h11) (.inr ⟨(by kernel_rfl),qED v10⟩) (by kernel_rfl))] 8 [15,16,37] [(16,vi v10.2.2),(17,vo 8 0 2 v10.1.length),(18,vi v10.2.1)] [3,4,5,6,7] [(8,ro 0 92 2 v10.1.length (rf jA v10.1))] ?_
  refine q_sq ?_;refine s_vu [] 9 [] [(46,vb (v10.2.2 !=0))] [] [] ?_;refine q_cm hm (λb12 hm=>?_) (λb12 hm=>?_)
  ·refine s_vn [] 9 ⟨[(12,vc (.emp)),(13,vi 0),(14,vi v10.2.2)],[]⟩ ?_;refine q_fn [.own 12 9 65 2 (rf e_Node ([]:List Node))] ⟨[(12,vo 9 0 2 0),(13,vi 0),(14,vi v10.2.2)],[(9,ro 0 65 2 0 (rf e_Node ([]:List Node)))]⟩ o0 ?_;refine q_fn [.len 9 (([]:List Node).length)] ⟨[(12,vo 9 0 2 (([]:List Node).length)),(13,vi 0),(14,vi v10.2.2)],[(9,ro 0 65 2 (([]:List Node).length) (rf e_Node ([]:List Node)))]⟩ (o1 (And.intro (show 0=([]:List Node).length from rfl) (show 0=([]:List Node).length from rfl))) ?_;obtain rfl:=oi hm;refine qV 9 0 (by kernel_rfl) ?_;refine q_rt ?_;exact q_rm
  ·refine q_sk ?_;obtain⟨v13,h14,hm⟩:=qA hm;refine s_vu [qc 8 [49,56] 9 (qAJ a3 (w64 (a4.Y.B-a4.Y.A)) v13 h14)] 9 [2,16,46] [(19,vo 9 0 1 v13.1.length),(20,vo 10 0 1 v13.2.length)] [] [(9,ro 0 3 1 v13.1.length (rf e_i64 v13.1)),(10,ro 0 3 1 v13.2.length (rf e_i64 v13.2))] ?_;refine s_vu [] 11 [] [(21,vc (.emp))] [] [] ?_;refine s_vu [] 11 [] [(22,vc (.emp))] [] [] ?_;refine q_sq ?_;refine s_vu [] 11 [17] [(60,vo 8 0 2 v10.1.length),(61,vi ((v10.1.length:Nat):Int)),(62,vi 0)] [] [] ?_
   refine q_fn [.own 21 11 31 2 (rf e_Span ([]:List Span))] ⟨[(9,vp 0 0),(10,vp 1 0),(18,vi v10.2.1),(19,vo 9 0 1 v13.1.length),(20,vo 10 0 1 v13.2.length),(21,vo 11 0 2 0),(22,vc (.emp)),(60,vo 8 0 2 v10.1.length),(61,vi ((v10.1.length:Nat):Int)),(62,vi 0)],[(0,bx 33 (qD a4)),(1,bx 38 (qQ a5)),(8,ro 0 92 2 v10.1.length (rf jA v10.1)),(9,ro 0 3 1 v13.1.length (rf e_i64 v13.1)),(10,ro 0 3 1 v13.2.length (rf e_i64 v13.2)),(11,ro 0 31 2 0 (rf e_Span ([]:List Span)))]⟩ o0 ?_
   refine q_fn [.own 22 12 44 1 (rf (qE e_Node) ([]:List (List Node)))] ⟨[(9,vp 0 0),(10,vp 1 0),(18,vi v10.2.1),(19,vo 9 0 1 v13.1.length),(20,vo 10 0 1 v13.2.length),(21,vo 11 0 2 0),(22,vo 12 0 1 0),(60,vo 8 0 2 v10.1.length),(61,vi ((v10.1.length:Nat):Int)),(62,vi 0)],[(0,bx 33 (qD a4)),(1,bx 38 (qQ a5)),(8,ro 0 92 2 v10.1.length (rf jA v10.1)),(9,ro 0 3 1 v13.1.length (rf e_i64 v13.1)),(10,ro 0 3 1 v13.2.length (rf e_i64 v13.2)),(11,ro 0 31 2 0 (rf e_Span ([]:List Span))),(12,ro 0 44 1 0 (rf (qE e_Node) ([]:List (List Node))))]⟩ o0 ?_;obtain⟨o29,h30,hm⟩:=qA hm
   refine zL (nd Tryz.f148 8180) 0 (by kernel_rfl) FUEL (λo=>qEi a4 a5 v10 o.1 o.2) o29 (q_hl (OD a4 a5 v10 v13 ([]:List Span) 0 ([]:List (List Node)) 0 0) (qKc E a4 a5 v10 v13 FUEL ([]:List Span) 0 ([]:List (List Node)) 0 0 o29 rfl rfl h30)) ?_;obtain⟨v31,h32,hm⟩:=qA hm
   refine s_vn [qd 5 (dex (cen [] [] 13 0 (KY v31) (ZQ v31) [93,95,96,97] [11,12])) (wM (K:=(kx E 106 0)) (b:=false) ⟨[(93,va (qD a4)),(95,vi a5.Kerf),(96,vo 11 0 2 o29.1.length),(97,vo 12 0 1 o29.2.length)],[(11,ro 0 31 2 o29.1.length (rf e_Span o29.1)),(12,ro 0 44 1 o29.2.length (rf (qE e_Node) o29.2))]⟩ (opAt (rg Tryz.f148 2046) 5) [] [] 13 (o1 (And.intro (Nat.le_refl o29.1.length) (Nat.le_refl o29.2.length))) rfl (pattern_Row_ok a4 2 a5.Kerf o29.1 o29.2 v31 h32) (.inr ⟨(by kernel_rfl),qAO v31⟩) (by kernel_rfl))] 13 ⟨[(16,vi v31.2),(18,vi v10.2.1),(25,vo 13 0 2 v31.1.length)],[(13,ro 0 65 2 v31.1.length (rf e_Node v31.1))]⟩ ?_
   refine q_sq ?_;refine s_vu [] 14 [] [(102,vb (v31.2 !=0))] [] [] ?_;refine q_cm hm (λb33 hm=>?_) (λb33 hm=>?_)
   ·refine s_vn [] 14 ⟨[(12,vc (.emp)),(13,vi 0),(14,vi v31.2)],[]⟩ ?_;refine q_fn [.own 12 14 65 2 (rf e_Node ([]:List Node))] ⟨[(12,vo 14 0 2 0),(13,vi 0),(14,vi v31.2)],[(14,ro 0 65 2 0 (rf e_Node ([]:List Node)))]⟩ o0 ?_;refine q_fn [.len 14 (([]:List Node).length)] ⟨[(12,vo 14 0 2 (([]:List Node).length)),(13,vi 0),(14,vi v31.2)],[(14,ro 0 65 2 (([]:List Node).length) (rf e_Node ([]:List Node)))]⟩ (o1 (And.intro (show 0=([]:List Node).length from rfl) (show 0=([]:List Node).length from rfl))) ?_;obtain rfl:=oi hm;refine qV 14 0 (by kernel_rfl) ?_;refine q_rt ?_;exact q_rm
   ·refine q_sk ?_;refine s_vu [] 14 [16,18,25,102] [(12,vo 13 0 2 v31.1.length),(13,vi v10.2.1),(14,vi 0)] [] [] ?_;obtain rfl:=oi hm;refine qV 13 0 (by kernel_rfl) ?_;refine q_rt ?_;exact q_rm
def qHI (r:Bool):V:=vb r
def qHu (r:Bool):List (Nat×(Nat×O)):=[]
theorem qGD (a1:Node) (r:Bool) (hm:DG a1=some r):CtX Tryz.prog globs 190 0 0 [.agg (e_Node a1)] [] (qHI r) (qHu r):=by
 unfold DG at hm;refine q_E Tryz.f190 6 λE=>?_;refine s_vn [] 0 ⟨[(1,vp 0 0)],[(0,bx 65 (e_Node a1))]⟩ ?_;refine s_vn [] 1 ⟨[(2,vb (a1.Kind==1))],[]⟩ ?_;obtain rfl:=oi hm;refine q_rt ?_;exact q_rm
def XZ (r:Int):V:=vi r
def KB (r:Int):List (Nat×(Nat×O)):=[]
def JJ (a1:List Node) (x2:Int):St:=
 ⟨[(0,vc (tl e_Node default a1)),(1,vc (.fn 190 [])),(7,vi ((a1.length:Nat):Int)),(8,vi x2)],[]⟩
def UN :St:=
 ⟨[],[]⟩
theorem IU (E:Env 0) (a1:List Node):∀(n:Nat) (x2:Int) (res:Int⊕Unit),wW a1 n x2=some res->HL (kx E 19 0) (nd Tryz.f212 52) (wP 0 (λo=>UN) (λv st=>RetQ Tryz.prog Tryz.f212 (XZ v) (KB v) .ret st) res) n (JJ a1 x2):=by
 intro n
 induction n with
 |zero=>
  intro x2 res hm;cases hm
 |succ n ih=>
  intro x2 res hm;refine qO ?_;refine s_vu [] 0 [] [(9,vb (decide (x2<((a1.length:Nat):Int))))] [] [] ?_;refine q_sq ?_;refine q_cm hm (λb3 hm=>?_) (λb3 hm=>?_)
  ·refine q_sk ?_;refine q_sq ?_;refine q_bk 1 ?_;refine s_vu [] 0 [9] [(5,vi x2)] [] [] ?_;obtain⟨g4,hm⟩:=qI hm;obtain⟨v5,h6,hm⟩:=qA hm;refine s_vu [qd 3 (Dir.none) (inb_of g4),qk 5 [11,15] 0 ⟨[(11,vc (.fn 190 [])),(15,va [ci ((a1.getD x2.toNat default).Kind),ci ((a1.getD x2.toNat default).At)])],[]⟩ (qGD (a1.getD x2.toNat default) v5 h6)] 0 [] [(16,vb v5)] [] [] ?_;refine q_cm hm (λb7 hm=>?_) (λb7 hm=>?_)
   ·refine s_vn [] 0 ⟨[(4,vi x2)],[]⟩ ?_;obtain rfl:=oi hm;refine q_rt ?_;refine qZ x2 ?_;exact q_rm
   ·refine q_sk ?_;refine q_vu [] 0 [5,8,16] [(8,vi (w64 (x2+1)))] [] [] ?_;exact q_hl (JJ a1 (w64 (x2+1))) (ih (w64 (x2+1)) _ hm)
  ·refine q_ex 0 ?_;obtain rfl:=oi hm;exact wV () (by kernel_rfl) (by kernel_rfl)
theorem qBF (a1:List Node) (r:Int) (hm:JB a1=some r):CtX Tryz.prog globs 212 0 0 [.one (tl e_Node default a1),.one (.fn 190 [])] [] (XZ r) (KB r):=by
 unfold JB at hm;refine q_E Tryz.f212 19 λE=>?_;refine s_vn [] 0 ⟨[(0,vc (tl e_Node default a1)),(1,vc (.fn 190 []))],[]⟩ ?_;refine q_sq ?_;refine s_vu [] 0 [] [(7,vi ((a1.length:Nat):Int)),(8,vi 0)] [] [] ?_;obtain⟨u10,h9,hm⟩:=qA hm;refine zO (nd Tryz.f212 52) 0 (by kernel_rfl) FUEL (λo=>UN) (λv st=>RetQ Tryz.prog Tryz.f212 (XZ v) (KB v) .ret st) u10 (q_hl (JJ a1 0) (IU E a1 FUEL 0 u10 h9)) ?_ ?_
 ·rintro v11 rfl st hr;obtain rfl:=oi hm;exact hr
 ·rintro o8 rfl;replace hm:_=some r:=hm;refine s_vn [] 0 ⟨[(4,vi (-1))],[]⟩ ?_;obtain rfl:=oi hm;refine q_rt ?_;exact q_rm
def qAb (r:Bool):V:=vb r
def qAf (r:Bool):List (Nat×(Nat×O)):=[]
theorem OQ (a1:List Node) (r:Bool) (hm:QO a1=some r):CtX Tryz.prog globs 189 0 0 [.one (tl e_Node default a1),.one (.fn 190 [])] [] (qAb r) (qAf r):=by
 unfold QO at hm;refine q_E Tryz.f189 9 λE=>?_;refine s_vn [] 0 ⟨[(0,vc (tl e_Node default a1)),(1,vc (.fn 190 []))],[]⟩ ?_;obtain⟨v2,h3,hm⟩:=qA hm;refine s_vn [qc 2 [5,6] 0 (qBF a1 v2 h3)] 0 ⟨[(4,vb (decide (v2≥0)))],[]⟩ ?_;obtain rfl:=oi hm;refine q_rt ?_;exact q_rm
def qDe (r:Bool):V:=vb r
def DM (r:Bool):List (Nat×(Nat×O)):=[]
theorem qJ1 (r:Bool):jT (DM r):=by
 intro i k o h;unfold DM at h;cases h
theorem qIe (a1:List Node) (r:Bool) (hm:GK a1=some r):CtX Tryz.prog globs 149 0 0 [.one (tl e_Node default a1)] [] (qDe r) (DM r):=by
 unfold GK at hm;refine q_E Tryz.f149 5 λE=>?_;refine s_vn [] 0 ⟨[(0,vc (tl e_Node default a1))],[]⟩ ?_;obtain⟨v2,h3,hm⟩:=qA hm;refine s_vn [qk 1 [3] 0 ⟨[(3,vc (tl e_Node default a1))],[]⟩ (OQ a1 v2 h3)] 0 ⟨[(2,vb v2)],[]⟩ ?_;obtain rfl:=oi hm;refine q_rt ?_;exact q_rm
def qMT (r:Int):V:=vi r
def qML (r:Int):List (Nat×(Nat×O)):=[]
theorem qEB (a1:List qB) (a2:Rect) (r:Int) (hm:GV a1 a2=some r):CtX Tryz.prog globs 91 0 0 [.one (tl qG default a1),.agg (qD a2)] [] (qMT r) (qML r):=by
 unfold GV at hm;refine q_E Tryz.f91 15 λE=>?_;refine s_vn [] 0 ⟨[(0,vc (tl qG default a1)),(3,vp 0 0)],[(0,bx 33 (qD a2))]⟩ ?_;obtain⟨v3,h4,hm⟩:=qA hm;obtain⟨v5,h6,hm⟩:=qA hm;refine s_dn [qc 6 [10] 1 (JW a1 v3 h4),qc 9 [5,13] 1 (YA a1 (Box.mk a2.X a2.Y (Span.mk 0 v3)) v5 h6)] [0,0,2,0,8,0,32,96,254,511,1023] 1 ⟨[(4,vi v5)],[]⟩ ?_;obtain rfl:=oi hm;refine q_rt ?_;exact q_rm
def CV (a1:List Int) (r:List Int):V:= .undef
def qAy (a1:List Int) (r:List Int):List (Nat×(Nat×O)):=[(0,ro 0 3 1 r.length (rf e_i64 r))]
theorem lfA {α:Type} {o:Option α} {a b:α} (h:o=some a) (e:a=b:=by kernel_rfl):o=some b:=h.trans (congrArg some e)
def slices_Sort_Si64_lay_ren :Go.Shelf.Ren:=⟨fun |189=>32|125=>78|257=>77|128=>140|129=>141|294=>131|295=>132|296=>133|297=>134|298=>135|299=>136|216=>137|300=>138|301=>139|328=>179|329=>180|330=>181|331=>182|332=>183|215=>184|343=>207|n=>n,fun |28=>28|3=>3|46=>142|0=>0|51=>201|53=>178|4=>4|183=>194|182=>193|131=>135|5=>5|9=>9|218=>234|222=>238|228=>252|229=>75|n=>n,fun n=>n⟩
theorem slices_Sort_Si64_lay : Go.Proofs.Lays.n189 Tryz.prog slices_Sort_Si64_lay_ren :={mixed:=by kernel_rfl,f125:=lfA Tryz.func78,f128:=lfA Tryz.func140,f129:=lfA Tryz.func141,f189:=lfA Tryz.func32,f215:=lfA Tryz.func184,f216:=lfA Tryz.func137,f257:=lfA Tryz.func77,f294:=lfA Tryz.func131,f295:=lfA Tryz.func132,f296:=lfA Tryz.func133,f297:=lfA Tryz.func134,f298:=lfA Tryz.func135,f299:=lfA Tryz.func136,f300:=lfA Tryz.func138,f301:=lfA Tryz.func139,f328:=lfA Tryz.func179,f329:=lfA Tryz.func180,f330:=lfA Tryz.func181,f331:=lfA Tryz.func182,f332:=lfA Tryz.func183,f343:=lfA Tryz.func207,t0:=Tryz.underlying0,a0:=Tryz.isAgg0,z0:=Tryz.sizeOf0,v0:=Tryz.zeroValue0,t3:=Tryz.underlying3,a3:=Tryz.isAgg3,z3:=Tryz.sizeOf3,v3:=Tryz.zeroValue3,t4:=Tryz.underlying4,a4:=Tryz.isAgg4,z4:=Tryz.sizeOf4,v4:=Tryz.zeroValue4,t5:=Tryz.underlying5,a5:=Tryz.isAgg5,z5:=Tryz.sizeOf5,v5:=Tryz.zeroValue5,t9:=Tryz.underlying9,a9:=Tryz.isAgg9,z9:=Tryz.sizeOf9,v9:=Tryz.zeroValue9,t28:=Tryz.underlying28,a28:=Tryz.isAgg28,z28:=Tryz.sizeOf28,v28:=Tryz.zeroValue28,t46:=Tryz.underlying142,a46:=Tryz.isAgg142,z46:=Tryz.sizeOf142,v46:=Tryz.zeroValue142,t51:=Tryz.underlying201,a51:=Tryz.isAgg201,z51:=Tryz.sizeOf201,v51:=Tryz.zeroValue201,t53:=Tryz.underlying178,a53:=Tryz.isAgg178,z53:=Tryz.sizeOf178,v53:=Tryz.zeroValue178,t131:=Tryz.underlying135,a131:=Tryz.isAgg135,z131:=Tryz.sizeOf135,v131:=Tryz.zeroValue135,t182:=Tryz.underlying193,a182:=Tryz.isAgg193,z182:=Tryz.sizeOf193,v182:=Tryz.zeroValue193,t183:=Tryz.underlying194,a183:=Tryz.isAgg194,z183:=Tryz.sizeOf194,v183:=Tryz.zeroValue194,t218:=Tryz.underlying234,a218:=Tryz.isAgg234,z218:=Tryz.sizeOf234,v218:=Tryz.zeroValue234,t222:=Tryz.underlying238,a222:=Tryz.isAgg238,z222:=Tryz.sizeOf238,v222:=Tryz.zeroValue238,t228:=Tryz.underlying252,a228:=Tryz.isAgg252,z228:=Tryz.sizeOf252,v228:=Tryz.zeroValue252,t229:=Tryz.underlying75,a229:=Tryz.isAgg75,z229:=Tryz.sizeOf75,v229:=Tryz.zeroValue75}
theorem qFP (a1:List Int) (r:List Int) (hm:UU a1=some r):CtX Tryz.prog globs 32 1 1 [.one (.own 0 0 1 a1.length)] [(0,ro 0 3 1 a1.length (rf e_i64 a1))] (CV a1 r) (qAy a1 r):=by
 unfold UU at hm;obtain⟨g1,hm⟩:=qI hm;obtain rfl:=oi hm;exact qSp (gl:=globs) slices_Sort_Si64_lay 3 a1 (by simpa using g1)
def YC (a1:List Int) (r:(List Int)×(List Int)):V:=vo 0 0 1 r.2.length
def JR (a1:List Int) (r:(List Int)×(List Int)):List (Nat×(Nat×O)):=[(0,ro 0 3 1 r.2.length (rf e_i64 r.2))]
def BB (l3:List Int) (x4:Int) (x12:Int) (l19:List Int) (l19n:Nat) (x20:Int):St:=
 ⟨[(0,vo 0 0 1 l19n),(3,vi x20),(4,vc (.sub 0 0 1 x4.toNat (l3.length-x4.toNat))),(5,vi x12)],[(0,ro 0 3 1 l19n (rf e_i64 l19))]⟩
def XM (l3:List Int) (x4:Int) (l10:List Int) (l10n:Nat) (x11:Int) (x12:Int):St:=
 ⟨[(0,vo 0 0 1 l10n),(3,vi x11),(4,vc (.sub 0 0 1 x4.toNat (l3.length-x4.toNat))),(5,vi x12)],[(0,ro 0 3 1 l10n (rf e_i64 l10))]⟩
def BK (l21:List Int) (x22:Int):St:=
 ⟨[(0,vo 0 0 1 l21.length),(3,vi x22)],[(0,ro 0 3 1 l21.length (rf e_i64 l21))]⟩
def XV (l3:List Int) (l3n:Nat) (x4:Int):St:=
 ⟨[(0,vo 0 0 1 l3n),(3,vi x4)],[(0,ro 0 3 1 l3n (rf e_i64 l3))]⟩
def NC (l27:List Int):St:=
 ⟨[(0,vo 0 0 1 l27.length)],[(0,ro 0 3 1 l27.length (rf e_i64 l27))]⟩
theorem qBK (E:Env 1) (l3:List Int) (x4:Int):∀(n:Nat) (l10:List Int) (l10n:Nat) (x11:Int) (x12:Int) (res:(List Int)×Int),l10.length=l10n->wD l3 x4 n l10 x11 x12=some res->HL (kx E 61 1) (nd Tryz.f33 119380) (zR 2 (λo=>BK o.1 o.2) res) n (XM l3 x4 l10 l10n x11 x12):=by
 intro n
 induction n with
 |zero=>
  intro l10 l10n x11 x12 res hl0 hm;cases hm
 |succ n ih=>
  intro l10 l10n x11 x12 res hl0 hm;subst hl0;refine qO ?_;refine q_sq ?_;refine s_vu [] 1 [] [(32,vb (decide (x12<(((l3.length-x4.toNat):Nat):Int))))] [] [] ?_;refine q_cm hm (λb13 hm=>?_) (λb13 hm=>?_)
  ·refine q_sk ?_;refine q_jn (ι:=(List Int)×Nat×Int) (λp=>BB l3 x4 x12 p.1 p.2.1 p.2.2) (λp=>p.1.length=p.2.1/\JD x12 (wD l3 x4 n) p.1 p.2.2=some res) ?_ ?_
   ·rintro⟨l19,l19n,x20⟩ ⟨el19,hm⟩;replace el19:l19.length=l19n:=el19;subst el19;show H _ (BB l3 x4 x12 l19 l19.length x20) _ _;refine q_vu [] 1 [5] [(5,vi (w64 (x12+1)))] [] [] ?_;exact q_hl (XM l3 x4 l19 l19.length x20 (w64 (x12+1))) (ih l19 l19.length x20 (w64 (x12+1)) _ rfl hm)
   ·refine q_bk 3 ?_;obtain⟨g14,hm⟩:=qI hm;obtain⟨g15,hm⟩:=qI hm;obtain⟨g16,hm⟩:=qI hm;refine s_du [qd 2 (Dir.none) (inb_of g14),qd 3 (Dir.none) (Nat.lt_of_lt_of_le (Nat.add_lt_add_left (toNat_lt (inb_of g14)) x4.toNat) (Nat.le_of_ble_eq_true g15)),qd 7 (Dir.none) (inb_of g16),qd 8 (Dir.none) (Nat.lt_of_lt_of_le (Nat.add_lt_add_left (toNat_lt (inb_of g16)) x4.toNat) (Nat.le_of_ble_eq_true g15))] [0,0,3,7,0,0,32,112,240,511] 1 [32] [(44,vb ((l10.getD (x4.toNat+x12.toNat) default) !=(l10.getD (x4.toNat+((w64 (x12-1)).toNat)) default)))] [] [] ?_;refine q_cm hm (λb17 hm=>?_) (λb17 hm=>?_)
    ·obtain⟨g18,hm⟩:=qI hm;refine s_vu [qd 4 (Dir.none) (inb_of g14),qd 5 (Dir.none) (Nat.lt_of_lt_of_le (Nat.add_lt_add_left (toNat_lt (inb_of g14)) x4.toNat) (Nat.le_of_ble_eq_true g15)),qd 6 (Dir.none) (inb_of g18),qd 7 (drw 0 0 (rf e_i64 (l10.set x11.toNat (l10.getD (x4.toNat+x12.toNat) default)))) (stP e_i64 default (l10.getD (x4.toNat+x12.toNat) default) l10 l10.length x11.toNat 0 [ci (l10.getD (x4.toNat+x12.toNat) default)] rfl (toNat_lt (inb_of g18)) rfl)] 1 [44] [] [0] [(0,ro 0 3 1 l10.length (rf e_i64 (l10.set x11.toNat (l10.getD (x4.toNat+x12.toNat) default))))] ?_
     refine q_vu [] 1 [3] [(3,vi (w64 (x11+1)))] [] [] ?_;exact q_J ((l10.set x11.toNat (l10.getD (x4.toNat+x12.toNat) default)),l10.length,w64 (x11+1)) ⟨(len_set rfl),hm⟩
    ·refine q_sk ?_;exact q_J (l10,l10.length,x11) ⟨rfl,hm⟩
  ·refine q_ex 2 ?_;obtain rfl:=oi hm;exact wJ (by kernel_rfl) (by kernel_rfl)
theorem qBy (E:Env 1) (a1:List Int):∀(n:Nat) (l3:List Int) (l3n:Nat) (x4:Int) (res:((List Int)×(List Int))⊕(List Int)),l3.length=l3n->jP n l3 x4=some res->HL (kx E 61 1) (nd Tryz.f33 116) (wP 0 (λo=>NC o) (λv st=>RetQ Tryz.prog Tryz.f33 (YC a1 v) (JR a1 v) .ret st) res) n (XV l3 l3n x4):=by
 intro n
 induction n with
 |zero=>
  intro l3 l3n x4 res hl0 hm;cases hm
 |succ n ih=>
  intro l3 l3n x4 res hl0 hm;subst hl0;refine qO ?_;refine q_sq ?_;refine s_vu [] 1 [] [(13,vb (decide (x4<((l3.length:Nat):Int))))] [] [] ?_;refine q_cm hm (λb5 hm=>?_) (λb5 hm=>?_)
  ·refine q_sk ?_;refine q_sq ?_;refine q_bk 1 ?_;obtain⟨g6,hm⟩:=qI hm;obtain⟨g7,hm⟩:=qI hm;refine s_du [qd 2 (Dir.none) (inb_of g6),qd 3 (Dir.none) (toNat_lt (inb_of g6)),qd 7 (Dir.none) (inb_of g7),qd 8 (Dir.none) (toNat_lt (inb_of g7))] [0,0,3,7,0,0,32,112,240,511] 1 [13] [(25,vb ((l3.getD x4.toNat default)==(l3.getD ((w64 (x4-1)).toNat) default)))] [] [] ?_;refine q_cm hm (λb8 hm=>?_) (λb8 hm=>?_)
   ·obtain⟨g9,hm⟩:=qI hm;refine s_vu [qd 2 (Dir.none) (And.intro (slOk_of g9).1 (slOk_of g9).2.1)] 1 [25] [(4,vc (.sub 0 0 1 x4.toNat (l3.length-x4.toNat)))] [] [] ?_;refine q_sq ?_;refine s_vu [] 1 [] [(5,vi 1)] [] [] ?_;obtain⟨o23,h24,hm⟩:=qA hm;refine zL (nd Tryz.f33 119380) 2 (by kernel_rfl) FUEL (λo=>BK o.1 o.2) o23 (q_hl (XM l3 x4 l3 l3.length x4 1) (qBK E l3 x4 FUEL l3 l3.length x4 1 o23 rfl h24)) ?_;obtain⟨g25,hm⟩:=qI hm
    refine s_wu [qd 2 (Dir.none) (And.intro (slOk_of g25).1 (slOk_of g25).2.1),qd 3 (drw 0 0 (rf e_i64 o23.1)) (show o23.2.toNat+(o23.1.length-o23.2.toNat)<=o23.1.length by have:=(slOk_of g25);omega)] [.row 0 o23.2.toNat (rf e_i64 (o23.1.take o23.2.toNat))] (o1 (tkP e_i64 default o23.1 o23.2.toNat o23.2.toNat (Nat.le_refl _))) 1 [] [] [0] [(0,ro 0 3 1 o23.2.toNat (rf e_i64 (o23.1.take o23.2.toNat)))] ?_;obtain⟨g26,hm⟩:=qI hm;refine s_vu [qd 2 (Dir.none) (And.intro (slOk_of g26).2.1 (slOk_of g26).2.2)] 1 [0,3] [(2,vo 0 0 1 o23.2.toNat)] [] [] ?_
    refine q_fn [.len 0 ((o23.1.take o23.2.toNat).length)] ⟨[(2,vo 0 0 1 ((o23.1.take o23.2.toNat).length))],[(0,ro 0 3 1 ((o23.1.take o23.2.toNat).length) (rf e_i64 (o23.1.take o23.2.toNat)))]⟩ (o1 (And.intro (Eq.symm (show(o23.1.take o23.2.toNat).length=o23.2.toNat from(len_take rfl (Nat.le_trans (Nat.le_add_right _ _) (show o23.2.toNat+(o23.1.length-o23.2.toNat)<=o23.1.length by have:=(slOk_of g25);omega))))) (Eq.symm (show(o23.1.take o23.2.toNat).length=o23.2.toNat from(len_take rfl (Nat.le_trans (Nat.le_add_right _ _) (show o23.2.toNat+(o23.1.length-o23.2.toNat)<=o23.1.length by have:=(slOk_of g25);omega))))))) ?_
    obtain rfl:=oi hm;refine q_rt ?_;refine qZ ((o23.1.take o23.2.toNat),(o23.1.take o23.2.toNat)) ?_;exact q_rm
   ·refine q_sk ?_;refine q_vu [] 1 [3,25] [(3,vi (w64 (x4+1)))] [] [] ?_;exact q_hl (XV l3 l3.length (w64 (x4+1))) (ih l3 l3.length (w64 (x4+1)) _ rfl hm)
  ·refine q_ex 0 ?_;obtain rfl:=oi hm;exact wV l3 (by kernel_rfl) (by kernel_rfl)
theorem qD5 (a1:List Int) (r:(List Int)×(List Int)) (hm:WB a1=some r):CtX Tryz.prog globs 33 1 1 [.one (.own 0 0 1 a1.length)] [(0,ro 0 3 1 a1.length (rf e_i64 a1))] (YC a1 r) (JR a1 r):=by
 unfold WB at hm;refine q_E Tryz.f33 61 λE=>?_;refine s_vn [] 1 ⟨[(0,vo 0 0 1 a1.length)],[(0,ro 0 3 1 a1.length (rf e_i64 a1))]⟩ ?_;refine q_sq ?_;refine s_vu [] 1 [] [(8,vb (decide (((a1.length:Nat):Int)<2)))] [] [] ?_;refine q_cm hm (λb2 hm=>?_) (λb2 hm=>?_)
 ·refine s_vu [] 1 [0,8] [(2,vo 0 0 1 a1.length)] [] [] ?_;obtain rfl:=oi hm;refine q_rt ?_;exact q_rm
 ·refine q_sk ?_;refine q_sq ?_;refine s_vu [] 1 [8] [(3,vi 1)] [] [] ?_;obtain⟨u30,h29,hm⟩:=qA hm;refine zO (nd Tryz.f33 116) 0 (by kernel_rfl) FUEL (λo=>NC o) (λv st=>RetQ Tryz.prog Tryz.f33 (YC a1 v) (JR a1 v) .ret st) u30 (q_hl (XV a1 a1.length 1) (qBy E a1 FUEL a1 a1.length 1 u30 rfl h29)) ?_ ?_
  ·rintro v31 rfl st hr;obtain rfl:=oi hm;exact hr
  ·rintro o28 rfl;replace hm:_=some r:=hm;refine s_vu [] 1 [0] [(2,vo 0 0 1 o28.length)] [] [] ?_;obtain rfl:=oi hm;refine q_rt ?_;exact q_rm
def qEy (r:(List Int)):V:=vo 0 0 1 r.length
def FJ (r:(List Int)):List (Nat×(Nat×O)):=[(0,ro 0 3 1 r.length (rf e_i64 r))]
theorem qLu (r:(List Int)):jT (FJ r):=by
 intro i k o h;unfold FJ at h;rw[look_cons] at h;split at h
 ·cases h;exact λ_ _=>rfl
 ·cases h
def LI (a1:List Product) (l5:List Int) (l5n:Nat) (x6:Int):St:=
 ⟨[(3,vo 0 0 1 l5n),(11,vc (tl qC default a1)),(12,vi ((a1.length:Nat):Int)),(13,vi x6)],[(0,ro 0 3 1 l5n (rf e_i64 l5))]⟩
def qAZ (l12:List Int):St:=
 ⟨[(3,vo 0 0 1 l12.length)],[(0,ro 0 3 1 l12.length (rf e_i64 l12))]⟩
theorem qGT (E:Env 0) (a1:List Product):∀(n:Nat) (l5:List Int) (l5n:Nat) (x6:Int) (res:(List Int)),l5.length=l5n->JU a1 n l5 x6=some res->HL (kx E 32 0) (nd Tryz.f14 244) (zR 0 (λo=>qAZ o) res) n (LI a1 l5 l5n x6):=by
 intro n
 induction n with
 |zero=>
  intro l5 l5n x6 res hl0 hm;cases hm
 |succ n ih=>
  intro l5 l5n x6 res hl0 hm;subst hl0;refine qO ?_;refine s_vu [] 1 [] [(14,vb (decide (x6<((a1.length:Nat):Int))))] [] [] ?_;refine q_sq ?_;refine q_cm hm (λb7 hm=>?_) (λb7 hm=>?_)
  ·refine q_sk ?_;refine q_sq ?_;refine q_bk 1 ?_;obtain⟨g8,hm⟩:=qI hm;refine s_vu [qd 0 (Dir.none) (inb_of g8)] 1 [14] [(5,vp 1 0)] [] [(1,bx 54 [cs ((a1.getD x6.toNat default).Name),ci ((a1.getD x6.toNat default).Thick),ci ((a1.getD x6.toNat default).Width),ci ((a1.getD x6.toNat default).Allow),ci ((a1.getD x6.toNat default).Wane),tl e_i64 default ((a1.getD x6.toNat default).Lengths),tl e_i64 default ((a1.getD x6.toNat default).Prices)])] ?_;obtain⟨v9,h10,hm⟩:=qA hm;refine s_vu [qc 1 [18] 2 (KC (a1.getD x6.toNat default) v9 h10)] 2 [5] [(6,vi v9.1),(7,vi v9.2)] [1] [] ?_
   obtain⟨g11,hm⟩:=qI hm;refine q_vu [qd 3 (drw 2 0 (rf e_i64 ([v9.1,v9.2]:List Int))) (litP e_i64 default 1 (λ_=>rfl) ([v9.1,v9.2]:List Int) 2 rfl),qd 4 (drw 0 1 (rf e_i64 (l5++([v9.1,v9.2]:List Int)))) (apP e_i64 default l5 ([v9.1,v9.2]:List Int) l5.length 2 1 8 (2<=2) (Nat.le_refl _) rfl rfl (λ_=>rfl) (zG g11))] 2 [3,6,7] [(3,vo 0 1 1 (l5.length+2))] [0] [(0,ro 1 3 1 (l5.length+2) (rf e_i64 (l5++([v9.1,v9.2]:List Int))))] ?_;refine q_vu [] 3 [13] [(13,vi (w64 (x6+1)))] [] [] ?_
   exact q_hl (LI a1 (l5++([v9.1,v9.2]:List Int)) (l5.length+2) (w64 (x6+1))) (ih (l5++([v9.1,v9.2]:List Int)) (l5.length+2) (w64 (x6+1)) _ (len_app rfl rfl) hm)
  ·refine q_ex 0 ?_;obtain rfl:=oi hm;exact wJ (by kernel_rfl) (by kernel_rfl)
theorem AQ (a1:List Product) (r:(List Int)) (hm:JK a1=some r):CtX Tryz.prog globs 14 0 0 [.one (tl qC default a1)] [] (qEy r) (FJ r):=by
 unfold JK at hm;refine q_E Tryz.f14 32 λE=>?_;refine s_vn [] 0 ⟨[(0,vc (tl qC default a1))],[]⟩ ?_;refine q_sq ?_;obtain⟨v2,h3,hm⟩:=qA hm;refine s_vu [qc 1 [8] 0 (wT a1 v2 h3)] 0 [] [(10,vb (v2 !=0))] [] [] ?_;refine q_cm hm (λb4 hm=>?_) (λb4 hm=>?_)
 ·refine s_vn [] 0 ⟨[(2,vc (.emp))],[]⟩ ?_;refine q_fn [.own 2 0 3 1 (rf e_i64 ([]:List Int))] ⟨[(2,vo 0 0 1 0)],[(0,ro 0 3 1 0 (rf e_i64 ([]:List Int)))]⟩ o0 ?_;refine q_fn [.len 0 (([]:List Int).length)] ⟨[(2,vo 0 0 1 (([]:List Int).length))],[(0,ro 0 3 1 (([]:List Int).length) (rf e_i64 ([]:List Int)))]⟩ (o1 (And.intro (show 0=([]:List Int).length from rfl) (show 0=([]:List Int).length from rfl))) ?_;obtain rfl:=oi hm;refine q_rt ?_;exact q_rm
 ·refine q_sk ?_;refine s_vu [] 0 [10] [(3,vc (.emp))] [] [] ?_;refine q_sq ?_;refine s_vu [] 0 [0] [(11,vc (tl qC default a1)),(12,vi ((a1.length:Nat):Int)),(13,vi 0)] [] [] ?_;refine q_fn [.own 3 0 3 1 (rf e_i64 ([]:List Int))] ⟨[(3,vo 0 0 1 0),(11,vc (tl qC default a1)),(12,vi ((a1.length:Nat):Int)),(13,vi 0)],[(0,ro 0 3 1 0 (rf e_i64 ([]:List Int)))]⟩ o0 ?_;obtain⟨o13,h14,hm⟩:=qA hm;refine zL (nd Tryz.f14 244) 0 (by kernel_rfl) FUEL (λo=>qAZ o) o13 (q_hl (LI a1 ([]:List Int) 0 0) (qGT E a1 FUEL ([]:List Int) 0 0 o13 rfl h14)) ?_;obtain⟨v15,h16,hm⟩:=qA hm;obtain⟨g17,hm⟩:=qI hm
  refine s_wu [qd 1 (dex (cen [(0,0)] [0] 0 1 (CV o13 v15) (qAy o13 v15) [28] [0])) (wM (K:=(kx E 32 0)) ⟨[(28,vo 0 0 1 o13.length)],[(0,ro 0 3 1 o13.length (rf e_i64 o13))]⟩ (opAt (rg Tryz.f14 62) 1) [(0,0)] [0] 0 o0 rfl (qFP o13 v15 h16) (.inl rfl) (by kernel_rfl))] [.len 0 o13.length] (o1 (And.intro (And.intro (Eq.refl o13.length) (Eq.refl o13.length)) (And.intro (of_beq g17) (Eq.refl o13.length)))) 1 [] [] [0] [(0,ro 0 3 1 o13.length (rf e_i64 v15))] ?_;obtain⟨v18,h19,hm⟩:=qA hm
  refine s_vn [qd 1 (dpr [.len 0 v15.length] (dex (cen [(0,0)] [0] 0 1 (YC v15 v18) (JR v15 v18) [30] [0]))) (And.intro (And.intro (Eq.symm (show v15.length=o13.length from(of_beq g17))) (Eq.symm (show v15.length=o13.length from(of_beq g17)))) (Eq.symm (show v15.length=o13.length from(of_beq g17)))),qd 1 (Dir.none) (wM (K:=(kx E 32 0)) ⟨[(30,vo 0 0 1 v15.length)],[(0,ro 0 3 1 v15.length (rf e_i64 v15))]⟩ (opAt (rg Tryz.f14 126) 1) [(0,0)] [0] 0 o0 rfl (qD5 v15 v18 h19) (.inl rfl) (by kernel_rfl))] 1 ⟨[(2,vo 0 0 1 v18.2.length)],[(0,ro 0 3 1 v18.2.length (rf e_i64 v18.2))]⟩ ?_;obtain rfl:=oi hm
  refine q_rt ?_;exact q_rm
end Saw
end Go.SL

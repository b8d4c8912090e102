import Derived.Test.YtidlfgiogdjkaaaGreatDoorEBase
import Derived.Test.YtidlfgiogdjkaaaGreatDoorEFa1
import Derived.Test.YtidlfgiogdjkaaaGreatDoorEFa2
import Derived.Test.YtidlfgiogdjkaaaGreatDoorEFa7
import Derived.Test.YtidlfgiogdjkaaaGreatDoorEFa5
import Derived.Test.YtidlfgiogdjkaaaGreatDoorEFa6
set_option linter.unusedVariables false
set_option linter.unusedSimpArgs false
namespace Go.SL
namespace Saw
open Go.Proofs
set_option maxHeartbeats 4000000
set_option maxRecDepth 100000
def qOT (r:Pattern×Int×Int):V:= .tup [.agg [ci r.1.Frame.X.A,ci r.1.Frame.X.B,ci r.1.Frame.Y.A,ci r.1.Frame.Y.B,.own 0 0 2 r.1.Nodes.length],.one (ci r.2.1),.one (ci r.2.2)]
def qOG (r:Pattern×Int×Int):List (Nat×(Nat×O)):=[(0,ro 0 65 2 r.1.Nodes.length (rf e_Node r.1.Nodes))]
def AW (a1:List qB) (a4:Rect) (a5:Saw) (a6:Rates) (v10:Line×(List (List (List Node)))) (v12:(List Piece)×Int×Int) (l15:List Span) (l15n:Nat) (l16:List (List Node)) (l16n:Nat) (x17:Int):St:=
 ⟨[(0,vc (tl qE default a1)),(9,vp 0 0),(10,vp 1 0),(11,vp 2 0),(12,vp 3 0),(16,vp 9 0),(17,vo 8 0 1 v10.2.length),(19,vi v12.2.1),(21,vo 11 0 2 l15n),(22,vo 12 0 1 l16n),(57,vo 10 0 2 v12.1.length),(58,vi ((v12.1.length:Nat):Int)),(59,vi x17)],[(0,bx 33 (qH a4)),(1,bx 38 (qX a5)),(2,bx 40 (qS a6)),(3,bx 46 [ci 0,ci 0,ci 0,ci 0,.emp]),(4,ro 0 3 1 v10.1.Sizes.length (rf e_i64 v10.1.Sizes)),(5,ro 0 28 1 v10.1.Gain.length (rf (qD e_i64) v10.1.Gain)),(6,ro 0 3 1 v10.1.Chip.length (rf e_i64 v10.1.Chip)),(7,ro 0 3 1 v10.1.Dust.length (rf e_i64 v10.1.Dust)),(8,ro 0 89 1 v10.2.length (rf (qD (qD e_Node)) v10.2)),(9,bx 84 [ci v10.1.Len,ci v10.1.Kerf,ci v10.1.Pitch,.own 4 0 1 v10.1.Sizes.length,.own 5 0 1 v10.1.Gain.length,.own 6 0 1 v10.1.Chip.length,.own 7 0 1 v10.1.Dust.length]),(10,ro 0 92 2 v12.1.length (rf wO v12.1)),(11,ro 0 31 2 l15n (rf e_Span l15)),(12,ro 0 44 1 l16n (rf (qD e_Node) l16))]⟩
def qDB (a1:List qB) (a4:Rect) (a5:Saw) (a6:Rates) (v12:(List Piece)×Int×Int) (l28:List Span) (l29:List (List Node)):St:=
 ⟨[(0,vc (tl qE default a1)),(9,vp 0 0),(10,vp 1 0),(11,vp 2 0),(12,vp 3 0),(19,vi v12.2.1),(21,vo 11 0 2 l28.length),(22,vo 12 0 1 l29.length)],[(0,bx 33 (qH a4)),(1,bx 38 (qX a5)),(2,bx 40 (qS a6)),(3,bx 46 [ci 0,ci 0,ci 0,ci 0,.emp]),(11,ro 0 31 2 l28.length (rf e_Span l28)),(12,ro 0 44 1 l29.length (rf (qD e_Node) l29))]⟩
theorem qJv (E:Env 0) (a1:List qB) (a4:Rect) (a5:Saw) (a6:Rates) (v10:Line×(List (List (List Node)))) (v12:(List Piece)×Int×Int):∀(n:Nat) (l15:List Span) (l15n:Nat) (l16:List (List Node)) (l16n:Nat) (x17:Int) (res:(List Span)×(List (List Node))),l15.length=l15n->l16.length=l16n->RA a4 v10 v12 n l15 l16 x17=some res->HL (kx E 119 0) (nd Tryz.f41 4084) (zI 0 (λo=>qDB a1 a4 a5 a6 v12 o.1 o.2) res) n (AW a1 a4 a5 a6 v10 v12 l15 l15n l16 l16n x17):=by
 intro n
 induction n with
 |zero=>
  intro l15 l15n l16 l16n x17 res hl0 hl1 hm;cases hm
 |succ n ih=>
  intro l15 l15n l16 l16n x17 res hl0 hl1 hm;subst hl0;subst hl1;refine qM ?_;refine s_vu [] 13 [] [(60,vb (decide (x17<((v12.1.length:Nat):Int))))] [] [] ?_;refine q_sq ?_;refine q_cm hm (λb18 hm=>?_) (λb18 hm=>?_)
  ·refine q_sk ?_;refine q_sq ?_;refine q_bk 1 ?_;obtain⟨g19,hm⟩:=qG hm;refine s_vu [qd 0 (Dir.none) (inb_of g19),qd 1 (Dir.none) (toNat_lt (inb_of g19))] 13 [60] [(24,vp 13 0)] [] [(13,bx 92 [ci ((v12.1.getD x17.toNat default).Size),ci ((v12.1.getD x17.toNat default).At)])] ?_;obtain⟨g20,hm⟩:=qG hm;obtain⟨v21,h22,hm⟩:=qA hm;obtain⟨g23,hm⟩:=qG hm
   refine s_du [qd 10 (Dir.none) (inb_of g20),qd 11 (Dir.none) (toNat_lt (inb_of g20)),qc 13 [64,66,75] 14 (CV a4 ((v12.1.getD x17.toNat default).At) (w64 (((v12.1.getD x17.toNat default).At)+(v10.1.Sizes.getD (((v12.1.getD x17.toNat default).Size).toNat) default))) v21 h22),qd 15 (drw 14 0 (rf e_Span ([v21.Y]:List Span))) (litP e_Span default 2 (λ_=>rfl) ([v21.Y]:List Span) 1 rfl),qd 16 (drw 11 1 (rf e_Span (l15++([v21.Y]:List Span)))) (apP e_Span default l15 ([v21.Y]:List Span) l15.length 1 2 16 (1<=1) (Nat.le_refl _) rfl rfl (λ_=>rfl) (zL g23))] [0,0,0,4,0,16,0,64,0,256,960,1984,4080,8190,16382,32766,65535,131071] 14 [21] [(21,vo 11 1 2 (l15.length+1))] [11] [(11,ro 1 31 2 (l15.length+1) (rf e_Span (l15++([v21.Y]:List Span))))] ?_
   obtain⟨g24,hm⟩:=qG hm;obtain⟨g25,hm⟩:=qG hm;obtain⟨v26,h27,hm⟩:=qA hm
   refine q_du [qd 4 (Dir.none) (inb_of g24),qd 5 (Dir.none) (toNat_lt (inb_of g24)),qd 8 (Dir.none) (inb_of g25),qd 10 (dex (cen [(12,0)] [1] 14 0 (qAG ((v10.2.getD (((v12.1.getD x17.toNat default).Size).toNat) default).getD ((v12.1.getD x17.toNat default).At).toNat default) l16 v26) (plan_collect_s1_o ((v10.2.getD (((v12.1.getD x17.toNat default).Size).toNat) default).getD ((v12.1.getD x17.toNat default).At).toNat default) l16 v26) [80,89] [12])) (wJ (K:=(kx E 119 0)) ⟨[(80,vo 12 0 1 l16.length),(89,vc (tl e_Node default ((v10.2.getD (((v12.1.getD x17.toNat default).Size).toNat) default).getD ((v12.1.getD x17.toNat default).At).toNat default)))],[(12,ro 0 44 1 l16.length (rf (qD e_Node) l16))]⟩ (opAt (rg Tryz.f41 261427) 10) [(12,0)] [1] 14 o0 rfl (qFA ((v10.2.getD (((v12.1.getD x17.toNat default).Size).toNat) default).getD ((v12.1.getD x17.toNat default).At).toNat default) l16 v26 h27) (.inl rfl) (by kernel_rfl))] [0,0,0,4,14,30,0,64,254,510,1023,2047] 15 [22,24] [(22,vo 12 1 1 v26.2.length)] [12,13] [(12,ro 1 44 1 v26.2.length (rf (qD e_Node) v26.2))] ?_
   refine q_vu [] 15 [59] [(59,vi (w64 (x17+1)))] [] [] ?_;exact q_hl (AW a1 a4 a5 a6 v10 v12 (l15++([v21.Y]:List Span)) (l15.length+1) v26.2 v26.2.length (w64 (x17+1))) (ih (l15++([v21.Y]:List Span)) (l15.length+1) v26.2 v26.2.length (w64 (x17+1)) _ (len_app rfl rfl) rfl hm)
  ·refine q_ex 0 ?_;obtain rfl:=oi hm;exact wD (by kernel_rfl) (by kernel_rfl)
theorem qM0 (a1:List qB) (a2:List Defect) (a3:List Product) (a4:Rect) (a5:Saw) (a6:Rates) (r:Pattern×Int×Int) (hm:RV a1 a2 a3 a4 a5 a6=some r):CtX Tryz.prog globs 41 0 0 [.one (tl qE default a1),.one (tl qJ default a2),.one (tl qC default a3),.agg (qH a4),.agg (qX a5),.agg (qS a6)] [] (qOT r) (qOG r):=by
 unfold RV at hm;refine q_E Tryz.f41 119 λE=>?_;refine s_vn [] 0 ⟨[(0,vc (tl qE default a1)),(1,vc (tl qJ default a2)),(2,vc (tl qC default a3)),(9,vp 0 0),(10,vp 1 0),(11,vp 2 0),(12,vp 3 0)],[(0,bx 33 (qH a4)),(1,bx 38 (qX a5)),(2,bx 40 (qS a6)),(3,bx 46 [ci 0,ci 0,ci 0,ci 0,.emp])]⟩ ?_;refine q_sq ?_;obtain⟨v7,h8,hm⟩:=qA hm;refine s_vu [qc 6 [26,27,28,29,30,31] 4 (qMd a1 a2 a3 a4 a5 a6 v7 h8)] 4 [] [(15,vi v7)] [] [] ?_;refine s_vu [] 4 [] [(34,vb (v7 !=0))] [] [] ?_;refine q_cm hm (λb9 hm=>?_) (λb9 hm=>?_)
 ·refine s_vu [] 4 [0,1,2,9,10,11,15,34] [(13,vi 0),(14,vi v7)] [0,1,2] [] ?_;refine q_fn [.ownB 3 4 4 65 2 (rf e_Node ([]:List Node))] ⟨[(12,vp 3 0),(13,vi 0),(14,vi v7)],[(3,bx 46 [ci 0,ci 0,ci 0,ci 0,.own 4 0 2 0]),(4,ro 0 65 2 0 (rf e_Node ([]:List Node)))]⟩ o0 ?_;refine q_fn [.len 4 (([]:List Node).length)] ⟨[(12,vp 3 0),(13,vi 0),(14,vi v7)],[(3,bx 46 [ci 0,ci 0,ci 0,ci 0,.own 4 0 2 (([]:List Node).length)]),(4,ro 0 65 2 (([]:List Node).length) (rf e_Node ([]:List Node)))]⟩ (o1 (And.intro (show 0=([]:List Node).length from rfl) (show 0=([]:List Node).length from rfl))) ?_
  obtain rfl:=oi hm;refine qW 4 0 (by kernel_rfl) ?_;refine q_rt ?_;exact q_rm
 ·refine q_sk ?_;obtain⟨v10,h11,hm⟩:=qA hm
  refine s_vu [qc 6 [38,39,40,41,42,43] 4 (qML a1 a2 a3 a4 a5 a6 v10 h11)] 4 [1,2,15,34] [(16,vp 9 0),(17,vo 8 0 1 v10.2.length)] [] [(4,ro 0 3 1 v10.1.Sizes.length (rf e_i64 v10.1.Sizes)),(5,ro 0 28 1 v10.1.Gain.length (rf (qD e_i64) v10.1.Gain)),(6,ro 0 3 1 v10.1.Chip.length (rf e_i64 v10.1.Chip)),(7,ro 0 3 1 v10.1.Dust.length (rf e_i64 v10.1.Dust)),(8,ro 0 89 1 v10.2.length (rf (qD (qD e_Node)) v10.2)),(9,bx 84 [ci v10.1.Len,ci v10.1.Kerf,ci v10.1.Pitch,.own 4 0 1 v10.1.Sizes.length,.own 5 0 1 v10.1.Gain.length,.own 6 0 1 v10.1.Chip.length,.own 7 0 1 v10.1.Dust.length])] ?_
  obtain⟨v12,h13,hm⟩:=qA hm
  refine s_vu [qd 1 (dex (cen [] [] 10 0 (AL v12) (RP v12) [48] [4,5,6,7])) (wJ (K:=(kx E 119 0)) (b:=false) ⟨[(48,va [ci v10.1.Len,ci v10.1.Kerf,ci v10.1.Pitch,.own 4 0 1 v10.1.Sizes.length,.own 5 0 1 v10.1.Gain.length,.own 6 0 1 v10.1.Chip.length,.own 7 0 1 v10.1.Dust.length])],[(4,ro 0 3 1 v10.1.Sizes.length (rf e_i64 v10.1.Sizes)),(5,ro 0 28 1 v10.1.Gain.length (rf (qD e_i64) v10.1.Gain)),(6,ro 0 3 1 v10.1.Chip.length (rf e_i64 v10.1.Chip)),(7,ro 0 3 1 v10.1.Dust.length (rf e_i64 v10.1.Dust))]⟩ (opAt (rg Tryz.f41 30) 1) [] [] 10 (o1 (And.intro (Nat.le_refl v10.1.Sizes.length) (And.intro (Nat.le_refl v10.1.Gain.length) (And.intro (Nat.le_refl v10.1.Chip.length) (Nat.le_refl v10.1.Dust.length))))) rfl (cutting_Best_ok (Line.mk v10.1.Len v10.1.Kerf v10.1.Pitch v10.1.Sizes v10.1.Gain v10.1.Chip v10.1.Dust) v12 h13) (.inr ⟨(by kernel_rfl),qDT v12⟩) (by kernel_rfl))] 10 [] [(18,vo 10 0 2 v12.1.length),(19,vi v12.2.1),(20,vi v12.2.2)] [] [(10,ro 0 92 2 v12.1.length (rf wO v12.1))] ?_
  refine q_sq ?_;refine s_vu [] 11 [] [(54,vb (v12.2.2 !=0))] [] [] ?_;refine q_cm hm (λb14 hm=>?_) (λb14 hm=>?_)
  ·refine s_vn [] 11 ⟨[(12,vp 3 0),(13,vi 0),(14,vi v12.2.2)],[(3,bx 46 [ci 0,ci 0,ci 0,ci 0,.emp])]⟩ ?_;refine q_fn [.ownB 3 4 11 65 2 (rf e_Node ([]:List Node))] ⟨[(12,vp 3 0),(13,vi 0),(14,vi v12.2.2)],[(3,bx 46 [ci 0,ci 0,ci 0,ci 0,.own 11 0 2 0]),(11,ro 0 65 2 0 (rf e_Node ([]:List Node)))]⟩ o0 ?_
   refine q_fn [.len 11 (([]:List Node).length)] ⟨[(12,vp 3 0),(13,vi 0),(14,vi v12.2.2)],[(3,bx 46 [ci 0,ci 0,ci 0,ci 0,.own 11 0 2 (([]:List Node).length)]),(11,ro 0 65 2 (([]:List Node).length) (rf e_Node ([]:List Node)))]⟩ (o1 (And.intro (show 0=([]:List Node).length from rfl) (show 0=([]:List Node).length from rfl))) ?_;obtain rfl:=oi hm;refine qW 11 0 (by kernel_rfl) ?_;refine q_rt ?_;exact q_rm
  ·refine q_sk ?_;refine s_vu [] 11 [20,54] [(21,vc (.emp))] [] [] ?_;refine s_vu [] 11 [] [(22,vc (.emp))] [] [] ?_;refine q_sq ?_;refine s_vu [] 11 [18] [(57,vo 10 0 2 v12.1.length),(58,vi ((v12.1.length:Nat):Int)),(59,vi 0)] [] [] ?_
   refine q_fn [.own 21 11 31 2 (rf e_Span ([]:List Span))] ⟨[(0,vc (tl qE default a1)),(9,vp 0 0),(10,vp 1 0),(11,vp 2 0),(12,vp 3 0),(16,vp 9 0),(17,vo 8 0 1 v10.2.length),(19,vi v12.2.1),(21,vo 11 0 2 0),(22,vc (.emp)),(57,vo 10 0 2 v12.1.length),(58,vi ((v12.1.length:Nat):Int)),(59,vi 0)],[(0,bx 33 (qH a4)),(1,bx 38 (qX a5)),(2,bx 40 (qS a6)),(3,bx 46 [ci 0,ci 0,ci 0,ci 0,.emp]),(4,ro 0 3 1 v10.1.Sizes.length (rf e_i64 v10.1.Sizes)),(5,ro 0 28 1 v10.1.Gain.length (rf (qD e_i64) v10.1.Gain)),(6,ro 0 3 1 v10.1.Chip.length (rf e_i64 v10.1.Chip)),(7,ro 0 3 1 v10.1.Dust.length (rf e_i64 v10.1.Dust)),(8,ro 0 89 1 v10.2.length (rf (qD (qD e_Node)) v10.2)),(9,bx 84 [ci v10.1.Len,ci v10.1.Kerf,ci v10.1.Pitch,.own 4 0 1 v10.1.Sizes.length,.own 5 0 1 v10.1.Gain.length,.own 6 0 1 v10.1.Chip.length,.own 7 0 1 v10.1.Dust.length]),(10,ro 0 92 2 v12.1.length (rf wO v12.1)),(11,ro 0 31 2 0 (rf e_Span ([]:List Span)))]⟩ o0 ?_
   refine q_fn [.own 22 12 44 1 (rf (qD e_Node) ([]:List (List Node)))] ⟨[(0,vc (tl qE default a1)),(9,vp 0 0),(10,vp 1 0),(11,vp 2 0),(12,vp 3 0),(16,vp 9 0),(17,vo 8 0 1 v10.2.length),(19,vi v12.2.1),(21,vo 11 0 2 0),(22,vo 12 0 1 0),(57,vo 10 0 2 v12.1.length),(58,vi ((v12.1.length:Nat):Int)),(59,vi 0)],[(0,bx 33 (qH a4)),(1,bx 38 (qX a5)),(2,bx 40 (qS a6)),(3,bx 46 [ci 0,ci 0,ci 0,ci 0,.emp]),(4,ro 0 3 1 v10.1.Sizes.length (rf e_i64 v10.1.Sizes)),(5,ro 0 28 1 v10.1.Gain.length (rf (qD e_i64) v10.1.Gain)),(6,ro 0 3 1 v10.1.Chip.length (rf e_i64 v10.1.Chip)),(7,ro 0 3 1 v10.1.Dust.length (rf e_i64 v10.1.Dust)),(8,ro 0 89 1 v10.2.length (rf (qD (qD e_Node)) v10.2)),(9,bx 84 [ci v10.1.Len,ci v10.1.Kerf,ci v10.1.Pitch,.own 4 0 1 v10.1.Sizes.length,.own 5 0 1 v10.1.Gain.length,.own 6 0 1 v10.1.Chip.length,.own 7 0 1 v10.1.Dust.length]),(10,ro 0 92 2 v12.1.length (rf wO v12.1)),(11,ro 0 31 2 0 (rf e_Span ([]:List Span))),(12,ro 0 44 1 0 (rf (qD e_Node) ([]:List (List Node))))]⟩ o0 ?_
   obtain⟨o30,h31,hm⟩:=qA hm;refine zD (nd Tryz.f41 4084) 0 (by kernel_rfl) FUEL (λo=>qDB a1 a4 a5 a6 v12 o.1 o.2) o30 (q_hl (AW a1 a4 a5 a6 v10 v12 ([]:List Span) 0 ([]:List (List Node)) 0 0) (qJv E a1 a4 a5 a6 v10 v12 FUEL ([]:List Span) 0 ([]:List (List Node)) 0 0 o30 rfl rfl h31)) ?_;obtain⟨v32,h33,hm⟩:=qA hm
   refine s_vu [qd 5 (dex (cen [] [] 13 0 (XU v32) (ZE v32) [93,95,96,97] [11,12])) (wJ (K:=(kx E 119 0)) (b:=false) ⟨[(93,va (qH a4)),(95,vi a5.Kerf),(96,vo 11 0 2 o30.1.length),(97,vo 12 0 1 o30.2.length)],[(11,ro 0 31 2 o30.1.length (rf e_Span o30.1)),(12,ro 0 44 1 o30.2.length (rf (qD e_Node) o30.2))]⟩ (opAt (rg Tryz.f41 1022) 5) [] [] 13 (o1 (And.intro (Nat.le_refl o30.1.length) (Nat.le_refl o30.2.length))) rfl (pattern_Row_ok a4 3 a5.Kerf o30.1 o30.2 v32 h33) (.inr ⟨(by kernel_rfl),CR v32⟩) (by kernel_rfl))] 13 [10,21,22] [(20,vi v32.2),(25,vo 13 0 2 v32.1.length)] [1,11,12] [(13,ro 0 65 2 v32.1.length (rf e_Node v32.1))] ?_
   refine q_sq ?_;refine s_vu [] 14 [20] [(102,vb (v32.2 !=0))] [] [] ?_;refine q_cm hm (λb34 hm=>?_) (λb34 hm=>?_)
   ·refine s_vu [] 14 [0,9,11,19,25,102] [(13,vi 0),(14,vi 13)] [0,2,13] [] ?_;refine q_fn [.ownB 3 4 14 65 2 (rf e_Node ([]:List Node))] ⟨[(12,vp 3 0),(13,vi 0),(14,vi 13)],[(3,bx 46 [ci 0,ci 0,ci 0,ci 0,.own 14 0 2 0]),(14,ro 0 65 2 0 (rf e_Node ([]:List Node)))]⟩ o0 ?_;refine q_fn [.len 14 (([]:List Node).length)] ⟨[(12,vp 3 0),(13,vi 0),(14,vi 13)],[(3,bx 46 [ci 0,ci 0,ci 0,ci 0,.own 14 0 2 (([]:List Node).length)]),(14,ro 0 65 2 (([]:List Node).length) (rf e_Node ([]:List Node)))]⟩ (o1 (And.intro (show 0=([]:List Node).length from rfl) (show 0=([]:List Node).length from rfl))) ?_
    obtain rfl:=oi hm;refine qW 14 0 (by kernel_rfl) ?_;refine q_rt ?_;exact q_rm
   ·refine q_sk ?_;obtain⟨v35,h36,hm⟩:=qA hm;obtain⟨v37,h38,hm⟩:=qA hm;refine s_du [qc 4 [107] 14 (qJj a1 v35 h36),qc 7 [109,110] 14 (qD7 a1 a4 v37 h38)] [0,0,2,0,8,0,0,120,248,510,1023,2047] 14 [0,11,19,102] [(19,vi (w64 (v12.2.1+(w64 (a6.Chip*(w64 (v35-v37)))))))] [2] [] ?_;refine s_vu [] 14 [9,19,25] [(13,vi (w64 (v12.2.1+(w64 (a6.Chip*(w64 (v35-v37))))))),(14,vi 0)] [0,3] [(3,bx 46 [ci a4.X.A,ci a4.X.B,ci a4.Y.A,ci a4.Y.B,.own 13 0 2 v32.1.length])] ?_;obtain rfl:=oi hm;refine qW 13 0 (by kernel_rfl) ?_;refine q_rt ?_;exact q_rm
def qH0 (r:Rect):V:=va (qH r)
def qIb (r:Rect):List (Nat×(Nat×O)):=[]
def EQ (v2:qF) (x6:Int) (x13:Span):St:=
 ⟨[(1,vp 0 0),(2,vp 1 0),(3,vp 2 0),(18,vc (tl e_Span default v2.Rows)),(19,vi ((v2.Rows.length:Nat):Int)),(20,vi x6)],[(0,bx 70 (qO v2)),(1,bx 33 [ci 0,ci 0,ci 0,ci 0]),(2,bx 31 (e_Span x13))]⟩
def VQ (v2:qF) (x6:Int) (x7:Span):St:=
 ⟨[(1,vp 0 0),(2,vp 1 0),(3,vp 2 0),(18,vc (tl e_Span default v2.Rows)),(19,vi ((v2.Rows.length:Nat):Int)),(20,vi x6)],[(0,bx 70 (qO v2)),(1,bx 33 [ci 0,ci 0,ci 0,ci 0]),(2,bx 31 (e_Span x7))]⟩
def EO (v2:qF) (x14:Span):St:=
 ⟨[(1,vp 0 0),(2,vp 1 0),(3,vp 2 0)],[(0,bx 70 (qO v2)),(1,bx 33 [ci 0,ci 0,ci 0,ci 0]),(2,bx 31 (e_Span x14))]⟩
theorem section_Bounds_L1_ok (E:Env 0) (v2:qF):∀(n:Nat) (x6:Int) (x7:Span) (res:Span),jD v2 n x6 x7=some res->HL (kx E 50 0) (nd Tryz.f82 500) (zI 0 (λo=>EO v2 o) res) n (VQ v2 x6 x7):=by
 intro n
 induction n with
 |zero=>
  intro x6 x7 res hm;cases hm
 |succ n ih=>
  intro x6 x7 res hm;refine qM ?_;refine s_vu [] 3 [] [(21,vb (decide (x6<((v2.Rows.length:Nat):Int))))] [] [] ?_;refine q_sq ?_;refine q_cm hm (λb8 hm=>?_) (λb8 hm=>?_)
  ·refine q_sk ?_;refine q_jn (ι:=Span) (λp=>EQ v2 x6 p) (λp=>PP x6 (jD v2 n) p=some res) ?_ ?_
   ·rintro x13 hm;show H _ (EQ v2 x6 x13) _ _;refine q_vu [] 4 [20] [(20,vi (w64 (x6+1)))] [] [] ?_;exact q_hl (VQ v2 (w64 (x6+1)) x13) (ih (w64 (x6+1)) x13 _ hm)
   ·refine q_bk 1 ?_;obtain⟨g9,hm⟩:=qG hm;refine s_vu [qd 0 (Dir.none) (inb_of g9)] 3 [21] [(5,vp 3 0)] [] [(3,bx 31 [ci ((v2.Rows.getD x6.toNat default).A),ci ((v2.Rows.getD x6.toNat default).B)])] ?_;obtain⟨v10,h11,hm⟩:=qA hm;refine s_vu [qc 1 [24] 4 (QC (v2.Rows.getD x6.toNat default) v10 h11)] 4 [] [(26,vb (!v10))] [] [] ?_;refine q_cm hm (λb12 hm=>?_) (λb12 hm=>?_)
    ·refine q_vu [] 4 [5,26] [] [2,3] [(2,bx 31 [ci (imin x7.A ((v2.Rows.getD x6.toNat default).A)),ci (imax x7.B ((v2.Rows.getD x6.toNat default).B))])] ?_;exact q_J ((Span.mk (imin x7.A ((v2.Rows.getD x6.toNat default).A)) (imax x7.B ((v2.Rows.getD x6.toNat default).B)))) hm
    ·refine q_sk ?_;exact q_J (x7) hm
  ·refine q_ex 0 ?_;obtain rfl:=oi hm;exact wD (by kernel_rfl) (by kernel_rfl)
theorem qGZ (a1:qF) (r:Rect) (hm:RM a1=some r):CtX Tryz.prog globs 82 0 0 [.agg (qO a1)] [] (qH0 r) (qIb r):=by
 unfold RM at hm;refine q_E Tryz.f82 50 λE=>?_;refine s_vn [] 0 ⟨[(1,vp 0 0),(2,vp 1 0)],[(0,bx 70 (qO a1)),(1,bx 33 [ci 0,ci 0,ci 0,ci 0])]⟩ ?_;obtain⟨v2,h3,hm⟩:=qA hm;refine s_vu [qc 1 [6] 2 (MQ a1 v2 h3)] 2 [] [] [0] [(0,bx 70 (qO v2))] ?_;refine q_sq ?_;refine s_vu [] 2 [] [(11,vb (((v2.Rows.length:Nat):Int)==0))] [] [] ?_;refine q_cm hm (λb4 hm=>?_) (λb4 hm=>?_)
 ·refine s_vu [] 2 [1,11] [] [0] [] ?_;obtain rfl:=oi hm;refine q_rt ?_;exact q_rm
 ·refine q_sk ?_;obtain⟨g5,hm⟩:=qG hm;refine s_vu [qd 2 (Dir.none) (inb_of g5)] 2 [11] [(3,vp 2 0)] [] [(2,bx 31 [ci ((v2.Rows.getD (0:Int).toNat default).A),ci ((v2.Rows.getD (0:Int).toNat default).B)])] ?_;refine q_sq ?_;refine s_vu [] 3 [] [(18,vc (tl e_Span default v2.Rows)),(19,vi ((v2.Rows.length:Nat):Int)),(20,vi 0)] [] [] ?_;obtain⟨o15,h16,hm⟩:=qA hm;refine zD (nd Tryz.f82 500) 0 (by kernel_rfl) FUEL (λo=>EO v2 o) o15 (q_hl (VQ v2 0 (v2.Rows.getD (0:Int).toNat default)) (section_Bounds_L1_ok E v2 FUEL 0 (v2.Rows.getD (0:Int).toNat default) o15 h16)) ?_;obtain⟨v17,h18,hm⟩:=qA hm
  refine s_dn [qc 9 [41,47] 3 (IS v2.Low (w64 (v2.Low+((v2.Rows.length:Nat):Int))) v17 h18)] [0,0,2,0,8,0,32,96,248,510,1023,2047] 3 ⟨[(2,vp 1 0)],[(1,bx 33 [ci o15.A,ci o15.B,ci v17.A,ci v17.B])]⟩ ?_;obtain rfl:=oi hm;refine q_rt ?_;exact q_rm
def qKM (r:Rect):V:=va (qH r)
def qKe (r:Rect):List (Nat×(Nat×O)):=[]
def qAU (v2:(List qB)) (x4:Int) (v8:Rect) (x11:Rect):St:=
 ⟨[(2,vp 0 0),(3,vp 1 0),(6,vp 3 0),(8,vc (tl qE default v2)),(9,vi ((v2.length:Nat):Int)),(10,vi x4)],[(0,bx 33 [ci 0,ci 0,ci 0,ci 0]),(1,bx 33 (qH x11)),(3,bx 33 (qH v8))]⟩
def FT (v2:(List qB)) (x4:Int) (x5:Rect):St:=
 ⟨[(2,vp 0 0),(3,vp 1 0),(8,vc (tl qE default v2)),(9,vi ((v2.length:Nat):Int)),(10,vi x4)],[(0,bx 33 [ci 0,ci 0,ci 0,ci 0]),(1,bx 33 (qH x5))]⟩
def qAn (x12:Rect):St:=
 ⟨[(2,vp 0 0),(3,vp 1 0)],[(0,bx 33 [ci 0,ci 0,ci 0,ci 0]),(1,bx 33 (qH x12))]⟩
theorem qFr (E:Env 0) (v2:(List qB)):∀(n:Nat) (x4:Int) (x5:Rect) (res:Rect),jE v2 n x4 x5=some res->HL (kx E 55 0) (nd Tryz.f37 116) (zI 0 (λo=>qAn o) res) n (FT v2 x4 x5):=by
 intro n
 induction n with
 |zero=>
  intro x4 x5 res hm;cases hm
 |succ n ih=>
  intro x4 x5 res hm;refine qM ?_;refine s_vu [] 2 [] [(11,vb (decide (x4<((v2.length:Nat):Int))))] [] [] ?_;refine q_sq ?_;refine q_cm hm (λb6 hm=>?_) (λb6 hm=>?_)
  ·refine q_sk ?_;refine q_sq ?_;refine q_bk 1 ?_;obtain⟨g7,hm⟩:=qG hm;refine s_vu [qd 1 (Dir.none) (inb_of g7)] 2 [11] [(4,vi x4),(5,vp 2 0)] [] [(2,bx 72 [ci ((v2.getD x4.toNat default).Len),ci (((v2.getD x4.toNat default).Sec).Low),tl e_Span default (((v2.getD x4.toNat default).Sec).Rows)])] ?_;obtain⟨v8,h9,hm⟩:=qA hm;refine s_vu [qc 2 [16] 3 (qGZ ((v2.getD x4.toNat default).Sec) v8 h9)] 3 [5] [(6,vp 3 0)] [2] [(3,bx 33 (qH v8))] ?_;refine q_jn (ι:=Rect) (λp=>qAU v2 x4 v8 p) (λp=>GK x4 (jE v2 n) v8 p=some res) ?_ ?_
   ·rintro x11 hm;show H _ (qAU v2 x4 v8 x11) _ _;refine s_vu [] 4 [] [] [1] [(1,bx 33 [ci (imin x11.X.A v8.X.A),ci (imax x11.X.B v8.X.B),ci x11.Y.A,ci x11.Y.B])] ?_;refine q_vu [] 4 [6] [] [1,3] [(1,bx 33 [ci (imin x11.X.A v8.X.A),ci (imax x11.X.B v8.X.B),ci (imin x11.Y.A v8.Y.A),ci (imax x11.Y.B v8.Y.B)])] ?_;refine q_vu [] 4 [10] [(10,vi (w64 (x4+1)))] [] [] ?_
    exact q_hl (FT v2 (w64 (x4+1)) (Rect.mk (Span.mk (imin x11.X.A v8.X.A) (imax x11.X.B v8.X.B)) (Span.mk (imin x11.Y.A v8.Y.A) (imax x11.Y.B v8.Y.B)))) (ih (w64 (x4+1)) (Rect.mk (Span.mk (imin x11.X.A v8.X.A) (imax x11.X.B v8.X.B)) (Span.mk (imin x11.Y.A v8.Y.A) (imax x11.Y.B v8.Y.B))) _ hm)
   ·refine s_vu [] 4 [4] [(19,vb (x4==0))] [] [] ?_;refine q_cm hm (λb10 hm=>?_) (λb10 hm=>?_)
    ·refine q_vu [] 4 [19] [] [1] [(1,bx 33 (qH v8))] ?_;exact q_J (v8) hm
    ·refine q_sk ?_;exact q_J (x5) hm
  ·refine q_ex 0 ?_;obtain rfl:=oi hm;exact wD (by kernel_rfl) (by kernel_rfl)
theorem qIN (a1:List qB) (r:Rect) (hm:SH a1=some r):CtX Tryz.prog globs 37 0 0 [.one (tl qE default a1)] [] (qKM r) (qKe r):=by
 unfold SH at hm;refine q_E Tryz.f37 55 λE=>?_;refine s_vn [] 0 ⟨[(0,vc (tl qE default a1)),(2,vp 0 0)],[(0,bx 33 [ci 0,ci 0,ci 0,ci 0])]⟩ ?_;refine s_vu [] 1 [] [(3,vp 1 0)] [] [(1,bx 33 [ci 0,ci 0,ci 0,ci 0])] ?_;refine q_sq ?_;obtain⟨v2,h3,hm⟩:=qA hm;refine s_vu [qc 1 [7] 2 (NC a1 v2 h3)] 2 [0] [(8,vc (tl qE default v2)),(9,vi ((v2.length:Nat):Int)),(10,vi 0)] [] [] ?_;obtain⟨o13,h14,hm⟩:=qA hm;refine zD (nd Tryz.f37 116) 0 (by kernel_rfl) FUEL (λo=>qAn o) o13 (q_hl (FT v2 0 (Rect.mk (Span.mk 0 0) (Span.mk 0 0))) (qFr E v2 FUEL 0 (Rect.mk (Span.mk 0 0) (Span.mk 0 0)) o13 h14)) ?_
 refine s_vu [] 2 [3] [] [0,1] [(0,bx 33 (qH o13))] ?_;obtain rfl:=oi hm;refine q_rt ?_;exact q_rm
def qGd (r:Rect):V:=va (qH r)
def HZ (r:Rect):List (Nat×(Nat×O)):=[]
theorem qM6 (r:Rect):jU (HZ r):=by
 intro i k o h;unfold HZ at h;cases h
theorem CY (a1:List qB) (r:Rect) (hm:JV a1=some r):CtX Tryz.prog globs 16 0 0 [.one (tl qE default a1)] [] (qGd r) (HZ r):=by
 unfold JV at hm;refine q_E Tryz.f16 5 λE=>?_;refine s_vn [] 0 ⟨[(0,vc (tl qE default a1)),(2,vp 0 0)],[(0,bx 33 [ci 0,ci 0,ci 0,ci 0])]⟩ ?_;obtain⟨v2,h3,hm⟩:=qA hm;refine s_vu [qc 1 [3] 1 (qIN a1 v2 h3)] 1 [0] [] [0] [(0,bx 33 (qH v2))] ?_;obtain rfl:=oi hm;refine q_rt ?_;exact q_rm
def qDk (r:Int):V:=vi r
def qDg (r:Int):List (Nat×(Nat×O)):=[]
def qDu (a1:List Node) (x3:Int) (x9:Int):St:=
 ⟨[(0,vc (tl e_Node default a1)),(3,vi x9),(4,vi x3),(6,vc (tl e_Node default a1)),(7,vi ((a1.length:Nat):Int)),(8,vi x3)],[]⟩
def qD6 (a1:List Node) (x2:Int) (x3:Int) (x7:Bool):St:=
 ⟨[(0,vc (tl e_Node default a1)),(3,vi (w64 (x2-1))),(4,vi x3),(6,vc (tl e_Node default a1)),(7,vi ((a1.length:Nat):Int)),(8,vi x3),(22,vb x7)],[]⟩
def ES (a1:List Node) (x2:Int) (x3:Int):St:=
 ⟨[(0,vc (tl e_Node default a1)),(3,vi x2),(6,vc (tl e_Node default a1)),(7,vi ((a1.length:Nat):Int)),(8,vi x3)],[]⟩
def qEf (a1:List Node):St:=
 ⟨[(0,vc (tl e_Node default a1))],[]⟩
theorem qJP (E:Env 0) (a1:List Node):∀(n:Nat) (x2:Int) (x3:Int) (res:Int⊕Unit),RU a1 n x2 x3=some res->HL (kx E 32 0) (nd Tryz.f106 116) (zV 0 (λo=>qEf a1) (λv st=>RetQ Tryz.prog Tryz.f106 (qDk v) (qDg v) .ret st) res) n (ES a1 x2 x3):=by
 intro n
 induction n with
 |zero=>
  intro x2 x3 res hm;cases hm
 |succ n ih=>
  intro x2 x3 res hm;refine qM ?_;refine s_vu [] 0 [] [(9,vb (decide (x3<((a1.length:Nat):Int))))] [] [] ?_;refine q_sq ?_;refine q_cm hm (λb4 hm=>?_) (λb4 hm=>?_)
  ·refine q_sk ?_;refine q_sq ?_;refine q_bk 1 ?_;obtain⟨g5,hm⟩:=qG hm;refine s_vu [qd 1 (Dir.none) (inb_of g5)] 0 [9] [(4,vi x3),(5,vp 0 0)] [] [(0,bx 65 [ci ((a1.getD x3.toNat default).Kind),ci ((a1.getD x3.toNat default).At)])] ?_;refine s_vu [] 1 [3] [(3,vi (w64 (x2-1)))] [] [] ?_;refine q_jn (ι:=Int) (λp=>qDu a1 x3 p) (λp=>qBq x3 (RU a1 n) p=some res) ?_ ?_
   ·rintro x9 hm;show H _ (qDu a1 x3 x9) _ _;refine s_vu [] 1 [] [(26,vb (x9==0))] [] [] ?_;refine q_cm hm (λb10 hm=>?_) (λb10 hm=>?_)
    ·refine s_vn [] 1 ⟨[(2,vi (w64 (x3+1)))],[]⟩ ?_;obtain rfl:=oi hm;refine q_rt ?_;refine qT (w64 (x3+1)) ?_;exact q_rm
    ·refine q_sk ?_;refine q_vu [] 1 [4,8,26] [(8,vi (w64 (x3+1)))] [] [] ?_;exact q_hl (ES a1 x9 (w64 (x3+1))) (ih x9 (w64 (x3+1)) _ hm)
   ·refine q_jn (ι:=Bool) (λp=>qD6 a1 x2 x3 p) (λp=>qA8 x2 x3 (RU a1 n) p=some res) ?_ ?_
    ·rintro x7 hm;show H _ (qD6 a1 x2 x3 x7) _ _;refine q_cm hm (λb8 hm=>?_) (λb8 hm=>?_)
     ·refine q_vu [] 1 [3,22] [(3,vi (w64 ((w64 (x2-1))+2)))] [] [] ?_;exact q_J (w64 ((w64 (x2-1))+2)) hm
     ·refine q_sk ?_;exact q_J (w64 (x2-1)) hm
    ·rcases bif_c hm with⟨b6,hm⟩|⟨b6,hm⟩
     ·refine q_vu [qf 3 b6] 1 [5] [(22,vb true)] [0] [] ?_;exact q_J (true) hm
     ·refine q_vu [qf 3 b6] 1 [5] [(22,vb (((a1.getD x3.toNat default).Kind)==3))] [0] [] ?_;exact q_J (((a1.getD x3.toNat default).Kind)==3) hm
  ·refine q_ex 0 ?_;obtain rfl:=oi hm;exact wB () (by kernel_rfl) (by kernel_rfl)
theorem qMW (a1:List Node) (r:Int) (hm:qFO a1=some r):CtX Tryz.prog globs 106 0 0 [.one (tl e_Node default a1)] [] (qDk r) (qDg r):=by
 unfold qFO at hm;refine q_E Tryz.f106 32 λE=>?_;refine s_vn [] 0 ⟨[(0,vc (tl e_Node default a1))],[]⟩ ?_;refine s_vu [] 0 [] [(3,vi 1)] [] [] ?_;refine q_sq ?_;refine s_vu [] 0 [] [(6,vc (tl e_Node default a1)),(7,vi ((a1.length:Nat):Int)),(8,vi 0)] [] [] ?_;obtain⟨u13,h12,hm⟩:=qA hm;refine zA (nd Tryz.f106 116) 0 (by kernel_rfl) FUEL (λo=>qEf a1) (λv st=>RetQ Tryz.prog Tryz.f106 (qDk v) (qDg v) .ret st) u13 (q_hl (ES a1 1 0) (qJP E a1 FUEL 1 0 u13 h12)) ?_ ?_
 ·rintro v14 rfl st hr;obtain rfl:=oi hm;exact hr
 ·rintro o11 rfl;replace hm:_=some r:=hm;refine s_vn [] 0 ⟨[(2,vi ((a1.length:Nat):Int))],[]⟩ ?_;obtain rfl:=oi hm;refine q_rt ?_;exact q_rm
def YC (r:Bool):V:=vb r
def jT (r:Bool):List (Nat×(Nat×O)):=[]
theorem qEr (r:Bool):jU (jT r):=by
 intro i k o h;unfold jT at h;cases h
def XP (a1:List Node) (a2:List Node) (x4:Int):St:=
 ⟨[(0,vc (tl e_Node default a1)),(1,vc (tl e_Node default a2)),(12,vi ((a1.length:Nat):Int)),(13,vi x4)],[]⟩
def NZ :St:=
 ⟨[],[]⟩
theorem qBW (E:Env 0) (a1:List Node) (a2:List Node):∀(n:Nat) (x4:Int) (res:Bool⊕Unit),RK a1 a2 n x4=some res->HL (kx E 26 0) (nd Tryz.f107 116) (zV 0 (λo=>NZ) (λv st=>RetQ Tryz.prog Tryz.f107 (YC v) (jT v) .ret st) res) n (XP a1 a2 x4):=by
 intro n
 induction n with
 |zero=>
  intro x4 res hm;cases hm
 |succ n ih=>
  intro x4 res hm;refine qM ?_;refine s_vu [] 0 [] [(14,vb (decide (x4<((a1.length:Nat):Int))))] [] [] ?_;refine q_sq ?_;refine q_cm hm (λb5 hm=>?_) (λb5 hm=>?_)
  ·refine q_sk ?_;refine q_sq ?_;refine q_bk 1 ?_;refine s_vu [] 0 [14] [(5,vi x4)] [] [] ?_;obtain⟨g6,hm⟩:=qG hm;obtain⟨g7,hm⟩:=qG hm;refine s_du [qd 2 (Dir.none) (inb_of g6),qd 6 (Dir.none) (inb_of g7)] [0,0,3,7,0,0,48,112,255] 0 [5] [(24,vb (!((((a1.getD x4.toNat default).Kind)==((a2.getD x4.toNat default).Kind))&&((((a1.getD x4.toNat default).At)==((a2.getD x4.toNat default).At))&&true))))] [] [] ?_;refine q_cm hm (λb8 hm=>?_) (λb8 hm=>?_)
   ·refine s_vn [] 0 ⟨[(4,vb false)],[]⟩ ?_;obtain rfl:=oi hm;refine q_rt ?_;refine qT false ?_;exact q_rm
   ·refine q_sk ?_;refine q_vu [] 0 [13,24] [(13,vi (w64 (x4+1)))] [] [] ?_;exact q_hl (XP a1 a2 (w64 (x4+1))) (ih (w64 (x4+1)) _ hm)
  ·refine q_ex 0 ?_;obtain rfl:=oi hm;exact wB () (by kernel_rfl) (by kernel_rfl)
theorem qDU (a1:List Node) (a2:List Node) (r:Bool) (hm:BQ a1 a2=some r):CtX Tryz.prog globs 107 0 0 [.one (tl e_Node default a1),.one (tl e_Node default a2)] [] (YC r) (jT r):=by
 unfold BQ at hm;refine q_E Tryz.f107 26 λE=>?_;refine s_vn [] 0 ⟨[(0,vc (tl e_Node default a1)),(1,vc (tl e_Node default a2))],[]⟩ ?_;refine q_sq ?_;refine s_vu [] 0 [] [(10,vb (((a1.length:Nat):Int) !=((a2.length:Nat):Int)))] [] [] ?_;refine q_cm hm (λb3 hm=>?_) (λb3 hm=>?_)
 ·refine s_vn [] 0 ⟨[(4,vb false)],[]⟩ ?_;obtain rfl:=oi hm;refine q_rt ?_;exact q_rm
 ·refine q_sk ?_;refine q_sq ?_;refine s_vu [] 0 [10] [(12,vi ((a1.length:Nat):Int)),(13,vi 0)] [] [] ?_;obtain⟨u11,h10,hm⟩:=qA hm;refine zA (nd Tryz.f107 116) 0 (by kernel_rfl) FUEL (λo=>NZ) (λv st=>RetQ Tryz.prog Tryz.f107 (YC v) (jT v) .ret st) u11 (q_hl (XP a1 a2 0) (qBW E a1 a2 FUEL 0 u11 h10)) ?_ ?_
  ·rintro v12 rfl st hr;obtain rfl:=oi hm;exact hr
  ·rintro o9 rfl;replace hm:_=some r:=hm;refine s_vn [] 0 ⟨[(4,vb true)],[]⟩ ?_;obtain rfl:=oi hm;refine q_rt ?_;exact q_rm
def qQo (r:(List Span)×(List (List Node))×Bool):V:= .tup [.one (.own 0 0 2 r.1.length),.one (.own 1 0 1 r.2.1.length),.one (cb r.2.2)]
def qQj (r:(List Span)×(List (List Node))×Bool):List (Nat×(Nat×O)):=[(0,ro 0 31 2 r.1.length (rf e_Span r.1)),(1,ro 0 44 1 r.2.1.length (rf (qD e_Node) r.2.1))]
def qE0 (a1:Rect) (a2:Int) (a3:Int) (a4:List Node) (x7:Span) (l11:List Node) (v18:Int) (l27:List Span) (l27n:Nat) (l28:List (List Node)) (l28n:Nat) (x29:Int):St:=
 ⟨[(1,vi a2),(2,vi a3),(3,vc (tl e_Node default a4)),(4,vp 0 0),(11,vp 1 0),(12,vo 2 0 2 l27n),(13,vo 3 0 1 l28n),(14,vi x29),(15,vc (tl e_Node default (l11.drop ((1:Int).toNat)))),(17,vi v18)],[(0,bx 33 (qH a1)),(1,bx 31 (e_Span x7)),(2,ro 0 31 2 l27n (rf e_Span l27)),(3,ro 0 44 1 l28n (rf (qD e_Node) l28))]⟩
def qEV (a1:Rect) (a2:Int) (a3:Int) (a4:List Node) (x7:Span) (l8:List Span) (l9:List (List Node)) (x10:Int) (l11:List Node) (v18:Int) (x22:Bool):St:=
 ⟨[(1,vi a2),(2,vi a3),(3,vc (tl e_Node default a4)),(4,vp 0 0),(11,vp 1 0),(12,vo 2 0 2 l8.length),(13,vo 3 0 1 l9.length),(14,vi x10),(15,vc (tl e_Node default (l11.drop ((1:Int).toNat)))),(16,vp 4 0),(17,vi v18),(58,vb x22)],[(0,bx 33 (qH a1)),(1,bx 31 (e_Span x7)),(2,ro 0 31 2 l8.length (rf e_Span l8)),(3,ro 0 44 1 l9.length (rf (qD e_Node) l9)),(4,bx 65 [ci ((l11.getD (0:Int).toNat default).Kind),ci ((l11.getD (0:Int).toNat default).At)])]⟩
def qEU (a1:Rect) (a2:Int) (a3:Int) (a4:List Node) (x7:Span) (l8:List Span) (l9:List (List Node)) (x10:Int) (l11:List Node) (x14:Bool):St:=
 ⟨[(1,vi a2),(2,vi a3),(3,vc (tl e_Node default a4)),(4,vp 0 0),(11,vp 1 0),(12,vo 2 0 2 l8.length),(13,vo 3 0 1 l9.length),(14,vi x10),(15,vc (tl e_Node default l11)),(42,vb x14)],[(0,bx 33 (qH a1)),(1,bx 31 (e_Span x7)),(2,ro 0 31 2 l8.length (rf e_Span l8)),(3,ro 0 44 1 l9.length (rf (qD e_Node) l9))]⟩
def CS (a1:Rect) (a2:Int) (a3:Int) (a4:List Node) (x7:Span) (l8:List Span) (l8n:Nat) (l9:List (List Node)) (l9n:Nat) (x10:Int) (l11:List Node):St:=
 ⟨[(1,vi a2),(2,vi a3),(3,vc (tl e_Node default a4)),(4,vp 0 0),(11,vp 1 0),(12,vo 2 0 2 l8n),(13,vo 3 0 1 l9n),(14,vi x10),(15,vc (tl e_Node default l11))],[(0,bx 33 (qH a1)),(1,bx 31 (e_Span x7)),(2,ro 0 31 2 l8n (rf e_Span l8)),(3,ro 0 44 1 l9n (rf (qD e_Node) l9))]⟩
def qEZ (a1:Rect) (a2:Int) (a3:Int) (a4:List Node) (x7:Span) (l31:List Span) (l32:List (List Node)) (x33:Int) (l34:List Node):St:=
 ⟨[(1,vi a2),(2,vi a3),(3,vc (tl e_Node default a4)),(4,vp 0 0),(11,vp 1 0),(12,vo 2 0 2 l31.length),(13,vo 3 0 1 l32.length),(14,vi x33),(15,vc (tl e_Node default l34))],[(0,bx 33 (qH a1)),(1,bx 31 (e_Span x7)),(2,ro 0 31 2 l31.length (rf e_Span l31)),(3,ro 0 44 1 l32.length (rf (qD e_Node) l32))]⟩
def qE2 (l43:List Span) (l44:List (List Node)) (x50:Bool):St:=
 ⟨[(12,vo 2 0 2 l43.length),(13,vo 3 0 1 l44.length),(123,vb x50)],[(2,ro 0 31 2 l43.length (rf e_Span l43)),(3,ro 0 44 1 l44.length (rf (qD e_Node) l44))]⟩
def qE3 (a1:Rect) (a2:Int) (a3:Int) (a4:List Node) (l43:List Span) (l43n:Nat) (l44:List (List Node)) (l44n:Nat):St:=
 ⟨[(1,vi a2),(2,vi a3),(3,vc (tl e_Node default a4)),(4,vp 0 0),(12,vo 2 0 2 l43n),(13,vo 3 0 1 l44n)],[(0,bx 33 (qH a1)),(2,ro 0 31 2 l43n (rf e_Span l43)),(3,ro 0 44 1 l44n (rf (qD e_Node) l44))]⟩
def qET (a1:Rect) (a2:Int) (a3:Int) (a4:List Node) (x7:Span) (o35:(List Span)×(List (List Node))×Int×(List Node)) (x39:Bool):St:=
 ⟨[(1,vi a2),(2,vi a3),(3,vc (tl e_Node default a4)),(4,vp 0 0),(11,vp 1 0),(12,vo 2 0 2 o35.1.length),(13,vo 3 0 1 o35.2.1.length),(14,vi o35.2.2.1),(15,vc (tl e_Node default o35.2.2.2)),(95,vb x39)],[(0,bx 33 (qH a1)),(1,bx 31 (e_Span x7)),(2,ro 0 31 2 o35.1.length (rf e_Span o35.1)),(3,ro 0 44 1 o35.2.1.length (rf (qD e_Node) o35.2.1))]⟩
def qE5 (a1:Rect) (a2:Int) (a3:Int) (a4:List Node) (x7:Span):St:=
 ⟨[(1,vi a2),(2,vi a3),(3,vc (tl e_Node default a4)),(4,vp 0 0),(11,vp 1 0)],[(0,bx 33 (qH a1)),(1,bx 31 (e_Span x7))]⟩
theorem qKL (E:Env 0) (a1:Rect) (a2:Int) (a3:Int) (a4:List Node) (x7:Span):∀(n:Nat) (l8:List Span) (l8n:Nat) (l9:List (List Node)) (l9n:Nat) (x10:Int) (l11:List Node) (res:(List Span)×(List (List Node))×Int×(List Node)),l8.length=l8n->l9.length=l9n->KY a2 a3 x7 n l8 l9 x10 l11=some res->HL (kx E 126 0) (nd Tryz.f52 4088) (zI 0 (λo=>qEZ a1 a2 a3 a4 x7 o.1 o.2.1 o.2.2.1 o.2.2.2) res) n (CS a1 a2 a3 a4 x7 l8 l8n l9 l9n x10 l11):=by
 intro n
 induction n with
 |zero=>
  intro l8 l8n l9 l9n x10 l11 res hl0 hl1 hm;cases hm
 |succ n ih=>
  intro l8 l8n l9 l9n x10 l11 res hl0 hl1 hm;subst hl0;subst hl1;refine qM ?_;refine q_sq ?_;refine q_jn (ι:=Bool) (λp=>qEU a1 a2 a3 a4 x7 l8 l9 x10 l11 p) (λp=>qC9 a3 x7 l8 l9 x10 l11 (KY a2 a3 x7 n) p=some res) ?_ ?_
  ·rintro x14 hm;show H _ (qEU a1 a2 a3 a4 x7 l8 l9 x10 l11 x14) _ _;refine q_cm hm (λb15 hm=>?_) (λb15 hm=>?_)
   ·refine q_sk ?_;refine q_bk 1 ?_;obtain⟨g16,hm⟩:=qG hm;refine s_vu [qd 1 (Dir.none) (inb_of g16)] 4 [42] [(16,vp 4 0)] [] [(4,bx 65 [ci ((l11.getD (0:Int).toNat default).Kind),ci ((l11.getD (0:Int).toNat default).At)])] ?_;obtain⟨g17,hm⟩:=qG hm;refine s_vu [qd 1 (drw ((l11.drop ((1:Int).toNat)).length) 0 (rf e_Node (l11.drop ((1:Int).toNat)))) (slPlo e_Node default l11 1 (And.intro (slOk_of g17).1 (slOk_of g17).2.1))] 5 [15] [(15,vc (tl e_Node default (l11.drop ((1:Int).toNat))))] [] [] ?_;obtain⟨v18,h19,hm⟩:=qA hm
    refine s_vu [qc 1 [48] 5 (qMW (l11.drop ((1:Int).toNat)) v18 h19)] 5 [] [(17,vi v18)] [] [] ?_;refine q_jn (ι:=(List Span)×Nat×(List (List Node))×Nat×Int) (λp=>qE0 a1 a2 a3 a4 x7 l11 v18 p.1 p.2.1 p.2.2.1 p.2.2.2.1 p.2.2.2.2) (λp=>p.1.length=p.2.1/\p.2.2.1.length=p.2.2.2.1/\qDe l11 (KY a2 a3 x7 n) v18 p.1 p.2.2.1 p.2.2.2.2=some res) ?_ ?_
    ·rintro⟨l27,l27n,l28,l28n,x29⟩ ⟨el27,el28,hm⟩;replace el27:l27.length=l27n:=el27;subst el27;replace el28:l28.length=l28n:=el28;subst el28;show H _ (qE0 a1 a2 a3 a4 x7 l11 v18 l27 l27.length l28 l28.length x29) _ _;obtain⟨g30,hm⟩:=qG hm;refine q_vu [qd 2 (drw (((l11.drop ((1:Int).toNat)).drop v18.toNat).length) 0 (rf e_Node ((l11.drop ((1:Int).toNat)).drop v18.toNat))) (slPlo e_Node default (l11.drop ((1:Int).toNat)) v18 (And.intro (slOk_of g30).1 (slOk_of g30).2.1))] 7 [15,17] [(15,vc (tl e_Node default ((l11.drop ((1:Int).toNat)).drop v18.toNat)))] [] [] ?_
     exact q_hl (CS a1 a2 a3 a4 x7 l27 l27.length l28 l28.length x29 ((l11.drop ((1:Int).toNat)).drop v18.toNat)) (ih l27 l27.length l28 l28.length x29 ((l11.drop ((1:Int).toNat)).drop v18.toNat) _ rfl rfl hm)
    ·refine q_jn (ι:=Bool) (λp=>qEV a1 a2 a3 a4 x7 l8 l9 x10 l11 v18 p) (λp=>qDl a3 x7 l8 l9 x10 l11 (KY a2 a3 x7 n) v18 p=some res) ?_ ?_
     ·rintro x22 hm;show H _ (qEV a1 a2 a3 a4 x7 l8 l9 x10 l11 v18 x22) _ _;refine q_cm hm (λb23 hm=>?_) (λb23 hm=>?_)
      ·refine q_vu [] 5 [14,16,58] [(14,vi (w64 (((l11.getD (0:Int).toNat default).At)+a3)))] [4] [] ?_;exact q_J (l8,l8.length,l9,l9.length,w64 (((l11.getD (0:Int).toNat default).At)+a3)) ⟨rfl,rfl,hm⟩
      ·obtain⟨g24,hm⟩:=qG hm
       refine s_vu [qd 5 (drw 5 0 (rf e_Span ([(Span.mk x10 ((l11.getD (0:Int).toNat default).At))]:List Span))) (litP e_Span default 2 (λ_=>rfl) ([(Span.mk x10 ((l11.getD (0:Int).toNat default).At))]:List Span) 1 rfl),qd 6 (drw 2 1 (rf e_Span (l8++([(Span.mk x10 ((l11.getD (0:Int).toNat default).At))]:List Span)))) (apP e_Span default l8 ([(Span.mk x10 ((l11.getD (0:Int).toNat default).At))]:List Span) l8.length 1 2 16 (1<=1) (Nat.le_refl _) rfl rfl (λ_=>rfl) (zL g24))] 5 [12,14,58] [(12,vo 2 1 2 (l8.length+1))] [2] [(2,ro 1 31 2 (l8.length+1) (rf e_Span (l8++([(Span.mk x10 ((l11.getD (0:Int).toNat default).At))]:List Span))))] ?_
       obtain⟨g25,hm⟩:=qG hm;obtain⟨g26,hm⟩:=qG hm
       refine s_vu [qd 3 (drw (((l11.drop ((1:Int).toNat)).take v18.toNat).length) 0 (rf e_Node ((l11.drop ((1:Int).toNat)).take v18.toNat))) (slPhi e_Node default (l11.drop ((1:Int).toNat)) v18 (And.intro (slOk_of g25).2.1 (slOk_of g25).2.2)),qd 4 (drw 6 0 (rf (qD e_Node) ([((l11.drop ((1:Int).toNat)).take v18.toNat)]:List (List Node)))) (litP (qD e_Node) default 1 (λ_=>rfl) ([((l11.drop ((1:Int).toNat)).take v18.toNat)]:List (List Node)) 1 rfl),qd 5 (drw 3 1 (rf (qD e_Node) (l9++([((l11.drop ((1:Int).toNat)).take v18.toNat)]:List (List Node))))) (apP (qD e_Node) default l9 ([((l11.drop ((1:Int).toNat)).take v18.toNat)]:List (List Node)) l9.length 1 1 24 (1<=1) (Nat.le_refl _) rfl rfl (λ_=>rfl) (zL g26))] 6 [13] [(13,vo 3 1 1 (l9.length+1))] [3] [(3,ro 1 44 1 (l9.length+1) (rf (qD e_Node) (l9++([((l11.drop ((1:Int).toNat)).take v18.toNat)]:List (List Node)))))] ?_
       refine q_vu [] 7 [16] [(14,vi (imin (w64 (((l11.getD (0:Int).toNat default).At)+a3)) x7.B))] [4] [] ?_;exact q_J ((l8++([(Span.mk x10 ((l11.getD (0:Int).toNat default).At))]:List Span)),(l8.length+1),(l9++([((l11.drop ((1:Int).toNat)).take v18.toNat)]:List (List Node))),(l9.length+1),imin (w64 (((l11.getD (0:Int).toNat default).At)+a3)) x7.B) ⟨(len_app rfl rfl),(len_app rfl rfl),hm⟩
     ·rcases bif_c hm with⟨b20,hm⟩|⟨b20,hm⟩
      ·obtain⟨g21,hm⟩:=qG hm;refine q_vu [qf 2 b20,qd 4 (Dir.none) (inb_of g21)] 5 [] [(58,vb ((((l11.drop ((1:Int).toNat)).getD (0:Int).toNat default).Kind)==0))] [] [] ?_;exact q_J ((((l11.drop ((1:Int).toNat)).getD (0:Int).toNat default).Kind)==0) hm
      ·refine q_vu [qf 2 b20] 5 [] [(58,vb false)] [] [] ?_;exact q_J (false) hm
   ·refine q_ex 0 ?_;obtain rfl:=oi hm;exact wD (by kernel_rfl) (by kernel_rfl)
  ·rcases bif_c hm with⟨b12,hm⟩|⟨b12,hm⟩
   ·obtain⟨g13,hm⟩:=qG hm;refine q_vu [qf 3 b12,qd 5 (Dir.none) (inb_of g13)] 4 [] [(42,vb (((l11.getD (0:Int).toNat default).Kind)==a2))] [] [] ?_;exact q_J (((l11.getD (0:Int).toNat default).Kind)==a2) hm
   ·refine q_vu [qf 3 b12] 4 [] [(42,vb false)] [] [] ?_;exact q_J (false) hm
theorem qHc (a1:Rect) (a2:Int) (a3:Int) (a4:List Node) (r:(List Span)×(List (List Node))×Bool) (hm:qEJ a1 a2 a3 a4=some r):CtX Tryz.prog globs 52 0 0 [.agg (qH a1),.one (ci a2),.one (ci a3),.one (tl e_Node default a4)] [] (qQo r) (qQj r):=by
 unfold qEJ at hm;refine q_E Tryz.f52 126 λE=>?_;refine s_vn [] 0 ⟨[(1,vi a2),(2,vi a3),(3,vc (tl e_Node default a4)),(4,vp 0 0)],[(0,bx 33 (qH a1))]⟩ ?_;refine q_sq ?_;refine s_vu [] 1 [] [(22,vb (decide (((a4.length:Nat):Int)>127)))] [] [] ?_;refine q_cm hm (λb5 hm=>?_) (λb5 hm=>?_)
 ·refine s_vn [] 1 ⟨[(8,vc (.emp)),(9,vc (.emp)),(10,vb false)],[]⟩ ?_;refine q_fn [.own 8 1 31 2 (rf e_Span ([]:List Span))] ⟨[(8,vo 1 0 2 0),(9,vc (.emp)),(10,vb false)],[(1,ro 0 31 2 0 (rf e_Span ([]:List Span)))]⟩ o0 ?_;refine q_fn [.own 9 2 44 1 (rf (qD e_Node) ([]:List (List Node)))] ⟨[(8,vo 1 0 2 0),(9,vo 2 0 1 0),(10,vb false)],[(1,ro 0 31 2 0 (rf e_Span ([]:List Span))),(2,ro 0 44 1 0 (rf (qD e_Node) ([]:List (List Node))))]⟩ o0 ?_
  refine q_fn [.len 1 (([]:List Span).length)] ⟨[(8,vo 1 0 2 (([]:List Span).length)),(9,vo 2 0 1 0),(10,vb false)],[(1,ro 0 31 2 (([]:List Span).length) (rf e_Span ([]:List Span))),(2,ro 0 44 1 0 (rf (qD e_Node) ([]:List (List Node))))]⟩ (o1 (And.intro (show 0=([]:List Span).length from rfl) (show 0=([]:List Span).length from rfl))) ?_
  refine q_fn [.len 2 (([]:List (List Node)).length)] ⟨[(8,vo 1 0 2 (([]:List Span).length)),(9,vo 2 0 1 (([]:List (List Node)).length)),(10,vb false)],[(1,ro 0 31 2 (([]:List Span).length) (rf e_Span ([]:List Span))),(2,ro 0 44 1 (([]:List (List Node)).length) (rf (qD e_Node) ([]:List (List Node))))]⟩ (o1 (And.intro (show 0=([]:List (List Node)).length from rfl) (show 0=([]:List (List Node)).length from rfl))) ?_;obtain rfl:=oi hm;refine qW 1 0 (by kernel_rfl) ?_;refine qW 2 1 (by kernel_rfl) ?_;refine q_rt ?_;exact q_rm
 ·refine q_sk ?_;refine s_vu [] 1 [22] [(11,vp 1 0)] [] [(1,bx 31 (e_Span a1.X))] ?_;refine q_jn (ι:=Span) (λp=>qE5 a1 a2 a3 a4 p) (λp=>qDa a1 a2 a3 a4 p=some r) ?_ ?_
  ·rintro x7 hm;show H _ (qE5 a1 a2 a3 a4 x7) _ _;refine s_vu [] 2 [] [(12,vc (.emp))] [] [] ?_;refine s_vu [] 2 [] [(13,vc (.emp))] [] [] ?_;refine s_vu [] 2 [] [(14,vi x7.A)] [] [] ?_;refine s_vu [] 2 [] [(15,vc (tl e_Node default a4))] [] [] ?_;refine q_sq ?_;refine q_fn [.own 12 2 31 2 (rf e_Span ([]:List Span))] ⟨[(1,vi a2),(2,vi a3),(3,vc (tl e_Node default a4)),(4,vp 0 0),(11,vp 1 0),(12,vo 2 0 2 0),(13,vc (.emp)),(14,vi x7.A),(15,vc (tl e_Node default a4))],[(0,bx 33 (qH a1)),(1,bx 31 (e_Span x7)),(2,ro 0 31 2 0 (rf e_Span ([]:List Span)))]⟩ o0 ?_
   refine q_fn [.own 13 3 44 1 (rf (qD e_Node) ([]:List (List Node)))] ⟨[(1,vi a2),(2,vi a3),(3,vc (tl e_Node default a4)),(4,vp 0 0),(11,vp 1 0),(12,vo 2 0 2 0),(13,vo 3 0 1 0),(14,vi x7.A),(15,vc (tl e_Node default a4))],[(0,bx 33 (qH a1)),(1,bx 31 (e_Span x7)),(2,ro 0 31 2 0 (rf e_Span ([]:List Span))),(3,ro 0 44 1 0 (rf (qD e_Node) ([]:List (List Node))))]⟩ o0 ?_;obtain⟨o35,h36,hm⟩:=qA hm
   refine zD (nd Tryz.f52 4088) 0 (by kernel_rfl) FUEL (λo=>qEZ a1 a2 a3 a4 x7 o.1 o.2.1 o.2.2.1 o.2.2.2) o35 (q_hl (CS a1 a2 a3 a4 x7 ([]:List Span) 0 ([]:List (List Node)) 0 x7.A a4) (qKL E a1 a2 a3 a4 x7 FUEL ([]:List Span) 0 ([]:List (List Node)) 0 x7.A a4 o35 rfl rfl h36)) ?_;refine q_jn (ι:=(List Span)×Nat×(List (List Node))×Nat) (λp=>qE3 a1 a2 a3 a4 p.1 p.2.1 p.2.2.1 p.2.2.2) (λp=>p.1.length=p.2.1/\p.2.2.1.length=p.2.2.2/\qC6 a1 a2 a3 a4 p.1 p.2.2.1=some r) ?_ ?_
   ·rintro⟨l43,l43n,l44,l44n⟩ ⟨el43,el44,hm⟩;replace el43:l43.length=l43n:=el43;subst el43;replace el44:l44.length=l44n:=el44;subst el44;show H _ (qE3 a1 a2 a3 a4 l43 l43.length l44 l44.length) _ _;obtain⟨v45,h46,hm⟩:=qA hm
    refine s_vu [qd 5 (dex (cen [] [] 6 0 (XU v45) (ZE v45) [108,109,110,111,112] [2,3])) (wJ (K:=(kx E 126 0)) (b:=false) ⟨[(108,va (qH a1)),(109,vi a2),(110,vi a3),(111,vo 2 0 2 l43.length),(112,vo 3 0 1 l44.length)],[(2,ro 0 31 2 l43.length (rf e_Span l43)),(3,ro 0 44 1 l44.length (rf (qD e_Node) l44))]⟩ (opAt (rg Tryz.f52 4094) 5) [] [] 6 (o1 (And.intro (Nat.le_refl l43.length) (Nat.le_refl l44.length))) rfl (pattern_Row_ok a1 a2 a3 l43 l44 v45 h46) (.inr ⟨(by kernel_rfl),CR v45⟩) (by kernel_rfl))] 6 [1,2,4] [(18,vo 6 0 2 v45.1.length),(19,vi v45.2)] [0] [(6,ro 0 65 2 v45.1.length (rf e_Node v45.1))] ?_
    refine q_sq ?_;refine q_jn (ι:=Bool) (λp=>qE2 l43 l44 p) (λp=>qDc l43 l44 p=some r) ?_ ?_
    ·rintro x50 hm;show H _ (qE2 l43 l44 x50) _ _;refine q_cm hm (λb51 hm=>?_) (λb51 hm=>?_)
     ·refine s_vn [] 7 ⟨[(8,vc (.emp)),(9,vc (.emp)),(10,vb false)],[]⟩ ?_;refine q_fn [.own 8 7 31 2 (rf e_Span ([]:List Span))] ⟨[(8,vo 7 0 2 0),(9,vc (.emp)),(10,vb false)],[(7,ro 0 31 2 0 (rf e_Span ([]:List Span)))]⟩ o0 ?_;refine q_fn [.own 9 8 44 1 (rf (qD e_Node) ([]:List (List Node)))] ⟨[(8,vo 7 0 2 0),(9,vo 8 0 1 0),(10,vb false)],[(7,ro 0 31 2 0 (rf e_Span ([]:List Span))),(8,ro 0 44 1 0 (rf (qD e_Node) ([]:List (List Node))))]⟩ o0 ?_
      refine q_fn [.len 7 (([]:List Span).length)] ⟨[(8,vo 7 0 2 (([]:List Span).length)),(9,vo 8 0 1 0),(10,vb false)],[(7,ro 0 31 2 (([]:List Span).length) (rf e_Span ([]:List Span))),(8,ro 0 44 1 0 (rf (qD e_Node) ([]:List (List Node))))]⟩ (o1 (And.intro (show 0=([]:List Span).length from rfl) (show 0=([]:List Span).length from rfl))) ?_
      refine q_fn [.len 8 (([]:List (List Node)).length)] ⟨[(8,vo 7 0 2 (([]:List Span).length)),(9,vo 8 0 1 (([]:List (List Node)).length)),(10,vb false)],[(7,ro 0 31 2 (([]:List Span).length) (rf e_Span ([]:List Span))),(8,ro 0 44 1 (([]:List (List Node)).length) (rf (qD e_Node) ([]:List (List Node))))]⟩ (o1 (And.intro (show 0=([]:List (List Node)).length from rfl) (show 0=([]:List (List Node)).length from rfl))) ?_;obtain rfl:=oi hm;refine qW 7 0 (by kernel_rfl) ?_;refine qW 8 1 (by kernel_rfl) ?_;refine q_rt ?_;exact q_rm
     ·refine q_sk ?_;refine s_vu [] 7 [12,13,123] [(8,vo 2 0 2 l43.length),(9,vo 3 0 1 l44.length),(10,vb true)] [] [] ?_;obtain rfl:=oi hm;refine qW 2 0 (by kernel_rfl) ?_;refine qW 3 1 (by kernel_rfl) ?_;refine q_rt ?_;exact q_rm
    ·rcases bif_c hm with⟨b47,hm⟩|⟨b47,hm⟩
     ·refine q_vu [qf 2 b47] 7 [3,18,19] [(123,vb true)] [6] [] ?_;exact q_J (true) hm
     ·obtain⟨v48,h49,hm⟩:=qA hm;refine q_vu [qf 2 b47,qd 5 (dex (cen [] [] 7 0 (YC v48) (jT v48) [118,119,120] [6])) (wJ (K:=(kx E 126 0)) (b:=false) ⟨[(118,vb false),(119,vc (tl e_Node default a4)),(120,vo 6 0 2 v45.1.length)],[(6,ro 0 65 2 v45.1.length (rf e_Node v45.1))]⟩ (opAt (rg Tryz.f52 16380) 5) [] [] 7 (o1 (Nat.le_refl v45.1.length)) rfl (qDU a4 v45.1 v48 h49) (.inr ⟨(by kernel_rfl),qEr v48⟩) (by kernel_rfl))] 7 [3,18,19] [(123,vb (!v48))] [6] [] ?_;exact q_J (!v48) hm
   ·refine q_jn (ι:=Bool) (λp=>qET a1 a2 a3 a4 x7 o35 p) (λp=>qDf a1 a2 a3 a4 x7 o35 p=some r) ?_ ?_
    ·rintro x39 hm;show H _ (qET a1 a2 a3 a4 x7 o35 x39) _ _;refine q_cm hm (λb40 hm=>?_) (λb40 hm=>?_)
     ·obtain⟨g41,hm⟩:=qG hm;refine s_vu [qd 5 (drw 4 0 (rf e_Span ([(Span.mk o35.2.2.1 x7.B)]:List Span))) (litP e_Span default 2 (λ_=>rfl) ([(Span.mk o35.2.2.1 x7.B)]:List Span) 1 rfl),qd 6 (drw 2 1 (rf e_Span (o35.1++([(Span.mk o35.2.2.1 x7.B)]:List Span)))) (apP e_Span default o35.1 ([(Span.mk o35.2.2.1 x7.B)]:List Span) o35.1.length 1 2 16 (1<=1) (Nat.le_refl _) rfl rfl (λ_=>rfl) (zL g41))] 4 [11,12,14,95] [(12,vo 2 1 2 (o35.1.length+1))] [1,2] [(2,ro 1 31 2 (o35.1.length+1) (rf e_Span (o35.1++([(Span.mk o35.2.2.1 x7.B)]:List Span))))] ?_;obtain⟨g42,hm⟩:=qG hm
      refine q_vu [qd 2 (drw 5 0 (rf (qD e_Node) ([o35.2.2.2]:List (List Node)))) (litP (qD e_Node) default 1 (λ_=>rfl) ([o35.2.2.2]:List (List Node)) 1 rfl),qd 3 (drw 3 1 (rf (qD e_Node) (o35.2.1++([o35.2.2.2]:List (List Node))))) (apP (qD e_Node) default o35.2.1 ([o35.2.2.2]:List (List Node)) o35.2.1.length 1 1 24 (1<=1) (Nat.le_refl _) rfl rfl (λ_=>rfl) (zL g42))] 5 [13,15] [(13,vo 3 1 1 (o35.2.1.length+1))] [3] [(3,ro 1 44 1 (o35.2.1.length+1) (rf (qD e_Node) (o35.2.1++([o35.2.2.2]:List (List Node)))))] ?_
      exact q_J ((o35.1++([(Span.mk o35.2.2.1 x7.B)]:List Span)),(o35.1.length+1),(o35.2.1++([o35.2.2.2]:List (List Node))),(o35.2.1.length+1)) ⟨(len_app rfl rfl),(len_app rfl rfl),hm⟩
     ·refine q_sk ?_;exact q_J (o35.1,o35.1.length,o35.2.1,o35.2.1.length) ⟨rfl,rfl,hm⟩
    ·rcases bif_c hm with⟨b37,hm⟩|⟨b37,hm⟩
     ·obtain⟨g38,hm⟩:=qG hm;refine q_vu [qf 3 b37,qd 5 (Dir.none) (inb_of g38)] 4 [] [(95,vb (((o35.2.2.2.getD (0:Int).toNat default).Kind) !=0))] [] [] ?_;exact q_J (((o35.2.2.2.getD (0:Int).toNat default).Kind) !=0) hm
     ·refine q_vu [qf 3 b37] 4 [] [(95,vb false)] [] [] ?_;exact q_J (false) hm
  ·refine s_vu [] 2 [] [(26,vb (a2==3))] [] [] ?_;refine q_cm hm (λb6 hm=>?_) (λb6 hm=>?_)
   ·refine q_vu [] 2 [26] [] [1] [(1,bx 31 (e_Span a1.Y))] ?_;exact q_J (a1.Y) hm
   ·refine q_sk ?_;exact q_J (a1.X) hm
end Saw
end Go.SL

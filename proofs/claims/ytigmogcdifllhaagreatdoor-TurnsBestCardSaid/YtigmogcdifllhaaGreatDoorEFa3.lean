import Derived.Test.YtigmogcdifllhaaGreatDoorEBase
import Derived.Test.YtigmogcdifllhaaGreatDoorEFa2
set_option linter.unusedVariables false
set_option linter.unusedSimpArgs false
namespace Go.SL
namespace Saw
open Go.Proofs Go.Proofs.Tryz
set_option maxHeartbeats 4000000
set_option maxRecDepth 100000
def qVP (r:Int):V:=vi r
def qUO (r:Int):List (Nat×(Nat×O)):=[]
theorem qSR (a1:qA) (a2:qA) (a3:qA) (r:Int) (hm:qAN a1 a2 a3=some r):CtX Tryz.prog globs 255 0 0 [.agg (qF a1),.agg (qF a2),.agg (qF a3)] [] (qVP r) (qUO r):=by
 unfold qAN at hm;refine q_E f255 30 λE=>?_;refine s_vn [] 0 ⟨[(3,vp 0 0),(4,vp 1 0),(5,vp 2 0)],[(0,bx 93 (qF a1)),(1,bx 93 (qF a2)),(2,bx 93 (qF a3))]⟩ (s_vn [] 3 ⟨[(6,vi (w64 ((w64 ((w64 (a2.X-a1.X))*(w64 (a3.Y-a1.Y))))-(w64 ((w64 (a3.X-a1.X))*(w64 (a2.Y-a1.Y)))))))],[]⟩ ?_);obtain rfl:=oi hm;exact q_rt q_rm
def qFd (r:(List qA)):V:=vo 0 0 2 r.length
def HE (r:(List qA)):List (Nat×(Nat×O)):=[(0,ro 0 93 2 r.length (rf qF r))]
theorem qKN (r:(List qA)):QQ (HE r):=by
 intro i k o h;unfold HE at h;rw[look_cons] at h;split at h
 ·cases h;exact λ_ _=>rfl
 ·cases h
def GA (a1:List qA) (x3:Int):St:=
 ⟨[(5,vp 1 0),(6,vc (tl qF du a1)),(7,vi (a1.length:Int)),(8,vi x3)],[(1,bx 93 (qF (a1.getD x3.toNat du)))]⟩
def qPn (a1:List qA) (x3:Int) (l6:List qA) (x12:Bool):St:=
 (GA a1 x3).up [] [(3,vo 0 0 2 l6.length),(31,vb x12)] [] [(0,ro 0 93 2 l6.length (rf qF l6))]
def qAR (a1:List qA) (x3:Int) (l6:List qA) (l6n:Nat):St:=
 (GA a1 x3).up [] [(3,vo 0 0 2 l6n)] [] [(0,ro 0 93 2 l6n (rf qF l6))]
def qGV (a1:List qA) (x3:Int) (l15:List qA):St:=
 (GA a1 x3).up [] [(3,vo 0 0 2 l15.length)] [] [(0,ro 0 93 2 l15.length (rf qF l15))]
def qBh (a1:List qA) (l2:List qA) (l2n:Nat) (x3:Int):St:=
 (GA a1 x3).up [5] [(3,vo 0 0 2 l2n)] [1] [(0,ro 0 93 2 l2n (rf qF l2))]
def qGg (l19:List qA):St:=
 ⟨[(3,vo 0 0 2 l19.length)],[(0,ro 0 93 2 l19.length (rf qF l19))]⟩
theorem qNd (E:Env 0) (a1:List qA) (x3:Int):∀(n:Nat) (l6:List qA) (l6n:Nat) (res:(List qA)),l6.length=l6n->KP a1 x3 n l6=some res->HL (kx E 47 0) (nd f233 29896) (zN 2 (λo=>qGV a1 x3 o) res) n (qAR a1 x3 l6 l6n):=by
 intro n
 induction n with
 |zero=>
  intro l6 l6n res hl0 hm;cases hm
 |succ n ih=>
  intro l6 l6n res hl0 hm;subst hl0;refine qU (q_sq ?_);refine q_jn (qPn a1 x3 l6) (λp=>OF l6 (KP a1 x3 n) p=some res) ?_ ?_
  ·rintro x12 hm;refine q_cq hm (λhm=>?_) (λhm=>?_)
   ·refine q_sk (q_bk 3 ?_);obtain⟨g14,hm⟩:=qJ hm
    exact q_wu [qd 4 dN (And.intro (zP g14).2.1 (zP g14).2.2)] [.row 0 ((w64 ((l6.length:Int)-1)).toNat) (rf qF (l6.take ((w64 ((l6.length:Int)-1)).toNat)))] (o1 (tkP qF du l6 l6.length ((w64 ((l6.length:Int)-1)).toNat) (show(w64 ((l6.length:Int)-1)).toNat<=l6.length by have:=(zP g14);omega))) 2 [3,31] [(3,vo 0 0 2 ((w64 ((l6.length:Int)-1)).toNat))] [0] [(0,ro 0 93 2 ((w64 ((l6.length:Int)-1)).toNat) (rf qF (l6.take ((w64 ((l6.length:Int)-1)).toNat))))] (q_hl (qAR a1 x3 (l6.take ((w64 ((l6.length:Int)-1)).toNat)) ((w64 ((l6.length:Int)-1)).toNat)) (ih (l6.take ((w64 ((l6.length:Int)-1)).toNat)) ((w64 ((l6.length:Int)-1)).toNat) _ (WQ rfl (show(w64 ((l6.length:Int)-1)).toNat<=l6.length by have:=(zP g14);omega)) hm))
   ·refine q_ex 2 ?_;obtain rfl:=oi hm;exact q_l0
  ·rcases bif_c hm with⟨b7,hm⟩|⟨b7,hm⟩
   ·obtain⟨g8,hm⟩:=qJ hm;obtain⟨g9,hm⟩:=qJ hm;obtain⟨v10,h11,hm⟩:=qC hm
    exact q_du [qf 3 b7,qi 8 g8,qd 9 dN (qT (zB g8)),qi 14 g9,qd 15 dN (qT (zB g9)),qk 17 [15,21,27,28] 2 ⟨[(15,vb true),(21,va [ci ((l6.getD ((w64 ((l6.length:Int)-2)).toNat) du).X),ci ((l6.getD ((w64 ((l6.length:Int)-2)).toNat) du).Y)]),(27,va [ci ((l6.getD ((w64 ((l6.length:Int)-1)).toNat) du).X),ci ((l6.getD ((w64 ((l6.length:Int)-1)).toNat) du).Y)]),(28,va [ci ((a1.getD x3.toNat du).X),ci ((a1.getD x3.toNat du).Y)])],[]⟩ (qSR (l6.getD ((w64 ((l6.length:Int)-2)).toNat) du) (l6.getD ((w64 ((l6.length:Int)-1)).toNat) du) (a1.getD x3.toNat du) v10 h11)] [0,1,3,7,15,15,47,111,255,511,15,15,2063,6159,15375,31759,15,131071,262143,524287] 2 [] [(31,vb (decide (v10<=0)))] [] [] (q_J (decide (v10<=0)) hm)
   ·exact q_du [qf 3 b7] [0,1,3,7,15,15,47,111,255,511,15,15,2063,6159,15375,31759,15,131071,262143,524287] 2 [] [(31,vb false)] [] [] (q_J (false) hm)
theorem qNM (E:Env 0) (a1:List qA):∀(n:Nat) (l2:List qA) (l2n:Nat) (x3:Int) (res:(List qA)),l2.length=l2n->NY a1 n l2 x3=some res->HL (kx E 47 0) (nd f233 116) (zN 0 qGg res) n (qBh a1 l2 l2n x3):=by
 intro n
 induction n with
 |zero=>
  intro l2 l2n x3 res hl0 hm;cases hm
 |succ n ih=>
  intro l2 l2n x3 res hl0 hm;subst hl0;refine qU (s_va 1 [(9,vb (decide (x3<(a1.length:Int))))] ?_);refine q_sq (q_cq hm (λhm=>?_) (λhm=>?_))
  ·refine q_sk (q_sq ?_);refine q_bk 1 ?_;obtain⟨g5,hm⟩:=qJ hm;refine s_vu [qi 0 g5] 1 [9] [(5,vp 1 0)] [] [(1,bx 93 (qF (a1.getD x3.toNat du)))] (q_sq ?_);obtain⟨o16,h17,hm⟩:=qC hm;refine zI (nd f233 29896) 2 (by kernel_rfl) FUEL (λo=>qGV a1 x3 o) o16 (q_hl (qAR a1 x3 l2 l2.length) (qNd E a1 x3 FUEL l2 l2.length o16 rfl h17)) ?_;obtain⟨g18,hm⟩:=qJ hm
   refine q_vu [qd 2 (drw 2 0 (rf qF [(a1.getD x3.toNat du)])) (litP qF du 2 (λ_=>rfl) ([(a1.getD x3.toNat du)]:List qA) 1 rfl),qd 3 (drw 0 1 (rf qF (o16++[(a1.getD x3.toNat du)]))) (apP qF du o16 ([(a1.getD x3.toNat du)]:List qA) o16.length 1 2 16 (1<=1) (ke _) rfl rfl (λ_=>rfl) (wB g18))] 2 [3,5] [(3,vo 0 1 2 (o16.length+1))] [0,1] [(0,ro 1 93 2 (o16.length+1) (rf qF (o16++[(a1.getD x3.toNat du)])))] (q_vv [] 3 [8] [(8,vi (w64 (x3+1)))] ?_)
   exact q_hl (qBh a1 (o16++[(a1.getD x3.toNat du)]) (o16.length+1) (w64 (x3+1))) (ih (o16++[(a1.getD x3.toNat du)]) (o16.length+1) (w64 (x3+1)) _ (wC rfl rfl) hm)
  ·refine q_ex 0 ?_;obtain rfl:=oi hm;exact q_l0
theorem qJD (a1:List qA) (r:(List qA)) (hm:SY a1=some r):CtX Tryz.prog globs 233 0 0 [.one (tl qF du a1)] [] (qFd r) (HE r):=by
 unfold SY at hm;refine q_E f233 47 λE=>?_;refine s_vn [] 0 ⟨[(0,vc (tl qF du a1))],[]⟩ (s_va 0 [(3,vc (.emp))] ?_);refine q_sq (s_vv [] 0 [0] [(6,vc (tl qF du a1)),(7,vi (a1.length:Int)),(8,vi 0)] ?_);refine q_fo 3 0 93 2 qF ?_;obtain⟨o20,h21,hm⟩:=qC hm;refine zI (nd f233 116) 0 (by kernel_rfl) FUEL qGg o20 (q_hl (qBh a1 ([]:List qA) 0 0) (qNM E a1 FUEL ([]:List qA) 0 0 o20 rfl h21)) ?_;obtain⟨g22,hm⟩:=qJ hm
 refine s_wn [qd 4 dN (And.intro (zP g22).2.1 (zP g22).2.2)] [.row 0 ((w64 ((o20.length:Int)-1)).toNat) (rf qF (o20.take ((w64 ((o20.length:Int)-1)).toNat)))] (o1 (tkP qF du o20 o20.length ((w64 ((o20.length:Int)-1)).toNat) (show(w64 ((o20.length:Int)-1)).toNat<=o20.length by have:=(zP g22);omega))) 1 ⟨[(2,vo 0 0 2 ((w64 ((o20.length:Int)-1)).toNat))],[(0,ro 0 93 2 ((w64 ((o20.length:Int)-1)).toNat) (rf qF (o20.take ((w64 ((o20.length:Int)-1)).toNat))))]⟩ ?_
 refine q_fn [.len 0 ((o20.take ((w64 ((o20.length:Int)-1)).toNat)).length)] ⟨[(2,vo 0 0 2 ((o20.take ((w64 ((o20.length:Int)-1)).toNat)).length))],[(0,ro 0 93 2 ((o20.take ((w64 ((o20.length:Int)-1)).toNat)).length) (rf qF (o20.take ((w64 ((o20.length:Int)-1)).toNat))))]⟩ (o1 (And.intro (Eq.symm (show(o20.take ((w64 ((o20.length:Int)-1)).toNat)).length=(w64 ((o20.length:Int)-1)).toNat from(WQ rfl (show(w64 ((o20.length:Int)-1)).toNat<=o20.length by have:=(zP g22);omega)))) (Eq.symm (show(o20.take ((w64 ((o20.length:Int)-1)).toNat)).length=(w64 ((o20.length:Int)-1)).toNat from(WQ rfl (show(w64 ((o20.length:Int)-1)).toNat<=o20.length by have:=(zP g22);omega)))))) ?_
 obtain rfl:=oi hm;exact q_rt q_rm
def ES (a1:List qA) (r:(List qA)):V:= .undef
def EU (a1:List qA) (r:(List qA)):List (Nat×(Nat×O)):=[(0,ro 0 93 2 r.length (rf qF r))]
def KN (l2:List qA) (l2n:Nat) (x3:Int) (x4:Int):St:=
 ⟨[(0,vo 0 0 2 l2n),(2,vi x3),(3,vi x4)],[(0,ro 0 93 2 l2n (rf qF l2))]⟩
def FL (l8:List qA):St:=
 ⟨[],[(0,ro 0 93 2 l8.length (rf qF l8))]⟩
theorem qC7 (E:Env 1):∀(n:Nat) (l2:List qA) (l2n:Nat) (x3:Int) (x4:Int) (res:(List qA)),l2.length=l2n->QN n l2 x3 x4=some res->HL (kx E 28 1) (nd f234 12) (zN 0 FL res) n (KN l2 l2n x3 x4):=by
 intro n
 induction n with
 |zero=>
  intro l2 l2n x3 x4 res hl0 hm;cases hm
 |succ n ih=>
  intro l2 l2n x3 x4 res hl0 hm;subst hl0;refine qU (q_sq ?_);refine s_va 1 [(9,vb (decide (x3<x4)))] (q_cq hm (λhm=>?_) (λhm=>?_))
  ·refine q_sk (q_sq ?_);refine q_bk 1 ?_;obtain⟨g6,hm⟩:=qJ hm;obtain⟨g7,hm⟩:=qJ hm
   refine q_du [qi 6 g6,qd 7 dN (qT (zB g6)),qi 10 g7,qd 11 dN (qT (zB g7)),qi 12 g7,qd 13 (drw 0 0 (rf qF (l2.set x3.toNat (l2.getD x4.toNat du)))) (stP qF du (l2.getD x4.toNat du) l2 l2.length x3.toNat 0 [ci ((l2.getD x4.toNat du).X),ci ((l2.getD x4.toNat du).Y)] rfl (qT (zB g7)) rfl),qi 14 g6,qd 15 (drw 0 0 (rf qF ((l2.set x3.toNat (l2.getD x4.toNat du)).set x4.toNat (l2.getD x3.toNat du)))) (stP qF du (l2.getD x3.toNat du) (l2.set x3.toNat (l2.getD x4.toNat du)) l2.length x4.toNat 0 [ci ((l2.getD x3.toNat du).X),ci ((l2.getD x3.toNat du).Y)] (QE rfl) (qT (zB g6)) rfl)] [0,0,0,0,0,0,48,112,0,0,768,1792,4083,8179,16383,32767] 1 [9] [] [0] [(0,ro 0 93 2 l2.length (rf qF ((l2.set x3.toNat (l2.getD x4.toNat du)).set x4.toNat (l2.getD x3.toNat du))))] ?_
   exact q_vv [] 1 [2,3] [(2,vi (w64 (x3+1))),(3,vi (w64 (x4-1)))] (q_hl (KN ((l2.set x3.toNat (l2.getD x4.toNat du)).set x4.toNat (l2.getD x3.toNat du)) l2.length (w64 (x3+1)) (w64 (x4-1))) (ih ((l2.set x3.toNat (l2.getD x4.toNat du)).set x4.toNat (l2.getD x3.toNat du)) l2.length (w64 (x3+1)) (w64 (x4-1)) _ (QE (QE rfl)) hm))
  ·refine q_ex 0 ?_;obtain rfl:=oi hm;exact q_l0
theorem qEM (a1:List qA) (r:(List qA)) (hm:WF a1=some r):CtX Tryz.prog globs 234 1 1 [.one (.own 0 0 2 a1.length)] [(0,ro 0 93 2 a1.length (rf qF a1))] (ES a1 r) (EU a1 r):=by
 unfold WF at hm;refine q_E f234 28 λE=>?_;refine s_vn [] 1 ⟨[(0,vo 0 0 2 a1.length),(2,vi 0),(3,vi (w64 ((a1.length:Int)-1)))],[(0,ro 0 93 2 a1.length (rf qF a1))]⟩ ?_;obtain⟨o9,h10,hm⟩:=qC hm;refine zI (nd f234 12) 0 (by kernel_rfl) FUEL FL o9 (q_hl (KN a1 a1.length 0 (w64 ((a1.length:Int)-1))) (qC7 E FUEL a1 a1.length 0 (w64 ((a1.length:Int)-1)) o9 rfl h10)) ?_;obtain rfl:=oi hm;exact q_rm
def qWr (r:(List qA)):V:=vo 0 0 2 r.length
def qWS (r:(List qA)):List (Nat×(Nat×O)):=[(0,ro 0 93 2 r.length (rf qF r))]
def qRe (a1:List qA) (x6:Bool):St:=
 ⟨[(0,vc (tl qF du a1)),(17,vb x6)],[]⟩
theorem qVp (a1:List qA) (r:(List qA)) (hm:qC0 a1=some r):CtX Tryz.prog globs 201 0 0 [.one (tl qF du a1)] [] (qWr r) (qWS r):=by
 unfold qC0 at hm;refine q_E f201 36 λE=>?_;refine s_vn [] 0 ⟨[(0,vc (tl qF du a1))],[]⟩ (q_sq ?_);refine q_jn (qRe a1) (λp=>SC a1 p=some r) ?_ ?_
 ·rintro x6 hm;refine q_cq hm (λhm=>?_) (λhm=>?_)
  ·refine s_vn [] 0 ⟨[(2,vc (.emp))],[]⟩ (q_fn [.own 2 0 93 2 (rf qF [])] ⟨[(2,vo 0 0 2 0)],[(0,ro 0 93 2 0 (rf qF []))]⟩ o0 ?_);refine q_fn [.len 0 (([]:List qA).length)] ⟨[(2,vo 0 0 2 (([]:List qA).length))],[(0,ro 0 93 2 (([]:List qA).length) (rf qF []))]⟩ (o1 (And.intro (show 0=([]:List qA).length from rfl) (show 0=([]:List qA).length from rfl))) ?_;obtain rfl:=oi hm;exact q_rt q_rm
  ·refine q_sk ?_;obtain⟨v8,h9,hm⟩:=qC hm;refine s_vn [qc 1 [18] 0 (qHc a1 v8 h9)] 0 ⟨[(3,vo 0 0 2 v8.length)],[(0,ro 0 93 2 v8.length (rf qF v8))]⟩ ?_;obtain⟨v10,h11,hm⟩:=qC hm;obtain⟨g12,hm⟩:=qJ hm
   refine s_wu [qd 1 (dex (cen [(0,0)] [0] 0 1 (HD v8 v10) (MQ v8 v10) [20] [0])) (wO (K:=(kx E 36 0)) ⟨[(20,vo 0 0 2 v8.length)],[(0,ro 0 93 2 v8.length (rf qF v8))]⟩ (opAt (rg f201 30) 1) [(0,0)] [0] 0 o0 rfl (qEA v8 v10 h11) (.inl rfl) (by kernel_rfl))] [.len 0 v8.length] (o1 (And.intro (And.intro (Eq.refl v8.length) (Eq.refl v8.length)) (And.intro (ID g12) (Eq.refl v8.length)))) 1 [] [] [0] [(0,ro 0 93 2 v8.length (rf qF v10))] ?_;obtain⟨v13,h14,hm⟩:=qC hm
   refine s_vn [qd 1 (dpr [.len 0 v10.length] (dex (cen [(0,0)] [0] 0 1 (JV v10 v13) (JT v10 v13) [22] [0]))) (And.intro (And.intro (Eq.symm (show v10.length=v8.length from(ID g12))) (Eq.symm (show v10.length=v8.length from(ID g12)))) (Eq.symm (show v10.length=v8.length from(ID g12)))),qd 1 dN (wO (K:=(kx E 36 0)) ⟨[(22,vo 0 0 2 v10.length)],[(0,ro 0 93 2 v10.length (rf qF v10))]⟩ (opAt (rg f201 62) 1) [(0,0)] [0] 0 o0 rfl (qE2 v10 v13 h14) (.inl rfl) (by kernel_rfl))] 1 ⟨[(3,vo 0 0 2 v13.2.length)],[(0,ro 0 93 2 v13.2.length (rf qF v13.2))]⟩ ?_;obtain⟨v15,h16,hm⟩:=qC hm
   refine s_vu [qd 1 (dex (cen [] [] 1 0 (qFd v15) (HE v15) [24] [0])) (wO (K:=(kx E 36 0)) (b:=false) ⟨[(24,vo 0 0 2 v13.2.length)],[(0,ro 0 93 2 v13.2.length (rf qF v13.2))]⟩ (opAt (rg f201 126) 1) [] [] 1 (o1 (ke v13.2.length)) rfl (qJD v13.2 v15 h16) (.inr ⟨(by kernel_rfl),qKN v15⟩) (by kernel_rfl))] 1 [] [(4,vo 1 0 2 v15.length)] [] [(1,ro 0 93 2 v15.length (rf qF v15))] ?_;obtain⟨v17,h18,hm⟩:=qC hm;obtain⟨g19,hm⟩:=qJ hm
   refine s_wu [qd 1 (dex (cen [(0,0)] [0] 1 1 (ES v13.2 v17) (EU v13.2 v17) [26] [0])) (wO (K:=(kx E 36 0)) ⟨[(26,vo 0 0 2 v13.2.length)],[(0,ro 0 93 2 v13.2.length (rf qF v13.2))]⟩ (opAt (rg f201 254) 1) [(0,0)] [0] 1 o0 rfl (qEM v13.2 v17 h18) (.inl rfl) (by kernel_rfl))] [.len 0 v13.2.length] (o1 (And.intro (And.intro (Eq.refl v13.2.length) (Eq.refl v13.2.length)) (And.intro (ID g19) (Eq.refl v13.2.length)))) 2 [] [] [0] [(0,ro 0 93 2 v13.2.length (rf qF v17))] ?_;obtain⟨v20,h21,hm⟩:=qC hm;obtain⟨g22,hm⟩:=qJ hm
   refine s_vn [qd 2 (dex (cen [] [] 2 0 (qFd v20) (HE v20) [29] [0])) (wO (K:=(kx E 36 0)) (xs':=[.one (.lst v13.2.length (rf qF v17))]) (b:=false) ⟨[(29,vo 0 0 2 v13.2.length)],[(0,ro 0 93 2 v13.2.length (rf qF v17))]⟩ (opAt (rg f201 510) 2) [] [] 2 (o1 (ke v13.2.length)) (by simp only[tl,rf,show v17.length=v13.2.length from(ID g19)]) (qJD v17 v20 h21) (.inr ⟨(by kernel_rfl),qKN v20⟩) (by kernel_rfl)),qd 3 (drw 1 1 (rf qF (v15++v20))) (apP qF du v15 v20 v15.length v20.length 2 16 (v20.length<=v20.length) (ke _) rfl rfl (λ_=>rfl) (wB g22))] 2 ⟨[(4,vo 1 1 2 (v15.length+v20.length))],[(1,ro 1 93 2 (v15.length+v20.length) (rf qF (v15++v20)))]⟩ (q_sq ?_)
   refine s_va 3 [(34,vb (decide ((((v15.length+v20.length):Nat):Int)<3)))] (q_cq hm (λhm=>?_) (λhm=>?_))
   ·refine s_vn [] 3 ⟨[(2,vc (.emp))],[]⟩ (q_fn [.own 2 3 93 2 (rf qF [])] ⟨[(2,vo 3 0 2 0)],[(3,ro 0 93 2 0 (rf qF []))]⟩ o0 ?_);refine q_fn [.len 3 (([]:List qA).length)] ⟨[(2,vo 3 0 2 (([]:List qA).length))],[(3,ro 0 93 2 (([]:List qA).length) (rf qF []))]⟩ (o1 (And.intro (show 0=([]:List qA).length from rfl) (show 0=([]:List qA).length from rfl))) ?_;obtain rfl:=oi hm;exact q_sw 3 0 (q_rt q_rm)
   ·refine q_sk (s_vv [] 3 [4,34] [(2,vo 1 1 2 (v15.length+v20.length))] ?_);refine q_fn [.len 1 ((v15++v20).length)] ⟨[(2,vo 1 1 2 ((v15++v20).length))],[(1,ro 1 93 2 ((v15++v20).length) (rf qF (v15++v20)))]⟩ (o1 (And.intro (Eq.symm (show(v15++v20).length=(v15.length+v20.length) from(wC rfl rfl))) (Eq.symm (show(v15++v20).length=(v15.length+v20.length) from(wC rfl rfl))))) ?_;obtain rfl:=oi hm;exact q_sw 1 0 (q_rt q_rm)
 ·rcases bif_c hm with⟨b2,hm⟩|⟨b2,hm⟩
  ·exact q_vv [qf 3 b2] 0 [] [(17,vb true)] (q_J (true) hm)
  ·rcases bif_c hm with⟨b3,hm⟩|⟨b3,hm⟩
   ·exact q_vv [qf 3 b2,qf 8 b3] 0 [] [(17,vb true)] (q_J (true) hm)
   ·obtain⟨v4,h5,hm⟩:=qC hm;exact q_vv [qf 3 b2,qf 8 b3,qk 10 [13,14] 0 ⟨[(13,vb false),(14,vc (tl qF du a1))],[]⟩ (qA8 a1 v4 h5)] 0 [] [(17,vb (!v4))] (q_J (!v4) hm)
def qJM (r:Rect):V:=va (qR r)
def IR (r:Rect):List (Nat×(Nat×O)):=[]
theorem qTe (r:Rect):QQ (IR r):=by
 intro i k o h;unfold IR at h;cases h
def OS (a1:List qA) (x4:Int) (x5:Rect):St:=
 ⟨[(2,vp 0 0),(3,vp 1 0),(29,vc (tl qF du a1)),(30,vi (a1.length:Int)),(31,vi x4)],[(0,bx 55 [ci 0,ci 0,ci 0,ci 0]),(1,bx 55 (qR x5))]⟩
def qFv (x8:Rect):St:=
 ⟨[(2,vp 0 0),(3,vp 1 0)],[(0,bx 55 [ci 0,ci 0,ci 0,ci 0]),(1,bx 55 (qR x8))]⟩
theorem qMm (E:Env 0) (a1:List qA):∀(n:Nat) (x4:Int) (x5:Rect) (res:Rect),DX a1 n x4 x5=some res->HL (kx E 65 0) (nd f202 244) (zN 0 qFv res) n (OS a1 x4 x5):=by
 intro n
 induction n with
 |zero=>
  intro x4 x5 res hm;cases hm
 |succ n ih=>
  intro x4 x5 res hm;refine qU (s_va 2 [(32,vb (decide (x4<(a1.length:Int))))] ?_);refine q_sq (q_cq hm (λhm=>?_) (λhm=>?_))
  ·refine q_sk (q_sq ?_);refine q_bk 1 ?_;obtain⟨g7,hm⟩:=qJ hm;refine s_vu [qi 0 g7] 2 [32] [(5,vp 2 0)] [] [(2,bx 93 (qF (a1.getD x4.toNat du)))] (s_vu [] 3 [] [] [1] [(1,bx 55 [ci (imin x5.X.A ((a1.getD x4.toNat du).X)),ci (imax x5.X.B ((a1.getD x4.toNat du).X)),ci x5.Y.A,ci x5.Y.B])] ?_);refine q_vu [] 3 [5] [] [1,2] [(1,bx 55 [ci (imin x5.X.A ((a1.getD x4.toNat du).X)),ci (imax x5.X.B ((a1.getD x4.toNat du).X)),ci (imin x5.Y.A ((a1.getD x4.toNat du).Y)),ci (imax x5.Y.B ((a1.getD x4.toNat du).Y))])] (q_vv [] 3 [31] [(31,vi (w64 (x4+1)))] ?_)
   exact q_hl (OS a1 (w64 (x4+1)) (Rect.mk (Span.mk (imin x5.X.A ((a1.getD x4.toNat du).X)) (imax x5.X.B ((a1.getD x4.toNat du).X))) (Span.mk (imin x5.Y.A ((a1.getD x4.toNat du).Y)) (imax x5.Y.B ((a1.getD x4.toNat du).Y))))) (ih (w64 (x4+1)) (Rect.mk (Span.mk (imin x5.X.A ((a1.getD x4.toNat du).X)) (imax x5.X.B ((a1.getD x4.toNat du).X))) (Span.mk (imin x5.Y.A ((a1.getD x4.toNat du).Y)) (imax x5.Y.B ((a1.getD x4.toNat du).Y)))) _ hm)
  ·refine q_ex 0 ?_;obtain rfl:=oi hm;exact q_l0
theorem qRa (a1:List qA) (r:Rect) (hm:IC a1=some r):CtX Tryz.prog globs 202 0 0 [.one (tl qF du a1)] [] (qJM r) (IR r):=by
 unfold IC at hm;refine q_E f202 65 λE=>?_;refine s_vn [] 0 ⟨[(0,vc (tl qF du a1)),(2,vp 0 0)],[(0,bx 55 [ci 0,ci 0,ci 0,ci 0])]⟩ (q_sq ?_);refine s_va 1 [(8,vb ((a1.length:Int)==0))] (q_cq hm (λhm=>?_) (λhm=>?_))
 ·refine s_vv [] 1 [0,8] [] ?_;obtain rfl:=oi hm;exact q_rt q_rm
 ·refine q_sk ?_;obtain⟨g3,hm⟩:=qJ hm;refine s_du [qi 1 g3,qi 5 g3,qi 10 g3,qi 14 g3] [0,1,3,7,0,16,48,112,255,0,512,1536,3584,0,8192,24576,57344,130560,262143,0,1048575] 1 [8] [(3,vp 1 0)] [] [(1,bx 55 [ci ((a1.getD (0:Int).toNat du).X),ci ((a1.getD (0:Int).toNat du).X),ci ((a1.getD (0:Int).toNat du).Y),ci ((a1.getD (0:Int).toNat du).Y)])] (q_sq ?_);refine s_vv [] 2 [0] [(29,vc (tl qF du a1)),(30,vi (a1.length:Int)),(31,vi 0)] ?_;obtain⟨o9,h10,hm⟩:=qC hm
  refine zI (nd f202 244) 0 (by kernel_rfl) FUEL qFv o9 (q_hl (OS a1 0 (Rect.mk (Span.mk ((a1.getD (0:Int).toNat du).X) ((a1.getD (0:Int).toNat du).X)) (Span.mk ((a1.getD (0:Int).toNat du).Y) ((a1.getD (0:Int).toNat du).Y)))) (qMm E a1 FUEL 0 (Rect.mk (Span.mk ((a1.getD (0:Int).toNat du).X) ((a1.getD (0:Int).toNat du).X)) (Span.mk ((a1.getD (0:Int).toNat du).Y) ((a1.getD (0:Int).toNat du).Y))) o9 h10)) (s_vu [] 2 [3] [] [0,1] [(0,bx 55 (qR o9))] ?_);obtain rfl:=oi hm;exact q_rt q_rm
def qUN (r:Int):V:=vi r
def qUT (r:Int):List (Nat×(Nat×O)):=[]
def qPf (x5:Int):St:=
 ⟨[(5,vi x5)],[]⟩
theorem qJC (a1:Int) (a2:Int) (r:Int) (hm:SV a1 a2=some r):CtX Tryz.prog globs 204 0 0 [.one (ci a1),.one (ci a2)] [] (qUN r) (qUT r):=by
 unfold SV at hm;refine q_E f204 16 λE=>?_;refine s_vn [] 0 ⟨[(0,vi a1),(1,vi a2)],[]⟩ ?_;obtain⟨g3,hm⟩:=qJ hm;refine s_vv [qd 2 dN (OA g3)] 0 [] [(5,vi (w64 (Int.tdiv a1 a2)))] (q_jn (qPf) (λp=>IX p=some r) ?_ ?_)
 ·rintro x5 hm;refine s_vn [] 0 ⟨[(4,vi x5)],[]⟩ ?_;obtain rfl:=oi hm;exact q_rt q_rm
 ·refine s_vv [qd 2 dN (OA g3)] 0 [0,1] [(12,vb (decide ((Int.tmod a1 a2)<0)))] (q_cq hm (λhm=>?_) (λhm=>?_))
  ·exact q_vn [] 0 ⟨[(5,vi (w64 ((w64 (Int.tdiv a1 a2))-1)))],[]⟩ (q_J (w64 ((w64 (Int.tdiv a1 a2))-1)) hm)
  ·exact q_sk (q_J (w64 (Int.tdiv a1 a2)) hm)
def qBT (a1:Int) (a2:Rect) (a3:List qA) (r:Int×Int):V:= .tup [.one (ci r.1),.one (ci r.2)]
def qBJ (a1:Int) (a2:Rect) (a3:List qA) (r:Int×Int):List (Nat×(Nat×O)):=[(0,bx 55 (qR a2)),(1,bx 111 [.own 2 0 2 a3.length]),(2,ro 0 93 2 a3.length (rf qF a3))]
def LC (a1:Int) (a2:Rect) (a3:List qA) (x4:Int) (x5:Int) (x6:Int):St:=
 ⟨[(0,vi a1),(2,vp 1 0),(6,vi x4),(7,vi x5),(9,vp 3 0),(10,vp 4 0),(17,vo 2 0 2 a3.length),(18,vi (a3.length:Int)),(19,vi x6)],[(0,bx 55 (qR a2)),(1,bx 111 [.own 2 0 2 a3.length]),(2,ro 0 93 2 a3.length (rf qF a3)),(3,bx 93 (qF (a3.getD x6.toNat du))),(4,bx 93 (qF (a3.getD ((Int.tmod (w64 (x6+1)) (a3.length:Int)).toNat) du)))]⟩
def qDU (a1:Int) (a2:Rect) (a3:List qA) (x6:Int) (x23:Int) (x24:Int):St:=
 ⟨[(0,vi a1),(2,vp 1 0),(6,vi x23),(7,vi x24),(17,vo 2 0 2 a3.length),(18,vi (a3.length:Int)),(19,vi x6)],[(0,bx 55 (qR a2)),(1,bx 111 [.own 2 0 2 a3.length]),(2,ro 0 93 2 a3.length (rf qF a3))]⟩
def qMh (a1:Int) (a2:Rect) (a3:List qA) (x4:Int) (x5:Int) (x6:Int) (x19:Bool):St:=
 (LC a1 a2 a3 x4 x5 x6).up [] [(69,vb x19)] [] []
def qLX (a1:Int) (a2:Rect) (a3:List qA) (x4:Int) (x5:Int) (x6:Int) (x13:Bool):St:=
 (LC a1 a2 a3 x4 x5 x6).up [] [(32,vb x13)] [] []
def AE (a1:Int) (a2:Rect) (a3:List qA) (x4:Int) (x5:Int) (x6:Int):St:=
 (LC a1 a2 a3 x4 x5 x6).up [9,10] [] [3,4] []
def qEe (a2:Rect) (a3:List qA) (x25:Int) (x26:Int):St:=
 ⟨[(6,vi x25),(7,vi x26)],[(0,bx 55 (qR a2)),(1,bx 111 [.own 2 0 2 a3.length]),(2,ro 0 93 2 a3.length (rf qF a3))]⟩
theorem qKe (E:Env 3) (a1:Int) (a2:Rect) (a3:List qA):∀(n:Nat) (x4:Int) (x5:Int) (x6:Int) (res:Int×Int),jI a1 a3 n x4 x5 x6=some res->HL (kx E 109 2) (nd f203 116) (zN 0 (λo=>qEe a2 a3 o.1 o.2) res) n (AE a1 a2 a3 x4 x5 x6):=by
 intro n
 induction n with
 |zero=>
  intro x4 x5 x6 res hm;cases hm
 |succ n ih=>
  intro x4 x5 x6 res hm;refine qU (s_va 3 [(20,vb (decide (x6<(a3.length:Int))))] ?_);refine q_sq (q_cq hm (λhm=>?_) (λhm=>?_))
  ·refine q_sk (q_jn (ι:=Int×Int) (λp=>qDU a1 a2 a3 x6 p.1 p.2) (λp=>VK x6 (jI a1 a3 n) p.1 p.2=some res) ?_ ?_)
   ·rintro⟨x23,x24⟩ hm;show H _ (qDU a1 a2 a3 x6 x23 x24) _ _;exact q_vv [] 5 [19] [(19,vi (w64 (x6+1)))] (q_hl (AE a1 a2 a3 x23 x24 (w64 (x6+1))) (ih x23 x24 (w64 (x6+1)) _ hm))
   ·refine q_bk 1 ?_;obtain⟨g8,hm⟩:=qJ hm;refine s_vu [qi 1 g8,qd 2 dN (qT (zB g8))] 3 [20] [(8,vi x6),(9,vp 3 0)] [] [(3,bx 93 (qF (a3.getD x6.toNat du)))] ?_;obtain⟨g9,hm⟩:=qJ hm;obtain⟨g10,hm⟩:=qJ hm;refine s_du [qd 5 dN (OA g9),qi 6 g10,qd 7 dN (qT (zB g10))] [0,0,2,0,8,30,63,127,0,511] 4 [8] [(10,vp 4 0)] [] [(4,bx 93 (qF (a3.getD ((Int.tmod (w64 (x6+1)) (a3.length:Int)).toNat) du)))] (q_bk 2 ?_);refine q_jn (qLX a1 a2 a3 x4 x5 x6) (λp=>UG a1 a3 x4 x5 x6 (jI a1 a3 n) p=some res) ?_ ?_
    ·rintro x13 hm;refine q_cq hm (λhm=>?_) (λhm=>?_)
     ·obtain⟨v15,h16,hm⟩:=qC hm;exact q_du [qc 17 [61,66] 5 (qJC (w64 ((w64 (((a3.getD ((Int.tmod (w64 (x6+1)) (a3.length:Int)).toNat) du).X)-((a3.getD x6.toNat du).X)))*(w64 (a1-((a3.getD x6.toNat du).Y))))) (w64 (((a3.getD ((Int.tmod (w64 (x6+1)) (a3.length:Int)).toNat) du).Y)-((a3.getD x6.toNat du).Y))) v15 h16)] [0,1,0,4,0,16,60,0,0,256,896,2044,0,4096,0,16384,61440,131068,262143,524287] 5 [7,9,10,32] [(7,vi (w64 (((a3.getD x6.toNat du).X)+v15)))] [3,4] [] (q_J (x4,w64 (((a3.getD x6.toNat du).X)+v15)) hm)
     ·refine q_jn (qMh a1 a2 a3 x4 x5 x6) (λp=>UJ a1 a3 x4 x5 x6 (jI a1 a3 n) p=some res) ?_ ?_
      ·rintro x19 hm;refine q_cq hm (λhm=>?_) (λhm=>?_)
       ·obtain⟨v21,h22,hm⟩:=qC hm
        exact q_du [qc 17 [98,103] 5 (qJC (w64 ((w64 (((a3.getD ((Int.tmod (w64 (x6+1)) (a3.length:Int)).toNat) du).X)-((a3.getD x6.toNat du).X)))*(w64 (a1-((a3.getD ((Int.tmod (w64 (x6+1)) (a3.length:Int)).toNat) du).Y))))) (w64 (((a3.getD x6.toNat du).Y)-((a3.getD ((Int.tmod (w64 (x6+1)) (a3.length:Int)).toNat) du).Y))) v21 h22)] [0,1,0,4,0,16,60,0,0,256,896,2044,0,4096,0,16384,61440,131068,262143,524287] 5 [6,9,10,69] [(6,vi (w64 (((a3.getD ((Int.tmod (w64 (x6+1)) (a3.length:Int)).toNat) du).X)-v21)))] [3,4] [] (q_J (w64 (((a3.getD ((Int.tmod (w64 (x6+1)) (a3.length:Int)).toNat) du).X)-v21),x5) hm)
       ·exact q_sk (q_J (x4,x5) hm)
      ·rcases bif_c hm with⟨b17,hm⟩|⟨b17,hm⟩
       ·rcases bif_c hm with⟨b18,hm⟩|⟨b18,hm⟩
        ·exact q_vv [qf 5 b17,qf 11 b18] 5 [32] [(69,vb (decide (a1<=((a3.getD x6.toNat du).Y))))] (q_J (decide (a1<=((a3.getD x6.toNat du).Y))) hm)
        ·exact q_vv [qf 5 b17,qf 11 b18] 5 [32] [(69,vb false)] (q_J (false) hm)
       ·exact q_vv [qf 5 b17] 5 [32] [(69,vb false)] (q_J (false) hm)
    ·rcases bif_c hm with⟨b11,hm⟩|⟨b11,hm⟩
     ·rcases bif_c hm with⟨b12,hm⟩|⟨b12,hm⟩
      ·exact q_vv [qf 5 b11,qf 11 b12] 5 [] [(32,vb (decide (a1<=((a3.getD ((Int.tmod (w64 (x6+1)) (a3.length:Int)).toNat) du).Y))))] (q_J (decide (a1<=((a3.getD ((Int.tmod (w64 (x6+1)) (a3.length:Int)).toNat) du).Y))) hm)
      ·exact q_vv [qf 5 b11,qf 11 b12] 5 [] [(32,vb false)] (q_J (false) hm)
     ·exact q_vv [qf 5 b11] 5 [] [(32,vb false)] (q_J (false) hm)
  ·refine q_ex 0 ?_;obtain rfl:=oi hm;exact q_l0
theorem qGQ (a1:Int) (a2:Rect) (a3:List qA) (r:Int×Int) (hm:DT a1 a2 a3=some r):CtX Tryz.prog globs 203 3 2 [.one (ci a1),.one (.bptr 0 0 0),.one (.bptr 1 0 0)] [(0,bx 55 (qR a2)),(1,bx 111 [.own 2 0 2 a3.length]),(2,ro 0 93 2 a3.length (rf qF a3))] (qBT a1 a2 a3 r) (qBJ a1 a2 a3 r):=by
 unfold DT at hm;refine q_E f203 109 λE=>?_;refine s_vn [] 3 ⟨[(0,vi a1),(1,vp 0 0),(2,vp 1 0)],[(0,bx 55 (qR a2)),(1,bx 111 [.own 2 0 2 a3.length]),(2,ro 0 93 2 a3.length (rf qF a3))]⟩ (s_du [] [0,1,3,0,8,24,7,127] 3 [1] [(6,vi a2.X.A),(7,vi a2.X.B)] [] [] ?_);refine q_sq (s_va 3 [(17,vo 2 0 2 a3.length),(18,vi (a3.length:Int)),(19,vi 0)] ?_);obtain⟨o27,h28,hm⟩:=qC hm;refine zI (nd f203 116) 0 (by kernel_rfl) FUEL (λo=>qEe a2 a3 o.1 o.2) o27 (q_hl (AE a1 a2 a3 a2.X.A a2.X.B 0) (qKe E a1 a2 a3 FUEL a2.X.A a2.X.B 0 o27 h28)) (s_vv [] 3 [6,7] [(4,vi o27.1),(5,vi o27.2)] ?_)
 obtain rfl:=oi hm;exact q_rt q_rm
def qUn (r:Span):V:=va (qL r)
def qUk (r:Span):List (Nat×(Nat×O)):=[]
def qPB (a2:Int) (a3:Int) (v4:(List qA)) (v6:Rect) (x11:Bool):St:=
 ⟨[(1,vi a2),(2,vi a3),(6,vp 0 0),(7,vp 2 0),(8,vp 3 0),(40,vb x11)],[(0,bx 53 [ci 0,ci 0]),(1,ro 0 93 2 v4.length (rf qF v4)),(2,bx 111 [.own 1 0 2 v4.length]),(3,bx 55 (qR v6))]⟩
theorem qTw (a1:List qA) (a2:Int) (a3:Int) (r:Span) (hm:qA7 a1 a2 a3=some r):CtX Tryz.prog globs 154 0 0 [.one (tl qF du a1),.one (ci a2),.one (ci a3)] [] (qUn r) (qUk r):=by
 unfold qA7 at hm;refine q_E f154 69 λE=>?_;refine s_vn [] 0 ⟨[(0,vc (tl qF du a1)),(1,vi a2),(2,vi a3),(6,vp 0 0)],[(0,bx 53 [ci 0,ci 0])]⟩ ?_;obtain⟨v4,h5,hm⟩:=qC hm;refine s_vu [qc 1 [15] 1 (qVp a1 v4 h5)] 1 [0] [(7,vp 2 0)] [] [(1,ro 0 93 2 v4.length (rf qF v4)),(2,bx 111 [.own 1 0 2 v4.length])] ?_;obtain⟨v6,h7,hm⟩:=qC hm
 refine s_vu [qd 1 (dex (cen [] [] 3 0 (qJM v6) (IR v6) [17] [1])) (wO (K:=(kx E 69 0)) (b:=false) ⟨[(17,vo 1 0 2 v4.length)],[(1,ro 0 93 2 v4.length (rf qF v4))]⟩ (opAt (rg f154 14) 1) [] [] 3 (o1 (ke v4.length)) rfl (qRa v4 v6 h7) (.inr ⟨(by kernel_rfl),qTe v6⟩) (by kernel_rfl))] 3 [] [(8,vp 3 0)] [] [(3,bx 55 (qR v6))] (q_sq ?_);refine q_jn (qPB a2 a3 v4 v6) (λp=>UB a2 a3 v4 v6 p=some r) ?_ ?_
 ·rintro x11 hm;refine q_cq hm (λhm=>?_) (λhm=>?_)
  ·refine s_vu [] 4 [1,2,7,8,40] [] [1,2,3] [] ?_;obtain rfl:=oi hm;exact q_rt q_rm
  ·refine q_sk (s_vv [] 4 [7,8,40] [(9,vc (.fn 203 [.bptr 3 0 0,.bptr 2 0 0]))] ?_);obtain⟨v13,h14,hm⟩:=qC hm
   refine s_vu [qd 2 (dex (cen [(3,0),(2,0),(1,0)] [0,0,1] 1 2 (qBT a2 v6 v4 v13) (qBJ a2 v6 v4 v13) [44,45] [3,2,1])) (wO (K:=(kx E 69 0)) ⟨[(44,vc (.fn 203 [.bptr 3 0 0,.bptr 2 0 0])),(45,vi a2)],[(3,bx 55 (qR v6)),(2,bx 111 [.own 1 0 2 v4.length]),(1,ro 0 93 2 v4.length (rf qF v4))]⟩ (opAt (rg f154 126) 2) [(3,0),(2,0),(1,0)] [0,0,1] 1 o0 rfl (qGQ a2 v6 v4 v13 h14) (.inl rfl) (by kernel_rfl))] 4 [1] [(10,vi v13.1),(11,vi v13.2)] [1,2] [(1,ro 1 93 2 v4.length (rf qF v4)),(2,bx 111 [.own 1 1 2 v4.length])] ?_;obtain⟨v15,h16,hm⟩:=qC hm
   refine s_vu [qd 2 (dex (cen [(3,0),(2,0),(1,1)] [0,0,2] 1 2 (qBT a3 v6 v4 v15) (qBJ a3 v6 v4 v15) [50,51] [3,2,1])) (wO (K:=(kx E 69 0)) ⟨[(50,vc (.fn 203 [.bptr 3 0 0,.bptr 2 0 0])),(51,vi a3)],[(3,bx 55 (qR v6)),(2,bx 111 [.own 1 1 2 v4.length]),(1,ro 1 93 2 v4.length (rf qF v4))]⟩ (opAt (rg f154 254) 2) [(3,0),(2,0),(1,1)] [0,0,2] 1 o0 rfl (qGQ a3 v6 v4 v15 h16) (.inl rfl) (by kernel_rfl))] 4 [2,9] [(12,vi v15.1),(13,vi v15.2)] [1,2,3] [] (s_vu [] 4 [10,11,12,13] [(14,vp 4 0)] [] [(4,bx 53 [ci (imax v13.1 v15.1),ci (imin v13.2 v15.2)])] ?_)
   refine q_sq (s_va 5 [(66,vb (decide ((imax v13.1 v15.1)≥(imin v13.2 v15.2))))] ?_);refine q_cq hm (λhm=>?_) (λhm=>?_)
   ·refine s_vu [] 5 [14,66] [] [4] [] ?_;obtain rfl:=oi hm;exact q_rt q_rm
   ·refine q_sk (s_vn [] 5 ⟨[(6,vp 0 0)],[(0,bx 53 [ci (imax v13.1 v15.1),ci (imin v13.2 v15.2)])]⟩ ?_);obtain rfl:=oi hm;exact q_rt q_rm
 ·rcases bif_c hm with⟨b8,hm⟩|⟨b8,hm⟩
  ·exact q_vv [qf 3 b8] 4 [] [(40,vb true)] (q_J (true) hm)
  ·rcases bif_c hm with⟨b9,hm⟩|⟨b9,hm⟩
   ·exact q_vv [qf 3 b8,qf 8 b9] 4 [] [(40,vb true)] (q_J (true) hm)
   ·rcases bif_c hm with⟨b10,hm⟩|⟨b10,hm⟩
    ·exact q_vv [qf 3 b8,qf 8 b9,qf 15 b10] 4 [] [(40,vb true)] (q_J (true) hm)
    ·exact q_vv [qf 3 b8,qf 8 b9,qf 15 b10] 4 [] [(40,vb (decide (a3>v6.Y.B)))] (q_J (decide (a3>v6.Y.B)) hm)
def qHJ (a1:Int) (a2:List qA) (r:Span):V:=va (qL r)
def qHU (a1:Int) (a2:List qA) (r:Span):List (Nat×(Nat×O)):=[(0,bx 111 [tl qF du a2])]
theorem qPx (a1:Int) (a2:List qA) (r:Span) (hm:HX a1 a2=some r):CtX Tryz.prog globs 152 1 1 [.one (ci a1),.one (.bptr 0 0 0)] [(0,bx 111 [tl qF du a2])] (qHJ a1 a2 r) (qHU a1 a2 r):=by
 unfold HX at hm;refine q_E f152 15 λE=>?_;refine s_vn [] 1 ⟨[(0,vi a1),(1,vp 0 0),(3,vp 1 0)],[(0,bx 111 [tl qF du a2]),(1,bx 53 [ci 0,ci 0])]⟩ ?_;obtain⟨v3,h4,hm⟩:=qC hm;refine s_vu [qc 3 [5,7] 2 (SD a1 (w64 (a1+1)) v3 h4)] 2 [0] [(4,vp 2 0)] [] [(2,bx 53 (qL v3))] ?_;obtain⟨v5,h6,hm⟩:=qC hm;refine s_vu [qc 5 [9,11,13] 3 (qTw a2 v3.A v3.B v5 h6)] 3 [1,4] [] [1,2] [(1,bx 53 (qL v5))] ?_;obtain rfl:=oi hm;exact q_rt q_rm
def qL0 (r:Bool):V:=vb r
def qMw (r:Bool):List (Nat×(Nat×O)):=[]
theorem yD (a1:Span) (r:Bool) (hm:QC a1=some r):CtX Tryz.prog globs 156 0 0 [.agg (qL a1)] [] (qL0 r) (qMw r):=by
 unfold QC at hm;refine q_E f156 8 λE=>?_;refine s_vn [] 0 ⟨[(1,vp 0 0)],[(0,bx 53 (qL a1))]⟩ (s_vn [] 1 ⟨[(2,vb (decide (a1.A≥a1.B)))],[]⟩ ?_);obtain rfl:=oi hm;exact q_rt q_rm
def qGj (a1:List qA) (r:qG):V:=va [ci r.Low,.own 1 0 2 r.Rows.length]
def qGl (a1:List qA) (r:qG):List (Nat×(Nat×O)):=[(0,bx 111 [tl qF du a1]),(1,ro 0 53 2 r.Rows.length (rf qL r.Rows))]
def BW (a1:List qA) (x3:Int):St:=
 ⟨[(0,vc (.fn 152 [.bptr 0 0 0])),(2,vp 1 0),(3,vp 2 0),(5,vi x3)],[(0,bx 111 [tl qF du a1]),(1,bx 78 [ci 0,.emp])]⟩
def qDb (a1:List qA) (x3:Int) (x17:Int) (x18:Int) (l19:List Span) (l19n:Nat):St:=
 (BW a1 x3).up [] [(4,vi x17)] [] [(2,bx 78 [ci x18,.own 3 0 2 l19n]),(3,ro 0 53 2 l19n (rf qL l19))]
def qLf (a1:List qA) (x3:Int) (l5:List Span) (v7:Span) (x13:Int):St:=
 (BW a1 x3).up [] [(6,vp 4 0)] [] [(2,bx 78 [ci x13,.own 3 0 2 l5.length]),(3,ro 0 53 2 l5.length (rf qL l5)),(4,bx 53 (qL v7))]
def HY (a1:List qA) (x2:Int) (x3:Int) (x4:Int) (l5:List Span) (l5n:Nat):St:=
 (BW a1 x3).up [] [(4,vi x2)] [] [(2,bx 78 [ci x4,.own 3 0 2 l5n]),(3,ro 0 53 2 l5n (rf qL l5))]
def qCV (a1:List qA) (x20:Int) (x21:Int) (l22:List Span):St:=
 ⟨[(2,vp 1 0),(3,vp 2 0),(4,vi x20)],[(0,bx 111 [tl qF du a1]),(1,bx 78 [ci 0,.emp]),(2,bx 78 [ci x21,.own 3 0 2 l22.length]),(3,ro 0 53 2 l22.length (rf qL l22))]⟩
theorem qJ3 (E:Env 1) (a1:List qA):∀(n:Nat) (x2:Int) (x3:Int) (x4:Int) (l5:List Span) (l5n:Nat) (res:Int×Int×(List Span)),l5.length=l5n->jE a1 n x2 x3 x4 l5=some res->HL (kx E 46 1) (nd f92 244) (zN 0 (λo=>qCV a1 o.1 o.2.1 o.2.2) res) n (HY a1 x2 x3 x4 l5 l5n):=by
 intro n
 induction n with
 |zero=>
  intro x2 x3 x4 l5 l5n res hl0 hm;cases hm
 |succ n ih=>
  intro x2 x3 x4 l5 l5n res hl0 hm;subst hl0;refine qU (q_sq ?_);refine s_va 4 [(8,vb (decide (x3<60)))] (q_cq hm (λhm=>?_) (λhm=>?_))
  ·refine q_sk (q_jn (ι:=Int×Int×(List Span)×Nat) (λp=>qDb a1 x3 p.1 p.2.1 p.2.2.1 p.2.2.2) (λp=>p.2.2.1.length=p.2.2.2/\RY x3 (jE a1 n) p.1 p.2.1 p.2.2.1=some res) ?_ ?_)
   ·rintro⟨x17,x18,l19,l19n⟩ ⟨el19,hm⟩;replace el19:l19.length=l19n:=el19;subst el19;show H _ (qDb a1 x3 x17 x18 l19 l19.length) _ _;exact q_vv [] 6 [5] [(5,vi (w64 (x3+1)))] (q_hl (HY a1 x17 (w64 (x3+1)) x18 l19 l19.length) (ih x17 (w64 (x3+1)) x18 l19 l19.length _ rfl hm))
   ·refine q_bk 1 ?_;obtain⟨v7,h8,hm⟩:=qC hm;refine s_vu [qd 2 (dex (cen [(0,0)] [0] 3 1 (qHJ x3 a1 v7) (qHU x3 a1 v7) [11,12] [0])) (wO (K:=(kx E 46 1)) ⟨[(11,vc (.fn 152 [.bptr 0 0 0])),(12,vi x3)],[(0,bx 111 [tl qF du a1])]⟩ (opAt (rg f92 3912) 2) [(0,0)] [0] 3 o0 rfl (qPx x3 a1 v7 h8) (.inl rfl) (by kernel_rfl))] 4 [8] [(6,vp 4 0)] [] [(4,bx 53 (qL v7))] (q_bk 2 ?_);obtain⟨v9,h10,hm⟩:=qC hm;refine s_vv [qc 1 [15] 5 (yD v7 v9 h10)] 5 [] [(14,vb (!v9))] (q_cq hm (λhm=>?_) (λhm=>?_))
    ·refine q_jn (qLf a1 x3 l5 v7) (λp=>BP x3 l5 (jE a1 n) v7 p=some res) ?_ ?_
     ·rintro x13 hm;obtain⟨g14,hm⟩:=qJ hm;refine s_vu [qd 3 (drw 5 0 (rf qL [v7])) (litP qL du 2 (λ_=>rfl) ([v7]:List Span) 1 rfl),qd 4 (drw 3 1 (rf qL (l5++[v7]))) (apP qL du l5 ([v7]:List Span) l5.length 1 2 16 (1<=1) (ke _) rfl rfl (λ_=>rfl) (wB g14))] 5 [6] [] [2,3,4] [(2,bx 78 [ci x13,.own 3 1 2 (l5.length+1)]),(3,ro 1 53 2 (l5.length+1) (rf qL (l5++[v7])))] (q_va 6 [(4,vi (((l5.length+1):Nat):Int))] ?_);exact q_J ((((l5.length+1):Nat):Int),x13,(l5++[v7]),(l5.length+1)) ⟨(wC rfl rfl),hm⟩
     ·refine s_vv [] 5 [4,14] [(19,vb (x2==0))] (q_cq hm (λhm=>?_) (λhm=>?_))
      ·exact q_vu [] 5 [19] [] [2] [(2,bx 78 [ci x3,.own 3 0 2 l5.length])] (q_J (x3) hm)
      ·exact q_sk (q_J (x4) hm)
    ·refine s_vu [] 5 [6,14] [(31,vb (decide (x2>0)))] [4] [] (q_cq hm (λhm=>?_) (λhm=>?_))
     ·obtain⟨g16,hm⟩:=qJ hm;exact q_vu [qd 3 (drw 5 0 (rf qL [(Span.mk 0 0)])) (litP qL du 2 (λ_=>rfl) ([(Span.mk 0 0)]:List Span) 1 rfl),qd 4 (drw 3 1 (rf qL (l5++[(Span.mk 0 0)]))) (apP qL du l5 ([(Span.mk 0 0)]:List Span) l5.length 1 2 16 (1<=1) (ke _) rfl rfl (λ_=>rfl) (wB g16))] 5 [31] [] [2,3] [(2,bx 78 [ci x4,.own 3 1 2 (l5.length+1)]),(3,ro 1 53 2 (l5.length+1) (rf qL (l5++[(Span.mk 0 0)])))] (q_J (x2,x4,(l5++[(Span.mk 0 0)]),(l5.length+1)) ⟨(wC rfl rfl),hm⟩)
     ·exact q_sk (q_J (x2,x4,l5,l5.length) ⟨rfl,hm⟩)
  ·refine q_ex 0 ?_;obtain rfl:=oi hm;exact q_l0
theorem qNC (a1:List qA) (r:qG) (hm:FA a1=some r):CtX Tryz.prog globs 92 1 1 [.one (.fn 152 [.bptr 0 0 0])] [(0,bx 111 [tl qF du a1])] (qGj a1 r) (qGl a1 r):=by
 unfold FA at hm;refine q_E f92 46 λE=>?_;refine s_vn [] 1 ⟨[(0,vc (.fn 152 [.bptr 0 0 0])),(2,vp 1 0)],[(0,bx 111 [tl qF du a1]),(1,bx 78 [ci 0,.emp])]⟩ (s_vu [] 2 [] [(3,vp 2 0)] [] [(2,bx 78 [ci 0,.emp])] ?_);refine s_va 3 [(4,vi 0)] (q_sq ?_);refine s_va 3 [(5,vi (-60))] (q_fu [.ownB 2 1 3 53 2 (rf qL [])] [] [] [2] [(2,bx 78 [ci 0,.own 3 0 2 0]),(3,ro 0 53 2 0 (rf qL []))] o0 ?_);obtain⟨o23,h24,hm⟩:=qC hm;refine zI (nd f92 244) 0 (by kernel_rfl) FUEL (λo=>qCV a1 o.1 o.2.1 o.2.2) o23 (q_hl (HY a1 0 (-60) 0 ([]:List Span) 0) (qJ3 E a1 FUEL 0 (-60) 0 ([]:List Span) 0 o23 rfl h24)) ?_
 obtain⟨g25,hm⟩:=qJ hm;refine s_wu [qd 3 dN (And.intro (zP g25).2.1 (zP g25).2.2)] [.row 3 o23.1.toNat (rf qL (o23.2.2.take o23.1.toNat))] (o1 (tkP qL du o23.2.2 o23.2.2.length o23.1.toNat (show o23.1.toNat<=o23.2.2.length by have:=(zP g25);omega))) 4 [4] [] [2,3] [(2,bx 78 [ci o23.2.1,.own 3 0 2 o23.1.toNat]),(3,ro 0 53 2 o23.1.toNat (rf qL (o23.2.2.take o23.1.toNat)))] (s_vu [] 4 [3] [] [1,2] [(1,bx 78 [ci o23.2.1,.own 3 0 2 o23.1.toNat])] ?_)
 refine q_fu [.len 3 ((o23.2.2.take o23.1.toNat).length)] [] [] [1,3] [(1,bx 78 [ci o23.2.1,.own 3 0 2 ((o23.2.2.take o23.1.toNat).length)]),(3,ro 0 53 2 ((o23.2.2.take o23.1.toNat).length) (rf qL (o23.2.2.take o23.1.toNat)))] (o1 (And.intro (Eq.symm (show(o23.2.2.take o23.1.toNat).length=o23.1.toNat from(WQ rfl (show o23.1.toNat<=o23.2.2.length by have:=(zP g25);omega)))) (Eq.symm (show(o23.2.2.take o23.1.toNat).length=o23.1.toNat from(WQ rfl (show o23.1.toNat<=o23.2.2.length by have:=(zP g25);omega)))))) ?_;obtain rfl:=oi hm;exact q_sw 3 1 (q_rt q_rm)
def qLg (r:qG×Int):V:= .tup [.agg [ci r.1.Low,.own 0 0 2 r.1.Rows.length],.one (ci r.2)]
def qAw (r:qG×Int):List (Nat×(Nat×O)):=[(0,ro 0 53 2 r.1.Rows.length (rf qL r.1.Rows))]
theorem qVN (r:qG×Int):QQ (qAw r):=by
 intro i k o h;unfold qAw at h;rw[look_cons] at h;split at h
 ·cases h;exact λ_ _=>rfl
 ·cases h
theorem qTh (a1:List qA) (r:qG×Int) (hm:qAv a1=some r):CtX Tryz.prog globs 90 0 0 [.one (tl qF du a1)] [] (qLg r) (qAw r):=by
 unfold qAv at hm;refine q_E f90 20 λE=>?_;refine s_vn [] 0 ⟨[(1,vp 0 0),(2,vp 1 0)],[(0,bx 111 [tl qF du a1]),(1,bx 78 [ci 0,.emp])]⟩ (q_sq ?_);obtain⟨v2,h3,hm⟩:=qC hm;refine s_vv [qc 1 [6] 2 (qS7 a1 v2 h3)] 2 [] [(4,vi v2)] (s_va 2 [(9,vb (v2 !=0))] ?_);refine q_cq hm (λhm=>?_) (λhm=>?_)
 ·refine s_vu [] 2 [1,4,9] [(3,vi v2)] [0] [] (q_fu [.ownB 1 1 2 53 2 (rf qL [])] [] [] [1] [(1,bx 78 [ci 0,.own 2 0 2 0]),(2,ro 0 53 2 0 (rf qL []))] o0 ?_);refine q_fu [.len 2 (([]:List Span).length)] [] [] [1,2] [(1,bx 78 [ci 0,.own 2 0 2 (([]:List Span).length)]),(2,ro 0 53 2 (([]:List Span).length) (rf qL []))] (o1 (And.intro (show 0=([]:List Span).length from rfl) (show 0=([]:List Span).length from rfl))) ?_;obtain rfl:=oi hm;exact q_sw 2 0 (q_rt q_rm)
 ·refine q_sk ?_;obtain⟨v5,h6,hm⟩:=qC hm;refine s_vu [qd 1 (dex (cen [(0,0)] [0] 1 1 (qGj a1 v5) (qGl a1 v5) [12] [0])) (wO (K:=(kx E 20 0)) ⟨[(12,vc (.fn 152 [.bptr 0 0 0]))],[(0,bx 111 [tl qF du a1])]⟩ (opAt (rg f90 14) 1) [(0,0)] [0] 1 o0 rfl (qNC a1 v5 h6) (.inl rfl) (by kernel_rfl))] 2 [1,4,9] [(5,vp 3 0)] [0] [(2,ro 0 53 2 v5.Rows.length (rf qL v5.Rows)),(3,bx 78 [ci v5.Low,.own 2 0 2 v5.Rows.length])] (q_sq ?_);refine s_va 4 [(17,vb ((v5.Rows.length:Int)==0))] (q_cq hm (λhm=>?_) (λhm=>?_))
  ·refine s_vu [] 4 [5,17] [(3,vi 18)] [2,3] [] (q_fu [.ownB 1 1 4 53 2 (rf qL [])] [] [] [1] [(1,bx 78 [ci 0,.own 4 0 2 0]),(4,ro 0 53 2 0 (rf qL []))] o0 ?_);refine q_fu [.len 4 (([]:List Span).length)] [] [] [1,4] [(1,bx 78 [ci 0,.own 4 0 2 (([]:List Span).length)]),(4,ro 0 53 2 (([]:List Span).length) (rf qL []))] (o1 (And.intro (show 0=([]:List Span).length from rfl) (show 0=([]:List Span).length from rfl))) ?_;obtain rfl:=oi hm;exact q_sw 4 0 (q_rt q_rm)
  ·refine q_sk (s_vu [] 4 [5,17] [(3,vi 0)] [1,3] [(1,bx 78 [ci v5.Low,.own 2 0 2 v5.Rows.length])] ?_);obtain rfl:=oi hm;exact q_sw 2 0 (q_rt q_rm)
def qN1 (r:qG×Int):V:= .tup [.agg [ci r.1.Low,.own 0 0 2 r.1.Rows.length],.one (ci r.2)]
def qNv (r:qG×Int):List (Nat×(Nat×O)):=[(0,ro 0 53 2 r.1.Rows.length (rf qL r.1.Rows))]
theorem qMd (a1:Ring) (a2:Int) (a3:Int) (r:qG×Int) (hm:DP a1 a2 a3=some r):CtX Tryz.prog globs 45 0 0 [.agg (zC a1),.one (ci a2),.one (ci a3)] [] (qN1 r) (qNv r):=by
 unfold DP at hm;refine q_E f45 26 λE=>?_;refine s_vn [] 0 ⟨[(1,vi a2),(2,vi a3),(3,vp 0 0),(6,vp 1 0)],[(0,bx 71 (zC a1)),(1,bx 78 [ci 0,.emp])]⟩ ?_;obtain⟨v4,h5,hm⟩:=qC hm;obtain⟨v6,h7,hm⟩:=qC hm
 refine s_vu [qc 2 [11,12] 2 (qTb a1 a2 v4 h5),qd 4 (dex (cen [] [] 3 0 (qJO v6) (OH v6) [13,14] [2])) (wO (K:=(kx E 26 0)) (b:=false) ⟨[(13,va [ci v4.Z,.own 2 0 3 v4.Read.length]),(14,vi a3)],[(2,ro 0 95 3 v4.Read.length (rf qX v4.Read))]⟩ (opAt (rg f45 6) 4) [] [] 3 (o1 (ke v4.Read.length)) rfl (qRF (Ring.mk v4.Z v4.Read) a3 v6 h7) (.inr ⟨(by kernel_rfl),qSL v6⟩) (by kernel_rfl))] 2 [1,2,3] [(8,vo 3 0 2 v6.1.length),(9,vi v6.2)] [0] [(3,ro 0 93 2 v6.1.length (rf qF v6.1))] (q_sq ?_);refine s_va 4 [(19,vb (v6.2 !=0))] (q_cq hm (λhm=>?_) (λhm=>?_))
 ·refine s_vu [] 4 [8,9,19] [(7,vi v6.2)] [3] [] (q_fu [.ownB 1 1 4 53 2 (rf qL [])] [] [] [1] [(1,bx 78 [ci 0,.own 4 0 2 0]),(4,ro 0 53 2 0 (rf qL []))] o0 ?_);refine q_fu [.len 4 (([]:List Span).length)] [] [] [1,4] [(1,bx 78 [ci 0,.own 4 0 2 (([]:List Span).length)]),(4,ro 0 53 2 (([]:List Span).length) (rf qL []))] (o1 (And.intro (show 0=([]:List Span).length from rfl) (show 0=([]:List Span).length from rfl))) ?_;obtain rfl:=oi hm;exact q_sw 4 0 (q_rt q_rm)
 ·refine q_sk ?_;obtain⟨v9,h10,hm⟩:=qC hm;refine s_vn [qd 1 (dex (cen [] [] 4 0 (qLg v9) (qAw v9) [22] [3])) (wO (K:=(kx E 26 0)) (b:=false) ⟨[(22,vo 3 0 2 v6.1.length)],[(3,ro 0 93 2 v6.1.length (rf qF v6.1))]⟩ (opAt (rg f45 30) 1) [] [] 4 (o1 (ke v6.1.length)) rfl (qTh v6.1 v9 h10) (.inr ⟨(by kernel_rfl),qVN v9⟩) (by kernel_rfl))] 4 ⟨[(6,vp 1 0),(7,vi v9.2)],[(1,bx 78 [ci v9.1.Low,.own 4 0 2 v9.1.Rows.length]),(4,ro 0 53 2 v9.1.Rows.length (rf qL v9.1.Rows))]⟩ ?_;obtain rfl:=oi hm;exact q_sw 4 0 (q_rt q_rm)
def qL2 (r:Bool):V:=vb r
def qMl (r:Bool):List (Nat×(Nat×O)):=[]
def qIK (x3:Bool):St:=
 ⟨[(2,vb x3)],[]⟩
theorem qKS (a1:Span) (r:Bool) (hm:VC a1=some r):CtX Tryz.prog globs 205 0 0 [.agg (qL a1)] [] (qL2 r) (qMl r):=by
 unfold VC at hm;refine q_E f205 17 λE=>?_;refine s_vn [] 0 ⟨[(1,vp 0 0)],[(0,bx 53 (qL a1))]⟩ (q_jn (qIK) (λp=>UO p=some r) ?_ ?_)
 ·rintro x3 hm;obtain rfl:=oi hm;exact q_rt q_rm
 ·rcases bif_c hm with⟨b2,hm⟩|⟨b2,hm⟩
  ·exact q_vn [qf 6 b2] 1 ⟨[(2,vb (decide ((imax a1.A a1.B)<=600)))],[]⟩ (q_J (decide ((imax a1.A a1.B)<=600)) hm)
  ·exact q_vn [qf 6 b2] 1 ⟨[(2,vb false)],[]⟩ (q_J (false) hm)
def VL (r:Int):V:=vi r
def UZ (r:Int):List (Nat×(Nat×O)):=[]
def HN (a1:qG) (x6:Int):St:=
 ⟨[(1,vp 0 0),(3,vi (a1.Rows.length:Int)),(24,vc (tl qL du a1.Rows)),(25,vi (a1.Rows.length:Int)),(26,vi x6)],[(0,bx 78 (zA a1))]⟩
def qDc (a1:qG):St:=
 ⟨[(1,vp 0 0),(3,vi (a1.Rows.length:Int))],[(0,bx 78 (zA a1))]⟩
def qKv (a1:qG) (x27:Int) (x33:Bool):St:=
 ⟨[(54,vc (tl qL du a1.Rows)),(55,vi (a1.Rows.length:Int)),(56,vi x27),(66,vb x33)],[]⟩
def HC (a1:qG) (x27:Int):St:=
 ⟨[(54,vc (tl qL du a1.Rows)),(55,vi (a1.Rows.length:Int)),(56,vi x27)],[]⟩
def qCZ :St:=
 ⟨[],[]⟩
def qKy (a1:qG) (x25:Bool):St:=
 ⟨[(1,vp 0 0),(52,vb x25)],[(0,bx 78 (zA a1))]⟩
def qLD (a1:qG) (x4:Bool):St:=
 ⟨[(1,vp 0 0),(3,vi (a1.Rows.length:Int)),(22,vb x4)],[(0,bx 78 (zA a1))]⟩
theorem qJS (E:Env 0) (a1:qG):∀(n:Nat) (x6:Int) (res:Int⊕Unit),ZX a1 n x6=some res->HL (kx E 68 0) (nd f155 500) (wY 0 (λo=>qDc a1) (λv st=>RetQ Tryz.prog f155 (VL v) (UZ v) .ret st) res) n (HN a1 x6):=by
 intro n
 induction n with
 |zero=>
  intro x6 res hm;cases hm
 |succ n ih=>
  intro x6 res hm;refine qU (s_va 1 [(27,vb (decide (x6<(a1.Rows.length:Int))))] ?_);refine q_sq (q_cq hm (λhm=>?_) (λhm=>?_))
  ·refine q_sk (q_sq ?_);refine q_bk 1 ?_;obtain⟨g8,hm⟩:=qJ hm;refine s_vu [qi 0 g8] 1 [27] [(5,vp 1 0)] [] [(1,bx 53 (qL (a1.Rows.getD x6.toNat du)))] ?_;obtain⟨v9,h10,hm⟩:=qC hm;refine s_vu [qc 1 [30] 2 (qKS (a1.Rows.getD x6.toNat du) v9 h10)] 2 [5] [(32,vb (!v9))] [1] [] (q_cq hm (λhm=>?_) (λhm=>?_))
   ·refine s_vn [] 2 ⟨[(2,vi 9)],[]⟩ ?_;obtain rfl:=oi hm;refine q_rt (zQ 9 ?_);exact q_rm
   ·refine q_sk (q_vv [] 2 [26,32] [(26,vi (w64 (x6+1)))] ?_);exact q_hl (HN a1 (w64 (x6+1))) (ih (w64 (x6+1)) _ hm)
  ·refine q_ex 0 ?_;obtain rfl:=oi hm;exact q_l1 ()
theorem qJ4 (E:Env 0) (a1:qG):∀(n:Nat) (x27:Int) (res:Int⊕Unit),yI a1 n x27=some res->HL (kx E 68 0) (nd f155 4084) (wY 2 (λo=>qCZ) (λv st=>RetQ Tryz.prog f155 (VL v) (UZ v) .ret st) res) n (HC a1 x27):=by
 intro n
 induction n with
 |zero=>
  intro x27 res hm;cases hm
 |succ n ih=>
  intro x27 res hm;refine qU (s_va 1 [(57,vb (decide (x27<(a1.Rows.length:Int))))] ?_);refine q_sq (q_cq hm (λhm=>?_) (λhm=>?_))
  ·refine q_sk (q_sq ?_);refine q_bk 3 ?_;obtain⟨g29,hm⟩:=qJ hm;refine s_vu [qi 0 g29] 1 [57] [(7,vp 1 0)] [] [(1,bx 53 (qL (a1.Rows.getD x27.toNat du)))] (q_jn (qKv a1 x27) (λp=>NG x27 (yI a1 n) p=some res) ?_ ?_)
   ·rintro x33 hm;refine q_cq hm (λhm=>?_) (λhm=>?_)
    ·refine s_vn [] 2 ⟨[(2,vi 19)],[]⟩ ?_;obtain rfl:=oi hm;refine q_rt (zQ 19 ?_);exact q_rm
    ·refine q_sk (q_vv [] 2 [56,66] [(56,vi (w64 (x27+1)))] ?_);exact q_hl (HC a1 (w64 (x27+1))) (ih (w64 (x27+1)) _ hm)
   ·obtain⟨v30,h31,hm⟩:=qC hm;rcases bif_c hm with⟨b32,hm⟩|⟨b32,hm⟩
    ·exact q_vu [qc 1 [60] 2 (yD (a1.Rows.getD x27.toNat du) v30 h31),qf 2 b32] 2 [7] [(66,vb (!((((a1.Rows.getD x27.toNat du).A)==0)&&((((a1.Rows.getD x27.toNat du).B)==0)&&true))))] [1] [] (q_J (!((((a1.Rows.getD x27.toNat du).A)==0)&&((((a1.Rows.getD x27.toNat du).B)==0)&&true))) hm)
    ·exact q_vu [qc 1 [60] 2 (yD (a1.Rows.getD x27.toNat du) v30 h31),qf 2 b32] 2 [7] [(66,vb false)] [1] [] (q_J (false) hm)
  ·refine q_ex 2 ?_;obtain rfl:=oi hm;exact q_l1 ()
theorem qFI (a1:qG) (r:Int) (hm:KZ a1=some r):CtX Tryz.prog globs 155 0 0 [.agg (zA a1)] [] (VL r) (UZ r):=by
 unfold KZ at hm;refine q_E f155 68 λE=>?_;refine s_vn [] 0 ⟨[(1,vp 0 0)],[(0,bx 78 (zA a1))]⟩ (s_va 1 [(3,vi (a1.Rows.length:Int))] ?_);refine q_sq (s_va 1 [(12,vb (decide ((a1.Rows.length:Int)>120)))] ?_);refine q_cq hm (λhm=>?_) (λhm=>?_)
 ·refine s_vn [] 1 ⟨[(2,vi 4)],[]⟩ ?_;obtain rfl:=oi hm;exact q_rt q_rm
 ·refine q_sk (q_sq ?_);refine q_jn (qLD a1) (λp=>ND a1 p=some r) ?_ ?_
  ·rintro x4 hm;refine q_cq hm (λhm=>?_) (λhm=>?_)
   ·refine s_vn [] 1 ⟨[(2,vi 9)],[]⟩ ?_;obtain rfl:=oi hm;exact q_rt q_rm
   ·refine q_sk (q_sq ?_);refine s_vv [] 1 [22] [(24,vc (tl qL du a1.Rows)),(25,vi (a1.Rows.length:Int)),(26,vi 0)] ?_;obtain⟨u14,h13,hm⟩:=qC hm;refine zY (nd f155 500) 0 (by kernel_rfl) FUEL (λo=>qDc a1) (λv st=>RetQ Tryz.prog f155 (VL v) (UZ v) .ret st) u14 (q_hl (HN a1 0) (qJS E a1 FUEL 0 u14 h13)) ?_ ?_
    ·rintro v15 rfl st hr;obtain rfl:=oi hm;exact hr
    ·rintro o12 rfl;replace hm:_=some r:=hm;refine q_sq (s_va 1 [(35,vb ((a1.Rows.length:Int)==0))] ?_);refine q_cq hm (λhm=>?_) (λhm=>?_)
     ·refine q_sq (s_vn [] 1 ⟨[(38,vb (a1.Low !=0))],[]⟩ ?_);refine q_cq hm (λhm=>?_) (λhm=>?_)
      ·refine s_vn [] 1 ⟨[(2,vi 19)],[]⟩ ?_;obtain rfl:=oi hm;exact q_rt q_rm
      ·refine q_sk (s_vn [] 1 ⟨[(2,vi 0)],[]⟩ ?_);obtain rfl:=oi hm;exact q_rt q_rm
     ·refine q_sk (q_sq ?_);refine q_jn (qKy a1) (λp=>BJ a1 p=some r) ?_ ?_
      ·rintro x25 hm;refine q_cq hm (λhm=>?_) (λhm=>?_)
       ·refine s_vn [] 1 ⟨[(2,vi 19)],[]⟩ ?_;obtain rfl:=oi hm;exact q_rt q_rm
       ·refine q_sk (q_sq ?_);refine s_vn [] 1 ⟨[(54,vc (tl qL du a1.Rows)),(55,vi (a1.Rows.length:Int)),(56,vi 0)],[]⟩ ?_;obtain⟨u37,h36,hm⟩:=qC hm;refine zY (nd f155 4084) 2 (by kernel_rfl) FUEL (λo=>qCZ) (λv st=>RetQ Tryz.prog f155 (VL v) (UZ v) .ret st) u37 (q_hl (HC a1 0) (qJ4 E a1 FUEL 0 u37 h36)) ?_ ?_
        ·rintro v38 rfl st hr;obtain rfl:=oi hm;exact hr
        ·rintro o35 rfl;replace hm:_=some r:=hm;refine s_vn [] 1 ⟨[(2,vi 0)],[]⟩ ?_;obtain rfl:=oi hm;exact q_rt q_rm
      ·obtain⟨g18,hm⟩:=qJ hm;obtain⟨v19,h20,hm⟩:=qC hm;rcases bif_c hm with⟨b21,hm⟩|⟨b21,hm⟩
       ·exact q_vv [qi 2 g18,qc 4 [42] 1 (yD (a1.Rows.getD (0:Int).toNat du) v19 h20),qf 5 b21] 1 [3,35] [(52,vb true)] (q_J (true) hm)
       ·obtain⟨g22,hm⟩:=qJ hm;obtain⟨v23,h24,hm⟩:=qC hm;exact q_vv [qi 2 g18,qc 4 [42] 1 (yD (a1.Rows.getD (0:Int).toNat du) v19 h20),qf 5 b21,qi 10 g22,qk 12 [44,50] 1 ⟨[(44,vb false),(50,va [ci ((a1.Rows.getD (w64 ((a1.Rows.length:Int)-1)).toNat du).A),ci ((a1.Rows.getD (w64 ((a1.Rows.length:Int)-1)).toNat du).B)])],[]⟩ (yD (a1.Rows.getD (w64 ((a1.Rows.length:Int)-1)).toNat du) v23 h24)] 1 [3,35] [(52,vb v23)] (q_J (v23) hm)
  ·rcases bif_c hm with⟨b3,hm⟩|⟨b3,hm⟩
   ·exact q_vv [qf 3 b3] 1 [12] [(22,vb true)] (q_J (true) hm)
   ·exact q_vv [qf 3 b3] 1 [12] [(22,vb (decide (a1.Low>(w64 (60-(a1.Rows.length:Int))))))] (q_J (decide (a1.Low>(w64 (60-(a1.Rows.length:Int))))) hm)
def qOP (r:qG):V:=va (zA r)
def qPh (r:qG):List (Nat×(Nat×O)):=[]
theorem RW (a1:qG) (r:qG) (hm:QX a1=some r):CtX Tryz.prog globs 91 0 0 [.agg (zA a1)] [] (qOP r) (qPh r):=by
 unfold QX at hm;refine q_E f91 8 λE=>?_;refine s_vn [] 0 ⟨[(1,vp 0 0),(2,vp 1 0)],[(0,bx 78 (zA a1)),(1,bx 78 [ci 0,.emp])]⟩ (q_sq ?_);obtain⟨v2,h3,hm⟩:=qC hm;refine s_vv [qc 1 [3] 2 (qFI a1 v2 h3)] 2 [] [(5,vb (v2 !=0))] (q_cq hm (λhm=>?_) (λhm=>?_))
 ·refine s_vu [] 2 [1,5] [] [0] [] (q_fu [.ownB 1 1 2 53 2 (rf qL [])] [] [] [1] [(1,bx 78 [ci 0,.own 2 0 2 0]),(2,ro 0 53 2 0 (rf qL []))] o0 ?_);refine q_fu [.len 2 (([]:List Span).length),.frz 2] [] [] [1,2] [(1,bx 78 [ci 0,tl qL du ([]:List Span)])] (o1 (And.intro (And.intro (show 0=([]:List Span).length from rfl) (show 0=([]:List Span).length from rfl)) (ke (([]:List Span).length)))) ?_;obtain rfl:=oi hm;exact q_rt q_rm
 ·refine q_sk (s_vn [] 2 ⟨[(2,vp 1 0)],[(1,bx 78 (zA a1))]⟩ ?_);obtain rfl:=oi hm;exact q_rt q_rm
def qVS (r:Span):V:=va (qL r)
def qVC (r:Span):List (Nat×(Nat×O)):=[]
def qPe (a1:qG) (a2:Int) (x4:Bool):St:=
 ⟨[(1,vi a2),(2,vp 0 0),(4,vp 1 0),(18,vb x4)],[(0,bx 78 (zA a1)),(1,bx 53 [ci 0,ci 0])]⟩
theorem qJN (a1:qG) (a2:Int) (r:Span) (hm:ST a1 a2=some r):CtX Tryz.prog globs 95 0 0 [.agg (zA a1),.one (ci a2)] [] (qVS r) (qVC r):=by
 unfold ST at hm;refine q_E f95 28 λE=>?_;refine s_vn [] 0 ⟨[(1,vi a2),(2,vp 0 0),(4,vp 1 0)],[(0,bx 78 (zA a1)),(1,bx 53 [ci 0,ci 0])]⟩ (q_sq ?_);refine q_jn (qPe a1 a2) (λp=>IV a1 a2 p=some r) ?_ ?_
 ·rintro x4 hm;refine q_cq hm (λhm=>?_) (λhm=>?_)
  ·refine s_vu [] 2 [1,2,18] [] [0] [] ?_;obtain rfl:=oi hm;exact q_rt q_rm
  ·refine q_sk ?_;obtain⟨g6,hm⟩:=qJ hm;refine s_vn [qi 6 g6] 2 ⟨[(4,vp 1 0)],[(1,bx 53 (qL (a1.Rows.getD (w64 (a2-a1.Low)).toNat du)))]⟩ ?_;obtain rfl:=oi hm;exact q_rt q_rm
 ·rcases bif_c hm with⟨b3,hm⟩|⟨b3,hm⟩
  ·exact q_vv [qf 4 b3] 2 [] [(18,vb true)] (q_J (true) hm)
  ·exact q_vv [qf 4 b3] 2 [] [(18,vb (decide (a2≥(w64 (a1.Low+(a1.Rows.length:Int))))))] (q_J (decide (a2≥(w64 (a1.Low+(a1.Rows.length:Int))))) hm)
def qWG (r:Span):V:=va (qL r)
def qWB (r:Span):List (Nat×(Nat×O)):=[]
theorem RZ (a1:Span) (a2:Span) (r:Span) (hm:WH a1 a2=some r):CtX Tryz.prog globs 94 0 0 [.agg (qL a1),.agg (qL a2)] [] (qWG r) (qWB r):=by
 unfold WH at hm;refine q_E f94 24 λE=>?_;refine s_vn [] 0 ⟨[(2,vp 0 0),(3,vp 1 0),(4,vp 2 0)],[(0,bx 53 (qL a1)),(1,bx 53 (qL a2)),(2,bx 53 [ci 0,ci 0])]⟩ (s_vu [] 3 [2,3] [(5,vp 3 0)] [0,1] [(3,bx 53 [ci (imax a1.A a2.A),ci (imin a1.B a2.B)])] ?_);refine q_sq (s_va 4 [(21,vb (decide ((imax a1.A a2.A)≥(imin a1.B a2.B))))] ?_);refine q_cq hm (λhm=>?_) (λhm=>?_)
 ·refine s_vu [] 4 [5,21] [] [3] [] ?_;obtain rfl:=oi hm;exact q_rt q_rm
 ·refine q_sk (s_vn [] 4 ⟨[(4,vp 2 0)],[(2,bx 53 [ci (imax a1.A a2.A),ci (imin a1.B a2.B)])]⟩ ?_);obtain rfl:=oi hm;exact q_rt q_rm
def qFs (a1:Int) (a2:qG) (a3:qG) (r:Span):V:=va (qL r)
def qFt (a1:Int) (a2:qG) (a3:qG) (r:Span):List (Nat×(Nat×O)):=[(0,bx 78 (zA a2)),(1,bx 78 (zA a3))]
theorem qLZ (a1:Int) (a2:qG) (a3:qG) (r:Span) (hm:GW a1 a2 a3=some r):CtX Tryz.prog globs 93 2 2 [.one (ci a1),.one (.bptr 0 0 0),.one (.bptr 1 0 0)] [(0,bx 78 (zA a2)),(1,bx 78 (zA a3))] (qFs a1 a2 a3 r) (qFt a1 a2 a3 r):=by
 unfold GW at hm;refine q_E f93 12 λE=>?_;refine s_vn [] 2 ⟨[(0,vi a1),(1,vp 0 0),(2,vp 1 0),(4,vp 2 0)],[(0,bx 78 (zA a2)),(1,bx 78 (zA a3)),(2,bx 53 [ci 0,ci 0])]⟩ ?_;obtain⟨v4,h5,hm⟩:=qC hm;obtain⟨v6,h7,hm⟩:=qC hm;obtain⟨v8,h9,hm⟩:=qC hm;refine s_du [qc 2 [5,6] 3 (qJN a2 a1 v4 h5),qc 5 [8,9] 3 (qJN a3 a1 v6 h7),qc 6 [7,10] 3 (RZ v4 v6 v8 h9)] [0,0,3,0,0,31,63,127] 3 [0,1,2] [] [2] [(2,bx 53 (qL v8))] ?_;obtain rfl:=oi hm;exact q_rt q_rm
def qDg (a1:qG) (a2:qG) (r:qG):V:=va [ci r.Low,.own 2 0 2 r.Rows.length]
def qCY (a1:qG) (a2:qG) (r:qG):List (Nat×(Nat×O)):=[(0,bx 78 (zA a1)),(1,bx 78 (zA a2)),(2,ro 0 53 2 r.Rows.length (rf qL r.Rows))]
def TL (a1:qG) (a2:qG) (x4:Int):St:=
 ⟨[(0,vc (.fn 93 [.bptr 0 0 0,.bptr 1 0 0])),(2,vp 2 0),(3,vp 3 0),(5,vi x4)],[(0,bx 78 (zA a1)),(1,bx 78 (zA a2)),(2,bx 78 [ci 0,.emp])]⟩
def CV (a1:qG) (a2:qG) (x4:Int) (x18:Int) (x19:Int) (l20:List Span) (l20n:Nat):St:=
 (TL a1 a2 x4).up [] [(4,vi x18)] [] [(3,bx 78 [ci x19,.own 4 0 2 l20n]),(4,ro 0 53 2 l20n (rf qL l20))]
def qHQ (a1:qG) (a2:qG) (x4:Int) (l6:List Span) (v8:Span) (x14:Int):St:=
 (TL a1 a2 x4).up [] [(6,vp 5 0)] [] [(3,bx 78 [ci x14,.own 4 0 2 l6.length]),(4,ro 0 53 2 l6.length (rf qL l6)),(5,bx 53 (qL v8))]
def GO (a1:qG) (a2:qG) (x3:Int) (x4:Int) (x5:Int) (l6:List Span) (l6n:Nat):St:=
 (TL a1 a2 x4).up [] [(4,vi x3)] [] [(3,bx 78 [ci x5,.own 4 0 2 l6n]),(4,ro 0 53 2 l6n (rf qL l6))]
def CU (a1:qG) (a2:qG) (x21:Int) (x22:Int) (l23:List Span):St:=
 ⟨[(2,vp 2 0),(3,vp 3 0),(4,vi x21)],[(0,bx 78 (zA a1)),(1,bx 78 (zA a2)),(2,bx 78 [ci 0,.emp]),(3,bx 78 [ci x22,.own 4 0 2 l23.length]),(4,ro 0 53 2 l23.length (rf qL l23))]⟩
theorem qHn (E:Env 2) (a1:qG) (a2:qG):∀(n:Nat) (x3:Int) (x4:Int) (x5:Int) (l6:List Span) (l6n:Nat) (res:Int×Int×(List Span)),l6.length=l6n->wN a1 a2 n x3 x4 x5 l6=some res->HL (kx E 46 2) (nd f92 244) (zN 0 (λo=>CU a1 a2 o.1 o.2.1 o.2.2) res) n (GO a1 a2 x3 x4 x5 l6 l6n):=by
 intro n
 induction n with
 |zero=>
  intro x3 x4 x5 l6 l6n res hl0 hm;cases hm
 |succ n ih=>
  intro x3 x4 x5 l6 l6n res hl0 hm;subst hl0;refine qU (q_sq ?_);refine s_va 5 [(8,vb (decide (x4<60)))] (q_cq hm (λhm=>?_) (λhm=>?_))
  ·refine q_sk (q_jn (ι:=Int×Int×(List Span)×Nat) (λp=>CV a1 a2 x4 p.1 p.2.1 p.2.2.1 p.2.2.2) (λp=>p.2.2.1.length=p.2.2.2/\YF x4 (wN a1 a2 n) p.1 p.2.1 p.2.2.1=some res) ?_ ?_)
   ·rintro⟨x18,x19,l20,l20n⟩ ⟨el20,hm⟩;replace el20:l20.length=l20n:=el20;subst el20;show H _ (CV a1 a2 x4 x18 x19 l20 l20.length) _ _;exact q_vv [] 7 [5] [(5,vi (w64 (x4+1)))] (q_hl (GO a1 a2 x18 (w64 (x4+1)) x19 l20 l20.length) (ih x18 (w64 (x4+1)) x19 l20 l20.length _ rfl hm))
   ·refine q_bk 1 ?_;obtain⟨v8,h9,hm⟩:=qC hm;refine s_vu [qd 2 (dex (cen [(0,0),(1,0)] [0,0] 3 2 (qFs x4 a1 a2 v8) (qFt x4 a1 a2 v8) [11,12] [0,1])) (wO (K:=(kx E 46 2)) ⟨[(11,vc (.fn 93 [.bptr 0 0 0,.bptr 1 0 0])),(12,vi x4)],[(0,bx 78 (zA a1)),(1,bx 78 (zA a2))]⟩ (opAt (rg f92 3912) 2) [(0,0),(1,0)] [0,0] 3 o0 rfl (qLZ x4 a1 a2 v8 h9) (.inl rfl) (by kernel_rfl))] 5 [8] [(6,vp 5 0)] [] [(5,bx 53 (qL v8))] (q_bk 2 ?_);obtain⟨v10,h11,hm⟩:=qC hm;refine s_vv [qc 1 [15] 6 (yD v8 v10 h11)] 6 [] [(14,vb (!v10))] (q_cq hm (λhm=>?_) (λhm=>?_))
    ·refine q_jn (qHQ a1 a2 x4 l6 v8) (λp=>TH x4 l6 (wN a1 a2 n) v8 p=some res) ?_ ?_
     ·rintro x14 hm;obtain⟨g15,hm⟩:=qJ hm;refine s_vu [qd 3 (drw 6 0 (rf qL [v8])) (litP qL du 2 (λ_=>rfl) ([v8]:List Span) 1 rfl),qd 4 (drw 4 1 (rf qL (l6++[v8]))) (apP qL du l6 ([v8]:List Span) l6.length 1 2 16 (1<=1) (ke _) rfl rfl (λ_=>rfl) (wB g15))] 6 [6] [] [3,4,5] [(3,bx 78 [ci x14,.own 4 1 2 (l6.length+1)]),(4,ro 1 53 2 (l6.length+1) (rf qL (l6++[v8])))] (q_va 7 [(4,vi (((l6.length+1):Nat):Int))] ?_);exact q_J ((((l6.length+1):Nat):Int),x14,(l6++[v8]),(l6.length+1)) ⟨(wC rfl rfl),hm⟩
     ·refine s_vv [] 6 [4,14] [(19,vb (x3==0))] (q_cq hm (λhm=>?_) (λhm=>?_))
      ·exact q_vu [] 6 [19] [] [3] [(3,bx 78 [ci x4,.own 4 0 2 l6.length])] (q_J (x4) hm)
      ·exact q_sk (q_J (x5) hm)
    ·refine s_vu [] 6 [6,14] [(31,vb (decide (x3>0)))] [5] [] (q_cq hm (λhm=>?_) (λhm=>?_))
     ·obtain⟨g17,hm⟩:=qJ hm;exact q_vu [qd 3 (drw 6 0 (rf qL [(Span.mk 0 0)])) (litP qL du 2 (λ_=>rfl) ([(Span.mk 0 0)]:List Span) 1 rfl),qd 4 (drw 4 1 (rf qL (l6++[(Span.mk 0 0)]))) (apP qL du l6 ([(Span.mk 0 0)]:List Span) l6.length 1 2 16 (1<=1) (ke _) rfl rfl (λ_=>rfl) (wB g17))] 6 [31] [] [3,4] [(3,bx 78 [ci x5,.own 4 1 2 (l6.length+1)]),(4,ro 1 53 2 (l6.length+1) (rf qL (l6++[(Span.mk 0 0)])))] (q_J (x3,x5,(l6++[(Span.mk 0 0)]),(l6.length+1)) ⟨(wC rfl rfl),hm⟩)
     ·exact q_sk (q_J (x3,x5,l6,l6.length) ⟨rfl,hm⟩)
  ·refine q_ex 0 ?_;obtain rfl:=oi hm;exact q_l0
theorem qJ7 (a1:qG) (a2:qG) (r:qG) (hm:RK a1 a2=some r):CtX Tryz.prog globs 92 2 2 [.one (.fn 93 [.bptr 0 0 0,.bptr 1 0 0])] [(0,bx 78 (zA a1)),(1,bx 78 (zA a2))] (qDg a1 a2 r) (qCY a1 a2 r):=by
 unfold RK at hm;refine q_E f92 46 λE=>?_;refine s_vn [] 2 ⟨[(0,vc (.fn 93 [.bptr 0 0 0,.bptr 1 0 0])),(2,vp 2 0)],[(0,bx 78 (zA a1)),(1,bx 78 (zA a2)),(2,bx 78 [ci 0,.emp])]⟩ (s_vu [] 3 [] [(3,vp 3 0)] [] [(3,bx 78 [ci 0,.emp])] ?_);refine s_va 4 [(4,vi 0)] (q_sq ?_);refine s_va 4 [(5,vi (-60))] (q_fu [.ownB 3 1 4 53 2 (rf qL [])] [] [] [3] [(3,bx 78 [ci 0,.own 4 0 2 0]),(4,ro 0 53 2 0 (rf qL []))] o0 ?_);obtain⟨o24,h25,hm⟩:=qC hm
 refine zI (nd f92 244) 0 (by kernel_rfl) FUEL (λo=>CU a1 a2 o.1 o.2.1 o.2.2) o24 (q_hl (GO a1 a2 0 (-60) 0 ([]:List Span) 0) (qHn E a1 a2 FUEL 0 (-60) 0 ([]:List Span) 0 o24 rfl h25)) ?_;obtain⟨g26,hm⟩:=qJ hm
 refine s_wu [qd 3 dN (And.intro (zP g26).2.1 (zP g26).2.2)] [.row 4 o24.1.toNat (rf qL (o24.2.2.take o24.1.toNat))] (o1 (tkP qL du o24.2.2 o24.2.2.length o24.1.toNat (show o24.1.toNat<=o24.2.2.length by have:=(zP g26);omega))) 5 [4] [] [3,4] [(3,bx 78 [ci o24.2.1,.own 4 0 2 o24.1.toNat]),(4,ro 0 53 2 o24.1.toNat (rf qL (o24.2.2.take o24.1.toNat)))] (s_vu [] 5 [3] [] [2,3] [(2,bx 78 [ci o24.2.1,.own 4 0 2 o24.1.toNat])] ?_)
 refine q_fu [.len 4 ((o24.2.2.take o24.1.toNat).length)] [] [] [2,4] [(2,bx 78 [ci o24.2.1,.own 4 0 2 ((o24.2.2.take o24.1.toNat).length)]),(4,ro 0 53 2 ((o24.2.2.take o24.1.toNat).length) (rf qL (o24.2.2.take o24.1.toNat)))] (o1 (And.intro (Eq.symm (show(o24.2.2.take o24.1.toNat).length=o24.1.toNat from(WQ rfl (show o24.1.toNat<=o24.2.2.length by have:=(zP g26);omega)))) (Eq.symm (show(o24.2.2.take o24.1.toNat).length=o24.1.toNat from(WQ rfl (show o24.1.toNat<=o24.2.2.length by have:=(zP g26);omega)))))) ?_;obtain rfl:=oi hm;exact q_sw 4 2 (q_rt q_rm)
def qRD (r:qG):V:=va [ci r.Low,.own 0 0 2 r.Rows.length]
def qRN (r:qG):List (Nat×(Nat×O)):=[(0,ro 0 53 2 r.Rows.length (rf qL r.Rows))]
theorem qPa (a1:qG) (a2:qG) (r:qG) (hm:DR a1 a2=some r):CtX Tryz.prog globs 46 0 0 [.agg (zA a1),.agg (zA a2)] [] (qRD r) (qRN r):=by
 unfold DR at hm;refine q_E f46 11 λE=>?_;refine s_vn [] 0 ⟨[(2,vp 0 0),(3,vp 1 0),(4,vp 2 0)],[(0,bx 78 (zA a1)),(1,bx 78 (zA a2)),(2,bx 78 [ci 0,.emp])]⟩ ?_;obtain⟨v3,h4,hm⟩:=qC hm;obtain⟨v5,h6,hm⟩:=qC hm;refine s_du [qc 1 [5] 3 (RW a1 v3 h4),qc 3 [7] 3 (RW a2 v5 h6)] [0,1,0,7,15,31] 3 [] [] [0,1] [(0,bx 78 (zA v3)),(1,bx 78 (zA v5))] ?_;obtain⟨v7,h8,hm⟩:=qC hm
 refine s_vn [qd 1 (dex (cen [(0,0),(1,0)] [0,0] 1 2 (qDg v3 v5 v7) (qCY v3 v5 v7) [9] [0,1])) (wO (K:=(kx E 11 0)) ⟨[(9,vc (.fn 93 [.bptr 0 0 0,.bptr 1 0 0]))],[(0,bx 78 (zA v3)),(1,bx 78 (zA v5))]⟩ (opAt (rg f46 14) 1) [(0,0),(1,0)] [0,0] 1 o0 rfl (qJ7 v3 v5 v7 h8) (.inl rfl) (by kernel_rfl))] 3 ⟨[(4,vp 2 0)],[(2,bx 78 [ci v7.Low,.own 3 0 2 v7.Rows.length]),(3,ro 0 53 2 v7.Rows.length (rf qL v7.Rows))]⟩ ?_;obtain rfl:=oi hm;exact q_sw 3 0 (q_rt q_rm)
def DW (r:(List qO)×Int):V:= .tup [.one (.own 0 0 3 r.1.length),.one (ci r.2)]
def GM (r:(List qO)×Int):List (Nat×(Nat×O)):=[(0,ro 0 80 3 r.1.length (rf qS r.1))]
def qA5 (a1:Scan) (a2:Int) (a3:Int) (l8:List qG) (l8n:Nat) (x9:Int):St:=
 ⟨[(1,vi a2),(2,vi a3),(3,vp 0 0),(9,vo 1 0 2 l8n),(27,vi (a1.Rings.length:Int)),(28,vi x9)],[(0,bx 25 (jG a1)),(1,ro 0 78 2 l8n (rf zA l8))]⟩
def qFX (a1:Scan) (l16:List qG):St:=
 ⟨[(3,vp 0 0),(9,vo 1 0 2 l16.length)],[(0,bx 25 (jG a1)),(1,ro 0 78 2 l16.length (rf zA l16))]⟩
def qA6 (a1:Scan) (o17:(List qG)) (l22:List qO) (l22n:Nat) (x23:Int):St:=
 ⟨[(3,vp 0 0),(9,vo 1 0 2 o17.length),(13,vo 2 0 3 l22n),(55,vi (((w64 ((a1.Rings.length:Int)-1)).toNat:Nat):Int)),(56,vi x23)],[(0,bx 25 (jG a1)),(1,ro 0 78 2 o17.length (rf zA o17)),(2,ro 0 80 3 l22n (rf qS l22))]⟩
def qGM (l36:List qO):St:=
 ⟨[(13,vo 2 0 3 l36.length)],[(2,ro 0 80 3 l36.length (rf qS l36))]⟩
theorem qNm (E:Env 0) (a1:Scan) (a2:Int) (a3:Int):∀(n:Nat) (l8:List qG) (l8n:Nat) (x9:Int) (res:((List qO)×Int)⊕(List qG)),l8.length=l8n->TN a1 a2 a3 n l8 x9=some res->HL (kx E 94 0) (nd f23 244) (wY 0 (λo=>qFX a1 o) (λv st=>RetQ Tryz.prog f23 (DW v) (GM v) .ret st) res) n (qA5 a1 a2 a3 l8 l8n x9):=by
 intro n
 induction n with
 |zero=>
  intro l8 l8n x9 res hl0 hm;cases hm
 |succ n ih=>
  intro l8 l8n x9 res hl0 hm;subst hl0;refine qU (s_va 2 [(29,vb (decide (x9<(a1.Rings.length:Int))))] ?_);refine q_sq (q_cq hm (λhm=>?_) (λhm=>?_))
  ·refine q_sk (q_sq ?_);refine q_bk 1 (s_vv [] 2 [29] [(10,vi x9)] ?_);obtain⟨g11,hm⟩:=qJ hm;obtain⟨v12,h13,hm⟩:=qC hm;refine s_vu [qi 3 g11,qc 7 [36,37,38] 2 (qMd (a1.Rings.getD x9.toNat du) a2 a3 v12 h13)] 2 [] [(11,vp 3 0),(12,vi v12.2)] [] [(2,ro 0 53 2 v12.1.Rows.length (rf qL v12.1.Rows)),(3,bx 78 [ci v12.1.Low,.own 2 0 2 v12.1.Rows.length])] (q_sq ?_);refine s_vv [] 4 [12] [(43,vb (v12.2 !=0))] (q_cq hm (λhm=>?_) (λhm=>?_))
   ·refine s_vn [] 4 ⟨[(6,vc (.emp)),(7,vi 30)],[]⟩ (q_fo 6 4 80 3 qS ?_);refine q_fl 6 4 80 3 qS ?_;obtain rfl:=oi hm;refine q_sw 4 0 (q_rt ?_);exact zQ (([]:List qO),30) q_rm
   ·refine q_sk ?_;obtain⟨g15,hm⟩:=qJ hm;refine q_vu [qi 3 g15,qd 4 (dpr [.frz 2] (drw 0 0 (rf zA (l8.set x9.toNat v12.1)))) (And.intro (ke v12.1.Rows.length) (ke v12.1.Rows.length)),qd 4 dN (stP zA du v12.1 l8 l8.length x9.toNat 0 (zA v12.1) rfl (qT (zB g15)) rfl)] 4 [10,11,43] [] [1,2,3] [(1,ro 0 78 2 l8.length (rf zA (l8.set x9.toNat v12.1)))] (q_vv [] 4 [28] [(28,vi (w64 (x9+1)))] ?_);exact q_hl (qA5 a1 a2 a3 (l8.set x9.toNat v12.1) l8.length (w64 (x9+1))) (ih (l8.set x9.toNat v12.1) l8.length (w64 (x9+1)) _ (QE rfl) hm)
  ·refine q_ex 0 ?_;obtain rfl:=oi hm;exact q_l1 l8
theorem qOo (E:Env 0) (a1:Scan) (o17:(List qG)):∀(n:Nat) (l22:List qO) (l22n:Nat) (x23:Int) (res:((List qO)×Int)⊕(List qO)),l22.length=l22n->UC a1 o17 n l22 x23=some res->HL (kx E 94 0) (nd f23 1012) (wY 2 qGM (λv st=>RetQ Tryz.prog f23 (DW v) (GM v) .ret st) res) n (qA6 a1 o17 l22 l22n x23):=by
 intro n
 induction n with
 |zero=>
  intro l22 l22n x23 res hl0 hm;cases hm
 |succ n ih=>
  intro l22 l22n x23 res hl0 hm;subst hl0;refine qU (s_va 3 [(57,vb (decide (x23<(((w64 ((a1.Rings.length:Int)-1)).toNat:Nat):Int))))] ?_);refine q_sq (q_cq hm (λhm=>?_) (λhm=>?_))
  ·refine q_sk (q_sq ?_);refine q_bk 3 (s_vv [] 3 [57] [(14,vi x23)] ?_);obtain⟨g25,hm⟩:=qJ hm;obtain⟨g26,hm⟩:=qJ hm;obtain⟨v27,h28,hm⟩:=qC hm;refine s_du [qi 2 g25,qd 3 dN (qT (zB g25)),qi 7 g26,qd 8 dN (qT (zB g26)),qc 9 [62,67] 3 (qPa (o17.getD x23.toNat du) (o17.getD ((w64 (x23+1)).toNat) du) v27 h28)] [0,0,3,7,0,0,32,112,240,511,0,2047] 3 [] [(15,vp 4 0)] [] [(3,ro 0 53 2 v27.Rows.length (rf qL v27.Rows)),(4,bx 78 [ci v27.Low,.own 3 0 2 v27.Rows.length])] (q_sq ?_);refine s_va 5 [(72,vb ((v27.Rows.length:Int)==0))] (q_cq hm (λhm=>?_) (λhm=>?_))
   ·refine s_vn [] 5 ⟨[(6,vc (.emp)),(7,vi 30)],[]⟩ (q_fo 6 5 80 3 qS ?_);refine q_fl 6 5 80 3 qS ?_;obtain rfl:=oi hm;refine q_sw 5 0 (q_rt ?_);exact zQ (([]:List qO),30) q_rm
   ·refine q_sk ?_;obtain⟨g33,hm⟩:=qJ hm;obtain⟨g34,hm⟩:=qJ hm;obtain⟨g35,hm⟩:=qJ hm
    refine q_xu [.frz 3] (o1 (ke v27.Rows.length)) [qi 6 g33,qi 12 g34,qi 18 g35,qd 19 (drw 0 0 (rf qS (l22.set x23.toNat (qO.mk (w64 (((a1.Rings.getD (w64 (x23+1)).toNat du).Z)-((a1.Rings.getD x23.toNat du).Z))) v27)))) (stP qS du (qO.mk (w64 (((a1.Rings.getD (w64 (x23+1)).toNat du).Z)-((a1.Rings.getD x23.toNat du).Z))) v27) l22 l22.length x23.toNat 0 [ci (w64 (((a1.Rings.getD (w64 (x23+1)).toNat du).Z)-((a1.Rings.getD x23.toNat du).Z))),ci v27.Low,tl qL du v27.Rows] rfl (qT (zB g35)) rfl)] [] o0 [0,0,0,4,0,16,60,124,252,0,512,0,3584,7680,15872,32764,0,131068,262143,524287] 5 [14,15,72] [] [2,3,4] [(2,ro 0 80 3 l22.length (rf qS (l22.set x23.toNat (qO.mk (w64 (((a1.Rings.getD (w64 (x23+1)).toNat du).Z)-((a1.Rings.getD x23.toNat du).Z))) v27))))] ?_
    exact q_vv [] 5 [56] [(56,vi (w64 (x23+1)))] (q_hl (qA6 a1 o17 (l22.set x23.toNat (qO.mk (w64 (((a1.Rings.getD (w64 (x23+1)).toNat du).Z)-((a1.Rings.getD x23.toNat du).Z))) v27)) l22.length (w64 (x23+1))) (ih (l22.set x23.toNat (qO.mk (w64 (((a1.Rings.getD (w64 (x23+1)).toNat du).Z)-((a1.Rings.getD x23.toNat du).Z))) v27)) l22.length (w64 (x23+1)) _ (QE rfl) hm))
  ·refine q_ex 2 ?_;obtain rfl:=oi hm;exact q_l1 l22
theorem qTd (a1:Scan) (a2:Int) (a3:Int) (r:(List qO)×Int) (hm:EA a1 a2 a3=some r):CtX Tryz.prog globs 23 0 0 [.agg (jG a1),.one (ci a2),.one (ci a3)] [] (DW r) (GM r):=by
 unfold EA at hm;refine q_E f23 94 λE=>?_;refine s_vn [] 0 ⟨[(1,vi a2),(2,vi a3),(3,vp 0 0)],[(0,bx 25 (jG a1))]⟩ (q_sq ?_);obtain⟨v4,h5,hm⟩:=qC hm;refine s_vv [qc 1 [16] 1 (qJH a1 v4 h5)] 1 [] [(8,vi v4)] (s_va 1 [(19,vb (v4 !=0))] ?_);refine q_cq hm (λhm=>?_) (λhm=>?_)
 ·refine s_vn [] 1 ⟨[(6,vc (.emp)),(7,vi v4)],[]⟩ (q_fo 6 1 80 3 qS ?_);refine q_fl 6 1 80 3 qS ?_;obtain rfl:=oi hm;exact q_sw 1 0 (q_rt q_rm)
 ·refine q_sk ?_;obtain⟨g7,hm⟩:=qJ hm;refine s_vu [qd 3 (drw 1 0 (rf zA (List.replicate ((a1.Rings.length:Int).toNat) (qG.mk 0 ([]:List Span))))) (mkPe zA du (qG.mk 0 ([]:List Span)) (a1.Rings.length:Int) 32 [ci 0,.emp] (GH g7) (.same _ (.emp _ .nil)))] 1 [8,19] [(9,vo 1 0 2 ((a1.Rings.length:Int).toNat))] [] [(1,ro 0 78 2 ((a1.Rings.length:Int).toNat) (rf zA (List.replicate ((a1.Rings.length:Int).toNat) (qG.mk 0 ([]:List Span)))))] (q_sq ?_);refine s_va 2 [(27,vi (a1.Rings.length:Int)),(28,vi 0)] ?_;obtain⟨u19,h18,hm⟩:=qC hm
  refine zY (nd f23 244) 0 (by kernel_rfl) FUEL (λo=>qFX a1 o) (λv st=>RetQ Tryz.prog f23 (DW v) (GM v) .ret st) u19 (q_hl (qA5 a1 a2 a3 (List.replicate ((a1.Rings.length:Int).toNat) (qG.mk 0 ([]:List Span))) ((a1.Rings.length:Int).toNat) 0) (qNm E a1 a2 a3 FUEL (List.replicate ((a1.Rings.length:Int).toNat) (qG.mk 0 ([]:List Span))) ((a1.Rings.length:Int).toNat) 0 u19 DS h18)) ?_ ?_
  ·rintro v20 rfl st hr;obtain rfl:=oi hm;exact hr
  ·rintro o17 rfl;replace hm:_=some r:=hm;obtain⟨g21,hm⟩:=qJ hm;refine s_vu [qd 4 (drw 2 0 (rf qS (List.replicate ((w64 ((a1.Rings.length:Int)-1)).toNat) (qO.mk 0 (qG.mk 0 ([]:List Span)))))) (mkPe qS du (qO.mk 0 (qG.mk 0 ([]:List Span))) (w64 ((a1.Rings.length:Int)-1)) 40 [ci 0,ci 0,.emp] (GH g21) (.same _ (.same _ (.emp _ .nil))))] 2 [] [(13,vo 2 0 3 ((w64 ((a1.Rings.length:Int)-1)).toNat))] [] [(2,ro 0 80 3 ((w64 ((a1.Rings.length:Int)-1)).toNat) (rf qS (List.replicate ((w64 ((a1.Rings.length:Int)-1)).toNat) (qO.mk 0 (qG.mk 0 ([]:List Span))))))] (q_sq ?_)
   refine s_va 3 [(55,vi (((w64 ((a1.Rings.length:Int)-1)).toNat:Nat):Int)),(56,vi 0)] ?_;obtain⟨u39,h38,hm⟩:=qC hm;refine zY (nd f23 1012) 2 (by kernel_rfl) FUEL qGM (λv st=>RetQ Tryz.prog f23 (DW v) (GM v) .ret st) u39 (q_hl (qA6 a1 o17 (List.replicate ((w64 ((a1.Rings.length:Int)-1)).toNat) (qO.mk 0 (qG.mk 0 ([]:List Span)))) ((w64 ((a1.Rings.length:Int)-1)).toNat) 0) (qOo E a1 o17 FUEL (List.replicate ((w64 ((a1.Rings.length:Int)-1)).toNat) (qO.mk 0 (qG.mk 0 ([]:List Span)))) ((w64 ((a1.Rings.length:Int)-1)).toNat) 0 u39 DS h38)) ?_ ?_
   ·rintro v40 rfl st hr;obtain rfl:=oi hm;exact hr
   ·rintro o37 rfl;replace hm:_=some r:=hm;refine s_vv [] 3 [13] [(6,vo 2 0 3 o37.length),(7,vi 0)] ?_;obtain rfl:=oi hm;exact q_sw 2 0 (q_rt q_rm)
end Saw
end Go.SL

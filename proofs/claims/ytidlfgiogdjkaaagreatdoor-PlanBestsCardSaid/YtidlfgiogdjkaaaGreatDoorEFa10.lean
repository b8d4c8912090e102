import Derived.Test.YtidlfgiogdjkaaaGreatDoorEBase
import Derived.Test.YtidlfgiogdjkaaaGreatDoorEFa9
set_option linter.unusedVariables false
set_option linter.unusedSimpArgs false
namespace Go.SL
namespace Saw
open Go.Proofs Go.Proofs.Tryz
set_option maxHeartbeats 4000000
set_option maxRecDepth 100000
def qXu (r:(List qC)):V:=vo 0 0 3 r.length
def qXL (r:(List qC)):List (Nat×(Nat×O)):=[(0,ro 0 72 3 r.length (rf qL r))]
def qIf (a1:List qC) (a2:Span) (x7:Int) (x8:Int) (l15:List qC) (l15n:Nat):St:=
 ⟨[(0,vc (tl qL du a1)),(3,vp 0 0),(5,vo 1 0 3 l15n),(6,vi x7),(7,vi x8)],[(0,bx 31 [ci (imax a2.A 0),ci (imin a2.B 20000)]),(1,ro 0 72 3 l15n (rf qL l15))]⟩
def qCE (a1:List qC) (a2:Span) (l6:List qC) (l6n:Nat) (x7:Int) (x8:Int):St:=
 ⟨[(0,vc (tl qL du a1)),(3,vp 0 0),(5,vo 1 0 3 l6n),(6,vi x7),(7,vi x8)],[(0,bx 31 [ci (imax a2.A 0),ci (imin a2.B 20000)]),(1,ro 0 72 3 l6n (rf qL l6))]⟩
def qH5 (l16:List qC):St:=
 ⟨[(5,vo 1 0 3 l16.length)],[(1,ro 0 72 3 l16.length (rf qL l16))]⟩
theorem qOI (E:Env 0) (a1:List qC) (a2:Span):∀(n:Nat) (l6:List qC) (l6n:Nat) (x7:Int) (x8:Int) (res:(List qC)),l6.length=l6n->XQ a1 a2 n l6 x7 x8=some res->HL (kx E 53 0) (nd f222 1012) (zL 0 qH5 res) n (qCE a1 a2 l6 l6n x7 x8):=by
 intro n
 induction n with
 |zero=>
  intro l6 l6n x7 x8 res hl0 hm;cases hm
 |succ n ih=>
  intro l6 l6n x7 x8 res hl0 hm;subst hl0;refine qT (q_sq ?_);refine s_va 2 [(22,vb (decide (x8<(a1.length:Int))))] (q_cq hm (λhm=>?_) (λhm=>?_))
  ·refine q_sk (q_sq ?_);refine q_bk 1 ?_;obtain⟨g10,hm⟩:=qI hm;obtain⟨v11,h12,hm⟩:=qB hm;refine s_du [qi 4 g10,qc 7 [25,26,31] 2 (qJj (Span.mk (imax a2.A 0) (imin a2.B 20000)) x7 ((a1.getD x8.toNat du).Len) v11 h12)] [0,0,0,0,12,28,60,127,255] 2 [22] [(8,vi v11)] [] [] (q_jn (ι:=(List qC)×Nat) (λp=>qIf a1 a2 x7 x8 p.1 p.2) (λp=>p.1.length=p.2/\qA2 a1 x7 x8 (XQ a1 a2 n) p.1=some res) ?_ ?_)
   ·rintro⟨l15,l15n⟩ ⟨el15,hm⟩;replace el15:l15.length=l15n:=el15;subst el15;show H _ (qIf a1 a2 x7 x8 l15 l15.length) _ _;refine q_vv [qi 3 g10] 3 [6] [(6,vi (w64 (x7+((a1.getD x8.toNat du).Len))))] (q_vv [] 3 [7] [(7,vi (w64 (x8+1)))] ?_);exact q_hl (qCE a1 a2 l15 l15.length (w64 (x7+((a1.getD x8.toNat du).Len))) (w64 (x8+1))) (ih l15 l15.length (w64 (x7+((a1.getD x8.toNat du).Len))) (w64 (x8+1)) _ rfl hm)
   ·refine s_va 2 [(34,vb (decide (v11>0)))] (q_cq hm (λhm=>?_) (λhm=>?_))
    ·obtain⟨g14,hm⟩:=qI hm
     exact q_vu [qi 4 g10,qd 8 (drw 2 0 (rf qL [(qC.mk v11 ((a1.getD x8.toNat du).Sec))])) (litP qL du 3 (λ_=>rfl) ([(qC.mk v11 ((a1.getD x8.toNat du).Sec))]:List qC) 1 rfl),qd 9 (drw 1 1 (rf qL (l6++[(qC.mk v11 ((a1.getD x8.toNat du).Sec))]))) (apP qL du l6 ([(qC.mk v11 ((a1.getD x8.toNat du).Sec))]:List qC) l6.length 1 3 40 (1<=1) (ki _) rfl rfl (λ_=>rfl) (zI g14))] 2 [5,8,34] [(5,vo 1 1 3 (l6.length+1))] [1] [(1,ro 1 72 3 (l6.length+1) (rf qL (l6++[(qC.mk v11 ((a1.getD x8.toNat du).Sec))])))] (q_J ((l6++[(qC.mk v11 ((a1.getD x8.toNat du).Sec))]),(l6.length+1)) ⟨(zE rfl rfl),hm⟩)
    ·exact q_sk (q_J (l6,l6.length) ⟨rfl,hm⟩)
  ·refine q_ex 0 ?_;obtain rfl:=oi hm;exact q_l0
theorem qVy (a1:List qC) (a2:Span) (r:(List qC)) (hm:qDf a1 a2=some r):CtX Tryz.prog globs 222 0 0 [.one (tl qL du a1),.agg (qG a2)] [] (qXu r) (qXL r):=by
 unfold qDf at hm;refine q_E f222 53 λE=>?_;refine s_vn [] 0 ⟨[(0,vc (tl qL du a1)),(3,vp 0 0)],[(0,bx 31 (qG a2))]⟩ (q_sq ?_);obtain⟨v3,h4,hm⟩:=qB hm;refine s_vv [qc 1 [9] 1 (jG a1 v3 h4)] 1 [] [(11,vb (v3 !=0))] (q_cq hm (λhm=>?_) (λhm=>?_))
 ·refine s_vn [] 1 ⟨[(4,vc (.emp))],[]⟩ (q_fn [.own 4 1 72 3 (rf qL [])] ⟨[(4,vo 1 0 3 0)],[(1,ro 0 72 3 0 (rf qL []))]⟩ o0 ?_);refine q_fn [.len 1 (([]:List qC).length)] ⟨[(4,vo 1 0 3 (([]:List qC).length))],[(1,ro 0 72 3 (([]:List qC).length) (rf qL []))]⟩ (o1 (And.intro (show 0=([]:List qC).length from rfl) (show 0=([]:List qC).length from rfl))) ?_;obtain rfl:=oi hm;exact q_sw 1 0 (q_rt q_rm)
 ·refine q_sk (s_vv [] 1 [11] [(5,vc (.emp))] ?_);refine s_vu [] 1 [] [] [0] [(0,bx 31 [ci (imax a2.A 0),ci (imin a2.B 20000)])] (s_va 1 [(6,vi 0)] ?_);refine q_sq (s_va 1 [(7,vi 0)] ?_);refine q_fo 5 1 72 3 qL ?_;obtain⟨o17,h18,hm⟩:=qB hm;refine zF (nd f222 1012) 0 (by kernel_rfl) FUEL qH5 o17 (q_hl (qCE a1 a2 ([]:List qC) 0 0 0) (qOI E a1 a2 FUEL ([]:List qC) 0 0 0 o17 rfl h18)) (s_vv [] 2 [5] [(4,vo 1 0 3 o17.length)] ?_);obtain rfl:=oi hm;exact q_sw 1 0 (q_rt q_rm)
def qUW (r:Int):V:=vi r
def qWp (r:Int):List (Nat×(Nat×O)):=[]
def qAW (a2:Box) (v3:(List qC)) (x5:Int) (x6:Int):St:=
 ⟨[(3,vp 0 0),(5,vo 1 0 3 v3.length),(6,vi (w64 ((w64 (a2.X.B-a2.X.A))*(w64 (a2.Y.B-a2.Y.A))))),(7,vi x5),(8,vi x6)],[(0,bx 128 (wG a2)),(1,ro 0 72 3 v3.length (rf qL v3))]⟩
def qGl (x12:Int):St:=
 ⟨[(7,vi x12)],[]⟩
theorem qMI (E:Env 0) (a2:Box) (v3:(List qC)):∀(n:Nat) (x5:Int) (x6:Int) (res:Int),TX a2 v3 n x5 x6=some res->HL (kx E 58 0) (nd f219 500) (zL 0 qGl res) n (qAW a2 v3 x5 x6):=by
 intro n
 induction n with
 |zero=>
  intro x5 x6 res hm;cases hm
 |succ n ih=>
  intro x5 x6 res hm;refine qT (q_sq ?_);refine s_va 2 [(32,vb (decide (x6<(v3.length:Int))))] (q_cq hm (λhm=>?_) (λhm=>?_))
  ·refine q_sk (q_sq ?_);refine q_bk 1 ?_;obtain⟨g8,hm⟩:=qI hm;obtain⟨v9,h10,hm⟩:=qB hm;refine s_du [qi 2 g8,qd 4 dN (qV (zC g8)),qc 10 [39,44] 2 (qGd ((v3.getD x6.toNat du).Sec) (Rect.mk a2.X a2.Y) v9 h10)] [0,0,3,7,15,0,32,0,128,480,1023,2047] 2 [32] [(9,vi v9)] [] [] ?_;obtain⟨g11,hm⟩:=qI hm
   refine q_vv [qd 9 dN (AP g11)] 2 [7,9] [(7,vi (imax x5 (w64 (Int.tdiv (w64 ((w64 ((w64 (1000*(w64 ((w64 ((w64 (a2.X.B-a2.X.A))*(w64 (a2.Y.B-a2.Y.A))))-v9))))+(w64 ((w64 (a2.X.B-a2.X.A))*(w64 (a2.Y.B-a2.Y.A))))))-1)) (w64 ((w64 (a2.X.B-a2.X.A))*(w64 (a2.Y.B-a2.Y.A))))))))] (q_vv [] 2 [8] [(8,vi (w64 (x6+1)))] ?_)
   exact q_hl (qAW a2 v3 (imax x5 (w64 (Int.tdiv (w64 ((w64 ((w64 (1000*(w64 ((w64 ((w64 (a2.X.B-a2.X.A))*(w64 (a2.Y.B-a2.Y.A))))-v9))))+(w64 ((w64 (a2.X.B-a2.X.A))*(w64 (a2.Y.B-a2.Y.A))))))-1)) (w64 ((w64 (a2.X.B-a2.X.A))*(w64 (a2.Y.B-a2.Y.A))))))) (w64 (x6+1))) (ih (imax x5 (w64 (Int.tdiv (w64 ((w64 ((w64 (1000*(w64 ((w64 ((w64 (a2.X.B-a2.X.A))*(w64 (a2.Y.B-a2.Y.A))))-v9))))+(w64 ((w64 (a2.X.B-a2.X.A))*(w64 (a2.Y.B-a2.Y.A))))))-1)) (w64 ((w64 (a2.X.B-a2.X.A))*(w64 (a2.Y.B-a2.Y.A))))))) (w64 (x6+1)) _ hm)
  ·refine q_ex 0 ?_;obtain rfl:=oi hm;exact q_l0
theorem qTV (a1:List qC) (a2:Box) (r:Int) (hm:qAT a1 a2=some r):CtX Tryz.prog globs 219 0 0 [.one (tl qL du a1),.agg (wG a2)] [] (qUW r) (qWp r):=by
 unfold qAT at hm;refine q_E f219 58 λE=>?_;refine s_vn [] 0 ⟨[(0,vc (tl qL du a1)),(3,vp 0 0)],[(0,bx 128 (wG a2))]⟩ ?_;obtain⟨v3,h4,hm⟩:=qB hm;refine s_vu [qc 3 [10,12] 1 (qVy a1 a2.Z v3 h4)] 1 [0] [(5,vo 1 0 3 v3.length)] [] [(1,ro 0 72 3 v3.length (rf qL v3))] (s_va 2 [(6,vi (w64 ((w64 (a2.X.B-a2.X.A))*(w64 (a2.Y.B-a2.Y.A)))))] ?_);refine s_va 2 [(7,vi 0)] (q_sq ?_);refine s_va 2 [(8,vi 0)] ?_;obtain⟨o13,h14,hm⟩:=qB hm;refine zF (nd f219 500) 0 (by kernel_rfl) FUEL qGl o13 (q_hl (qAW a2 v3 0 0) (qMI E a2 v3 FUEL 0 0 o13 h14)) (s_vn [] 2 ⟨[(4,vi o13)],[]⟩ ?_);obtain rfl:=oi hm
 exact q_rt q_rm
def qCA (r:Bool):V:=vb r
def qCt (r:Bool):List (Nat×(Nat×O)):=[]
def TD (a1:List qC) (a3:Product) (a4:Box):St:=
 ⟨[(0,vc (tl qL du a1)),(6,vp 0 0),(7,vp 1 0)],[(0,bx 54 (qH a3)),(1,bx 128 (wG a4))]⟩
def qLQ (a1:List qC) (a2:List qF) (a3:Product) (a4:Box) (x19:Int) (x25:Bool):St:=
 (TD a1 a3 a4).up [] [(1,vc (tl qP du a2)),(15,vi x19),(94,vb x25)] [] []
def ID (a1:List qC) (a2:List qF) (a3:Product) (a4:Box) (x19:Int):St:=
 (TD a1 a3 a4).up [] [(1,vc (tl qP du a2)),(15,vi x19)] [] []
def qD5 (a1:List qC) (a3:Product) (a4:Box):St:=
 (TD a1 a3 a4).up [] [] [] []
def qLC (a1:List qC) (a2:List qF) (a3:Product) (a4:Box) (x17:Bool):St:=
 (TD a1 a3 a4).up [] [(1,vc (tl qP du a2)),(74,vb x17)] [] []
theorem qJH (E:Env 0) (a1:List qC) (a2:List qF) (a3:Product) (a4:Box):∀(n:Nat) (x19:Int) (res:Bool⊕Unit),yS a2 a4 n x19=some res->HL (kx E 101 0) (nd f214 2036) (wN 0 (λo=>qD5 a1 a3 a4) (λv st=>RetQ Tryz.prog f214 (qCA v) (qCt v) .ret st) res) n (ID a1 a2 a3 a4 x19):=by
 intro n
 induction n with
 |zero=>
  intro x19 res hm;cases hm
 |succ n ih=>
  intro x19 res hm;refine qT (q_sq ?_);refine s_va 2 [(78,vb (decide (x19<(a2.length:Int))))] (q_cq hm (λhm=>?_) (λhm=>?_))
  ·refine q_sk (q_sq ?_);refine q_bk 1 (q_jn (qLQ a1 a2 a3 a4 x19) (λp=>ME x19 (yS a2 a4 n) p=some res) ?_ ?_)
   ·rintro x25 hm;refine q_cq hm (λhm=>?_) (λhm=>?_)
    ·refine s_vn [] 2 ⟨[(8,vb false)],[]⟩ ?_;obtain rfl:=oi hm;refine q_rt (zG false ?_);exact q_rm
    ·refine q_sk (q_vv [] 2 [15,94] [(15,vi (w64 (x19+1)))] ?_);exact q_hl (ID a1 a2 a3 a4 (w64 (x19+1))) (ih (w64 (x19+1)) _ hm)
   ·obtain⟨g21,hm⟩:=qI hm;rcases bif_c hm with⟨b22,hm⟩|⟨b22,hm⟩
    ·obtain⟨v23,h24,hm⟩:=qB hm;exact q_du [qi 2 g21,qf 6 b22,qi 9 g21,qk 12 [87,91,92] 2 ⟨[(87,vb true),(91,va [ci ((a2.getD x19.toNat du).Kind),ci ((((a2.getD x19.toNat du).Box).X).A),ci ((((a2.getD x19.toNat du).Box).X).B),ci ((((a2.getD x19.toNat du).Box).Y).A),ci ((((a2.getD x19.toNat du).Box).Y).B),ci ((((a2.getD x19.toNat du).Box).Z).A),ci ((((a2.getD x19.toNat du).Box).Z).B)]),(92,va (wG a4))],[]⟩ (qFu (a2.getD x19.toNat du) a4 v23 h24)] [0,0,3,7,15,31,63,127,127,511,1023,127,4095,8191] 2 [78] [(94,vb v23)] [] [] (q_J (v23) hm)
    ·exact q_du [qi 2 g21,qf 6 b22] [0,0,3,7,15,31,63,127,127,511,1023,127,4095,8191] 2 [78] [(94,vb false)] [] [] (q_J (false) hm)
  ·refine q_ex 0 ?_;obtain rfl:=oi hm;exact q_l1 ()
theorem qPs (a1:List qC) (a2:List qF) (a3:Product) (a4:Box) (r:Bool) (hm:SI a1 a2 a3 a4=some r):CtX Tryz.prog globs 214 0 0 [.one (tl qL du a1),.one (tl qP du a2),.agg (qH a3),.agg (wG a4)] [] (qCA r) (qCt r):=by
 unfold SI at hm;refine q_E f214 101 λE=>?_;refine s_vn [] 0 ⟨[(0,vc (tl qL du a1)),(1,vc (tl qP du a2)),(6,vp 0 0),(7,vp 1 0)],[(0,bx 54 (qH a3)),(1,bx 128 (wG a4))]⟩ (q_sq ?_);obtain⟨v5,h6,hm⟩:=qB hm;refine s_vv [qc 2 [16,17] 2 (qQb a1 a4 v5 h6)] 2 [] [(19,vb (!v5))] (q_cq hm (λhm=>?_) (λhm=>?_))
 ·refine s_vn [] 2 ⟨[(8,vb false)],[]⟩ ?_;obtain rfl:=oi hm;exact q_rt q_rm
 ·refine q_sk (s_du [] [0,1,3,0,8,24,63,0,128,384,0,1024,3072,8064,127,32767] 2 [19] [(9,vi (w64 (a4.X.B-a4.X.A))),(10,vi (w64 (a4.Y.B-a4.Y.A)))] [] [] ?_);obtain⟨v8,h9,hm⟩:=qB hm;refine s_vv [qc 1 [35] 2 (AH a3 v8 h9)] 2 [] [(11,vi v8.1),(12,vi v8.2)] ?_;obtain⟨v10,h11,hm⟩:=qB hm;refine s_vv [qc 8 [40,47] 2 (qHJ a3 (w64 (a4.Z.B-a4.Z.A)) v10 h11)] 2 [] [(14,vb v10.2)] (q_sq ?_);refine q_jn (qLC a1 a2 a3 a4) (λp=>jK a1 a2 a3 a4 p=some r) ?_ ?_
  ·rintro x17 hm;refine q_cq hm (λhm=>?_) (λhm=>?_)
   ·refine s_vn [] 2 ⟨[(8,vb false)],[]⟩ ?_;obtain rfl:=oi hm;exact q_rt q_rm
   ·refine q_sk (q_sq ?_);refine s_vv [] 2 [74] [(15,vi 0)] ?_;obtain⟨u29,h28,hm⟩:=qB hm;refine zT (nd f214 2036) 0 (by kernel_rfl) FUEL (λo=>qD5 a1 a3 a4) (λv st=>RetQ Tryz.prog f214 (qCA v) (qCt v) .ret st) u29 (q_hl (ID a1 a2 a3 a4 0) (qJH E a1 a2 a3 a4 FUEL 0 u29 h28)) ?_ ?_
    ·rintro v30 rfl st hr;obtain rfl:=oi hm;exact hr
    ·rintro o27 rfl;replace hm:_=some r:=hm;obtain⟨v31,h32,hm⟩:=qB hm;refine s_dn [qc 2 [95,96] 2 (qTV a1 a4 v31 h32)] [0,0,3,0,8,31,63] 2 ⟨[(8,vb (decide (v31<=a3.Wane)))],[]⟩ ?_;obtain rfl:=oi hm;exact q_rt q_rm
  ·rcases bif_c hm with⟨b12,hm⟩|⟨b12,hm⟩
   ·exact q_vv [qf 2 b12] 2 [9,10,11,12,14] [(74,vb true)] (q_J (true) hm)
   ·rcases bif_c hm with⟨b13,hm⟩|⟨b13,hm⟩
    ·rcases bif_c hm with⟨b14,hm⟩|⟨b14,hm⟩
     ·rcases bif_c hm with⟨b15,hm⟩|⟨b15,hm⟩
      ·exact q_vv [qf 2 b12,qf 6 b13,qf 12 b14,qf 16 b15] 2 [9,10,11,12,14] [(74,vb (!((w64 (a4.Y.B-a4.Y.A))==v8.1)))] (q_J (!((w64 (a4.Y.B-a4.Y.A))==v8.1)) hm)
      ·exact q_vv [qf 2 b12,qf 6 b13,qf 12 b14,qf 16 b15] 2 [9,10,11,12,14] [(74,vb true)] (q_J (true) hm)
     ·exact q_vv [qf 2 b12,qf 6 b13,qf 12 b14] 2 [9,10,11,12,14] [(74,vb false)] (q_J (false) hm)
    ·rcases bif_c hm with⟨b16,hm⟩|⟨b16,hm⟩
     ·exact q_vv [qf 2 b12,qf 6 b13,qf 16 b16] 2 [9,10,11,12,14] [(74,vb (!((w64 (a4.Y.B-a4.Y.A))==v8.1)))] (q_J (!((w64 (a4.Y.B-a4.Y.A))==v8.1)) hm)
     ·exact q_vv [qf 2 b12,qf 6 b13,qf 16 b16] 2 [9,10,11,12,14] [(74,vb true)] (q_J (true) hm)
open Go.Proofs Go.Proofs.Tryz
def qTQ (r:Int):V:=vi r
def qUw (r:Int):List (Nat×(Nat×O)):=[]
def qM5 (a1:List qF) (a3:Box) (a4:Int) (x8:Int) (x14:Int):St:=
 ⟨[(0,vc (tl qP du a1)),(3,vi a4),(6,vp 1 0),(9,vi x14),(11,vi x8)],[(1,bx 128 (wG a3))]⟩
def qAw (a1:List qF) (a3:Box) (a4:Int) (x7:Int) (x8:Int):St:=
 ⟨[(0,vc (tl qP du a1)),(3,vi a4),(6,vp 1 0),(9,vi x7),(11,vi x8)],[(1,bx 128 (wG a3))]⟩
def qEW (x15:Int):St:=
 ⟨[(9,vi x15)],[]⟩
theorem qLM (E:Env 0) (a1:List qF) (a3:Box) (a4:Int):∀(n:Nat) (x7:Int) (x8:Int) (res:Int),ZW a1 a3 a4 n x7 x8=some res->HL (kx E 41 0) (nd f215 116) (zL 0 qEW res) n (qAw a1 a3 a4 x7 x8):=by
 intro n
 induction n with
 |zero=>
  intro x7 x8 res hm;cases hm
 |succ n ih=>
  intro x7 x8 res hm;refine qT (q_sq ?_);refine s_va 2 [(27,vb (decide (x8<(a1.length:Int))))] (q_cq hm (λhm=>?_) (λhm=>?_))
  ·refine q_sk (q_jn (qM5 a1 a3 a4 x8) (λp=>EM x8 (ZW a1 a3 a4 n) p=some res) ?_ ?_)
   ·rintro x14 hm;exact q_vv [] 2 [11] [(11,vi (w64 (x8+1)))] (q_hl (qAw a1 a3 a4 x14 (w64 (x8+1))) (ih x14 (w64 (x8+1)) _ hm))
   ·refine q_bk 1 ?_;obtain⟨g10,hm⟩:=qI hm;obtain⟨v11,h12,hm⟩:=qB hm;refine s_du [qi 2 g10,qc 5 [33,34] 2 (qFu (a1.getD x8.toNat du) a3 v11 h12)] [0,0,3,7,0,31] 2 [27] [(35,vb v11)] [] [] (q_cq hm (λhm=>?_) (λhm=>?_))
    ·exact q_vv [] 2 [9,35] [(9,vi (w64 (x7-a4)))] (q_J (w64 (x7-a4)) hm)
    ·exact q_sk (q_J (x7) hm)
  ·refine q_ex 0 ?_;obtain rfl:=oi hm;exact q_l0
theorem qRM (a1:List qF) (a2:Product) (a3:Box) (a4:Int) (r:Int) (hm:OJ a1 a2 a3 a4=some r):CtX Tryz.prog globs 215 0 0 [.one (tl qP du a1),.agg (qH a2),.agg (wG a3),.one (ci a4)] [] (qTQ r) (qUw r):=by
 unfold OJ at hm;refine q_E f215 41 λE=>?_;refine s_vn [] 0 ⟨[(0,vc (tl qP du a1)),(3,vi a4),(5,vp 0 0),(6,vp 1 0)],[(0,bx 54 (qH a2)),(1,bx 128 (wG a3))]⟩ ?_;obtain⟨v5,h6,hm⟩:=qB hm;refine s_vu [qc 8 [13,20] 2 (qHJ a2 (w64 (a3.Z.B-a3.Z.A)) v5 h6)] 2 [5] [(9,vi v5.1)] [0] [] (q_sq ?_);refine s_va 2 [(11,vi 0)] ?_;obtain⟨o16,h17,hm⟩:=qB hm;refine zF (nd f215 116) 0 (by kernel_rfl) FUEL qEW o16 (q_hl (qAw a1 a3 a4 v5.1 0) (qLM E a1 a3 a4 FUEL v5.1 0 o16 h17)) (s_vn [] 2 ⟨[(8,vi (imax 0 o16))],[]⟩ ?_);obtain rfl:=oi hm;exact q_rt q_rm
def qWv (r:Bool):V:=vb r
def qVk (r:Bool):List (Nat×(Nat×O)):=[]
def qP2 (x5:Bool):St:=
 ⟨[(6,vb x5)],[]⟩
theorem zZ (a1:Int) (a2:Int) (a3:Int) (r:Bool) (hm:QU a1 a2 a3=some r):CtX Tryz.prog globs 110 0 0 [.one (ci a1),.one (ci a2),.one (ci a3)] [] (qWv r) (qVk r):=by
 unfold QU at hm;refine q_E f110 15 λE=>?_;refine s_vn [] 0 ⟨[(0,vi a1),(1,vi a2),(2,vi a3)],[]⟩ (q_jn (qP2) (λp=>CO p=some r) ?_ ?_)
 ·rintro x5 hm;obtain rfl:=oi hm;exact q_rt q_rm
 ·rcases bif_c hm with⟨b4,hm⟩|⟨b4,hm⟩
  ·exact q_vn [qf 3 b4] 0 ⟨[(6,vb (decide (a1<=a3)))],[]⟩ (q_J (decide (a1<=a3)) hm)
  ·exact q_vn [qf 3 b4] 0 ⟨[(6,vb false)],[]⟩ (q_J (false) hm)
def qYN (r:Bool):V:=vb r
def qYQ (r:Bool):List (Nat×(Nat×O)):=[]
def qUE (x5:Bool):St:=
 ⟨[(6,vb x5)],[]⟩
theorem FU (a1:Span) (a2:Int) (a3:Int) (r:Bool) (hm:qAz a1 a2 a3=some r):CtX Tryz.prog globs 196 0 0 [.agg (qG a1),.one (ci a2),.one (ci a3)] [] (qYN r) (qYQ r):=by
 unfold qAz at hm;refine q_E f196 17 λE=>?_;refine s_vn [] 0 ⟨[(1,vi a2),(2,vi a3),(3,vp 0 0)],[(0,bx 31 (qG a1))]⟩ (q_jn (qUE) (λp=>qCU p=some r) ?_ ?_)
 ·rintro x5 hm;obtain rfl:=oi hm;exact q_rt q_rm
 ·rcases bif_c hm with⟨b4,hm⟩|⟨b4,hm⟩
  ·exact q_vn [qf 4 b4] 1 ⟨[(6,vb (decide (a1.B<=a3)))],[]⟩ (q_J (decide (a1.B<=a3)) hm)
  ·exact q_vn [qf 4 b4] 1 ⟨[(6,vb false)],[]⟩ (q_J (false) hm)
open Go.Proofs Go.Proofs.Tryz
def qQ4 (r:Bool):V:=vb r
def qRY (r:Bool):List (Nat×(Nat×O)):=[]
def qLT (x10:Bool):St:=
 ⟨[(2,vb x10)],[]⟩
theorem qPv (a1:Box) (r:Bool) (hm:MT a1=some r):CtX Tryz.prog globs 157 0 0 [.agg (wG a1)] [] (qQ4 r) (qRY r):=by
 unfold MT at hm;refine q_E f157 16 λE=>?_;refine s_vn [] 0 ⟨[(1,vp 0 0)],[(0,bx 128 (wG a1))]⟩ (q_jn (qLT) (λp=>VH p=some r) ?_ ?_)
 ·rintro x10 hm;obtain rfl:=oi hm;exact q_rt q_rm
 ·obtain⟨v2,h3,hm⟩:=qB hm;rcases bif_c hm with⟨b4,hm⟩|⟨b4,hm⟩
  ·obtain⟨v5,h6,hm⟩:=qB hm;rcases bif_c hm with⟨b7,hm⟩|⟨b7,hm⟩
   ·obtain⟨v8,h9,hm⟩:=qB hm;exact q_vn [qk 2 [4] 1 ⟨[(4,va (qG a1.X))],[]⟩ (FU a1.X (-600) 600 v2 h3),qf 3 b4,qk 6 [6,8] 1 ⟨[(6,vb true),(8,va (qG a1.Y))],[]⟩ (FU a1.Y (-600) 600 v5 h6),qf 8 b7,qk 11 [11,13] 1 ⟨[(11,vb true),(13,va (qG a1.Z))],[]⟩ (FU a1.Z 0 20000 v8 h9)] 1 ⟨[(2,vb v8)],[]⟩ (q_J (v8) hm)
   ·exact q_vn [qk 2 [4] 1 ⟨[(4,va (qG a1.X))],[]⟩ (FU a1.X (-600) 600 v2 h3),qf 3 b4,qk 6 [6,8] 1 ⟨[(6,vb true),(8,va (qG a1.Y))],[]⟩ (FU a1.Y (-600) 600 v5 h6),qf 8 b7] 1 ⟨[(2,vb false)],[]⟩ (q_J (false) hm)
  ·exact q_vn [qk 2 [4] 1 ⟨[(4,va (qG a1.X))],[]⟩ (FU a1.X (-600) 600 v2 h3),qf 3 b4] 1 ⟨[(2,vb false)],[]⟩ (q_J (false) hm)
def qDO (r:Int):V:=vi r
def qDz (r:Int):List (Nat×(Nat×O)):=[]
def qNn (a1:List qF) (x3:Int) (x7:Bool):St:=
 ⟨[(0,vc (tl qP du a1)),(3,vi x3),(13,vb x7)],[]⟩
def qAi (a1:List qF) (x3:Int):St:=
 ⟨[(0,vc (tl qP du a1)),(3,vi x3)],[]⟩
def qFi :St:=
 ⟨[],[]⟩
theorem qMk (E:Env 0) (a1:List qF):∀(n:Nat) (x3:Int) (res:Int⊕Unit),QJ a1 n x3=some res->HL (kx E 43 0) (nd f92 116) (wN 0 (λo=>qFi) (λv st=>RetQ Tryz.prog f92 (qDO v) (qDz v) .ret st) res) n (qAi a1 x3):=by
 intro n
 induction n with
 |zero=>
  intro x3 res hm;cases hm
 |succ n ih=>
  intro x3 res hm;refine qT (q_sq ?_);refine s_va 0 [(10,vb (decide (x3<(a1.length:Int))))] (q_cq hm (λhm=>?_) (λhm=>?_))
  ·refine q_sk (q_sq ?_);refine q_bk 1 (q_bk 2 ?_);refine q_jn (qNn a1 x3) (λp=>EN a1 x3 (QJ a1 n) p=some res) ?_ ?_
   ·rintro x7 hm;refine q_cq hm (λhm=>?_) (λhm=>?_)
    ·refine s_vn [] 0 ⟨[(2,vi 10)],[]⟩ ?_;obtain rfl:=oi hm;refine q_rt (zG 10 ?_);exact q_rm
    ·obtain⟨g9,hm⟩:=qI hm;obtain⟨v10,h11,hm⟩:=qB hm;refine s_vv [qi 2 g9,qc 5 [33] 0 (qHp ((a1.getD x3.toNat du).Box) v10 h11)] 0 [13] [(28,vb v10)] (q_cq hm (λhm=>?_) (λhm=>?_))
     ·refine s_vn [] 0 ⟨[(2,vi 19)],[]⟩ ?_;obtain rfl:=oi hm;refine q_rt (zG 19 ?_);exact q_rm
     ·obtain⟨v13,h14,hm⟩:=qB hm;refine s_vv [qi 2 g9,qc 5 [40] 0 (qPv ((a1.getD x3.toNat du).Box) v13 h14)] 0 [28] [(35,vb (!v13))] (q_cq hm (λhm=>?_) (λhm=>?_))
      ·refine s_vn [] 0 ⟨[(2,vi 9)],[]⟩ ?_;obtain rfl:=oi hm;refine q_rt (zG 9 ?_);exact q_rm
      ·refine q_sk (q_vv [] 0 [3,35] [(3,vi (w64 (x3+1)))] ?_);exact q_hl (qAi a1 (w64 (x3+1))) (ih (w64 (x3+1)) _ hm)
   ·obtain⟨g5,hm⟩:=qI hm;rcases bif_c hm with⟨b6,hm⟩|⟨b6,hm⟩
    ·exact q_vv [qi 2 g5,qf 6 b6] 0 [10] [(13,vb true)] (q_J (true) hm)
    ·exact q_vv [qi 2 g5,qf 6 b6,qi 9 g5] 0 [10] [(13,vb (decide (((a1.getD x3.toNat du).Kind)>6)))] (q_J (decide (((a1.getD x3.toNat du).Kind)>6)) hm)
  ·refine q_ex 0 ?_;obtain rfl:=oi hm;exact q_l1 ()
theorem SZ (a1:List qF) (r:Int) (hm:VZ a1=some r):CtX Tryz.prog globs 92 0 0 [.one (tl qP du a1)] [] (qDO r) (qDz r):=by
 unfold VZ at hm;refine q_E f92 43 λE=>?_;refine s_vn [] 0 ⟨[(0,vc (tl qP du a1))],[]⟩ (q_sq ?_);refine s_va 0 [(6,vb (decide ((a1.length:Int)>64)))] (q_cq hm (λhm=>?_) (λhm=>?_))
 ·refine s_vn [] 0 ⟨[(2,vi 4)],[]⟩ ?_;obtain rfl:=oi hm;exact q_rt q_rm
 ·refine q_sk (q_sq ?_);refine s_vv [] 0 [6] [(3,vi 0)] ?_;obtain⟨u18,h17,hm⟩:=qB hm;refine zT (nd f92 116) 0 (by kernel_rfl) FUEL (λo=>qFi) (λv st=>RetQ Tryz.prog f92 (qDO v) (qDz v) .ret st) u18 (q_hl (qAi a1 0) (qMk E a1 FUEL 0 u18 h17)) ?_ ?_
  ·rintro v19 rfl st hr;obtain rfl:=oi hm;exact hr
  ·rintro o16 rfl;replace hm:_=some r:=hm;refine s_vn [] 0 ⟨[(2,vi 0)],[]⟩ ?_;obtain rfl:=oi hm;exact q_rt q_rm
def qUC (r:Bool):V:=vb r
def qUz (r:Bool):List (Nat×(Nat×O)):=[]
def qMQ (x3:Bool):St:=
 ⟨[(2,vb x3)],[]⟩
theorem qQT (a1:Int) (r:Bool) (hm:OM a1=some r):CtX Tryz.prog globs 142 0 0 [.one (.val (.int .u8 a1))] [] (qUC r) (qUz r):=by
 unfold OM at hm;refine q_E f142 9 λE=>?_;refine s_vn [] 0 ⟨[(0,vc (.val (.int .u8 a1)))],[]⟩ (q_jn (qMQ) (λp=>AC p=some r) ?_ ?_)
 ·rintro x3 hm;obtain rfl:=oi hm;exact q_rt q_rm
 ·rcases bif_c hm with⟨b2,hm⟩|⟨b2,hm⟩
  ·exact q_vn [qf 2 b2] 0 ⟨[(2,vb (decide (a1<=57)))],[]⟩ (q_J (decide (a1<=57)) hm)
  ·exact q_vn [qf 2 b2] 0 ⟨[(2,vb false)],[]⟩ (q_J (false) hm)
open Go.Proofs Go.Proofs.Tryz
def qCi (r:Bool):V:=vb r
def qCr (r:Bool):List (Nat×(Nat×O)):=[]
def qL3 (a1:ByteArray) (x5:Int) (x16:Bool):St:=
 ⟨[(0,vc (cs a1)),(3,vi x5),(47,vb x16)],[]⟩
def qLn (a1:ByteArray) (x5:Int) (x9:Bool):St:=
 ⟨[(0,vc (cs a1)),(3,vi x5),(4,vb x9)],[]⟩
def IT (a1:ByteArray) (x5:Int):St:=
 ⟨[(0,vc (cs a1)),(3,vi x5)],[]⟩
def qEc :St:=
 ⟨[],[]⟩
def qLy (a1:ByteArray) (x3:Bool):St:=
 ⟨[(0,vc (cs a1)),(12,vb x3)],[]⟩
theorem qJX (E:Env 0) (a1:ByteArray):∀(n:Nat) (x5:Int) (res:Bool⊕Unit),jV a1 n x5=some res->HL (kx E 48 0) (nd f79 116) (wN 0 (λo=>qEc) (λv st=>RetQ Tryz.prog f79 (qCi v) (qCr v) .ret st) res) n (IT a1 x5):=by
 intro n
 induction n with
 |zero=>
  intro x5 res hm;cases hm
 |succ n ih=>
  intro x5 res hm;refine qT (q_sq ?_);refine s_va 0 [(16,vb (decide (x5<(a1.size:Int))))] (q_cq hm (λhm=>?_) (λhm=>?_))
  ·refine q_sk (q_sq ?_);refine q_bk 1 (q_jn (qLn a1 x5) (λp=>MF a1 x5 (jV a1 n) p=some res) ?_ ?_)
   ·rintro x9 hm;refine q_jn (qL3 a1 x5) (λp=>XY x5 (jV a1 n) p=some res) ?_ ?_
    ·rintro x16 hm;refine q_cq hm (λhm=>?_) (λhm=>?_)
     ·refine s_vn [] 0 ⟨[(2,vb false)],[]⟩ ?_;obtain rfl:=oi hm;refine q_rt (zG false ?_);exact q_rm
     ·refine q_sk (q_vv [] 0 [3,47] [(3,vi (w64 (x5+1)))] ?_);exact q_hl (IT a1 (w64 (x5+1))) (ih (w64 (x5+1)) _ hm)
    ·rcases bif_c hm with⟨b10,hm⟩|⟨b10,hm⟩
     ·rcases bif_c hm with⟨b11,hm⟩|⟨b11,hm⟩
      ·exact q_vv [qf 2 b10,qf 5 b11] 0 [4] [(47,vb true)] (q_J (true) hm)
      ·obtain⟨g12,hm⟩:=qI hm;rcases bif_c hm with⟨b13,hm⟩|⟨b13,hm⟩
       ·obtain⟨v14,h15,hm⟩:=qB hm;exact q_vv [qf 2 b10,qf 5 b11,qi 8 g12,qf 10 b13,qi 13 g12,qk 14 [39,42] 0 ⟨[(39,vb true),(42,vc (.val (.int .u8 (strAt a1 x5.toNat))))],[]⟩ (qQT (strAt a1 x5.toNat) v14 h15)] 0 [4] [(47,vb (!v14))] (q_J (!v14) hm)
       ·exact q_vv [qf 2 b10,qf 5 b11,qi 8 g12,qf 10 b13] 0 [4] [(47,vb false)] (q_J (false) hm)
     ·exact q_vv [qf 2 b10] 0 [4] [(47,vb false)] (q_J (false) hm)
   ·obtain⟨g7,hm⟩:=qI hm;rcases bif_c hm with⟨b8,hm⟩|⟨b8,hm⟩
    ·exact q_vv [qi 2 g7,qf 4 b8,qi 7 g7] 0 [16] [(4,vb (decide ((strAt a1 x5.toNat)<=122)))] (q_J (decide ((strAt a1 x5.toNat)<=122)) hm)
    ·exact q_vv [qi 2 g7,qf 4 b8] 0 [16] [(4,vb false)] (q_J (false) hm)
  ·refine q_ex 0 ?_;obtain rfl:=oi hm;exact q_l1 ()
theorem qQz (a1:ByteArray) (r:Bool) (hm:MR a1=some r):CtX Tryz.prog globs 79 0 0 [.one (cs a1)] [] (qCi r) (qCr r):=by
 unfold MR at hm;refine q_E f79 48 λE=>?_;refine s_vn [] 0 ⟨[(0,vc (cs a1))],[]⟩ (q_sq ?_);refine q_jn (qLy a1) (λp=>MK a1 p=some r) ?_ ?_
 ·rintro x3 hm;refine q_cq hm (λhm=>?_) (λhm=>?_)
  ·refine s_vn [] 0 ⟨[(2,vb false)],[]⟩ ?_;obtain rfl:=oi hm;exact q_rt q_rm
  ·refine q_sk (q_sq ?_);refine s_vv [] 0 [12] [(3,vi 0)] ?_;obtain⟨u20,h19,hm⟩:=qB hm;refine zT (nd f79 116) 0 (by kernel_rfl) FUEL (λo=>qEc) (λv st=>RetQ Tryz.prog f79 (qCi v) (qCr v) .ret st) u20 (q_hl (IT a1 0) (qJX E a1 FUEL 0 u20 h19)) ?_ ?_
   ·rintro v21 rfl st hr;obtain rfl:=oi hm;exact hr
   ·rintro o18 rfl;replace hm:_=some r:=hm;refine s_vn [] 0 ⟨[(2,vb true)],[]⟩ ?_;obtain rfl:=oi hm;exact q_rt q_rm
 ·rcases bif_c hm with⟨b2,hm⟩|⟨b2,hm⟩
  ·exact q_vv [qf 3 b2] 0 [] [(12,vb true)] (q_J (true) hm)
  ·exact q_vv [qf 3 b2] 0 [] [(12,vb (decide ((a1.size:Int)>16)))] (q_J (decide ((a1.size:Int)>16)) hm)
def JA (r:Int):V:=vi r
def JK (r:Int):List (Nat×(Nat×O)):=[]
def qFL (a1:Product) (x5:Int) (x14:Bool):St:=
 ⟨[(1,vp 0 0),(3,vi x5),(56,vb x14)],[(0,bx 54 (qH a1))]⟩
def qFM (a1:Product) (x5:Int) (x9:Bool):St:=
 ⟨[(1,vp 0 0),(3,vi x5),(40,vb x9)],[(0,bx 54 (qH a1))]⟩
def TL (a1:Product) (x5:Int):St:=
 ⟨[(1,vp 0 0),(3,vi x5)],[(0,bx 54 (qH a1))]⟩
def AY (a1:Product):St:=
 ⟨[(1,vp 0 0)],[(0,bx 54 (qH a1))]⟩
def qFK (a1:Product) (x20:Int) (x24:Bool):St:=
 ⟨[(1,vp 0 0),(4,vi x20),(77,vb x24)],[(0,bx 54 (qH a1))]⟩
def TM (a1:Product) (x20:Int):St:=
 ⟨[(1,vp 0 0),(4,vi x20)],[(0,bx 54 (qH a1))]⟩
def AW :St:=
 ⟨[],[]⟩
theorem qFG (E:Env 0) (a1:Product):∀(n:Nat) (x5:Int) (res:Int⊕Unit),wP a1 n x5=some res->HL (kx E 78 0) (nd f80 500) (wN 0 (λo=>AY a1) (λv st=>RetQ Tryz.prog f80 (JA v) (JK v) .ret st) res) n (TL a1 x5):=by
 intro n
 induction n with
 |zero=>
  intro x5 res hm;cases hm
 |succ n ih=>
  intro x5 res hm;refine qT (q_sq ?_);refine s_va 1 [(24,vb (decide (x5<(a1.Lengths.length:Int))))] (q_cq hm (λhm=>?_) (λhm=>?_))
  ·refine q_sk (q_sq ?_);refine q_bk 1 (q_sq ?_);refine q_jn (qFM a1 x5) (λp=>XW a1 x5 (wP a1 n) p=some res) ?_ ?_
   ·rintro x9 hm;refine q_cq hm (λhm=>?_) (λhm=>?_)
    ·refine s_vn [] 1 ⟨[(2,vi 9)],[]⟩ ?_;obtain rfl:=oi hm;refine q_rt (zG 9 ?_);exact q_rm
    ·refine q_sk (q_jn (qFL a1 x5) (λp=>XT x5 (wP a1 n) p=some res) ?_ ?_)
     ·rintro x14 hm;refine q_cq hm (λhm=>?_) (λhm=>?_)
      ·refine s_vn [] 1 ⟨[(2,vi 11)],[]⟩ ?_;obtain rfl:=oi hm;refine q_rt (zG 11 ?_);exact q_rm
      ·refine q_sk (q_vv [] 1 [3,56] [(3,vi (w64 (x5+1)))] ?_);exact q_hl (TL a1 (w64 (x5+1))) (ih (w64 (x5+1)) _ hm)
     ·rcases bif_c hm with⟨b11,hm⟩|⟨b11,hm⟩
      ·obtain⟨g12,hm⟩:=qI hm;obtain⟨g13,hm⟩:=qI hm;exact q_du [qf 2 b11,qi 6 g12,qi 12 g13] [0,1,3,7,15,7,63,127,7,263,7,1031,3847,7943,16383,32767] 1 [40] [(56,vb (decide ((a1.Lengths.getD x5.toNat du)<=(a1.Lengths.getD (w64 (x5-1)).toNat du))))] [] [] (q_J (decide ((a1.Lengths.getD x5.toNat du)<=(a1.Lengths.getD (w64 (x5-1)).toNat du))) hm)
      ·exact q_du [qf 2 b11] [0,1,3,7,15,7,63,127,7,263,7,1031,3847,7943,16383,32767] 1 [40] [(56,vb false)] [] [] (q_J (false) hm)
   ·obtain⟨g7,hm⟩:=qI hm;rcases bif_c hm with⟨b8,hm⟩|⟨b8,hm⟩
    ·exact q_vv [qi 3 g7,qf 6 b8] 1 [24] [(40,vb true)] (q_J (true) hm)
    ·exact q_vv [qi 3 g7,qf 6 b8,qi 10 g7] 1 [24] [(40,vb (decide ((a1.Lengths.getD x5.toNat du)>20000)))] (q_J (decide ((a1.Lengths.getD x5.toNat du)>20000)) hm)
  ·refine q_ex 0 ?_;obtain rfl:=oi hm;exact q_l1 ()
theorem qFF (E:Env 0) (a1:Product):∀(n:Nat) (x20:Int) (res:Int⊕Unit),wV a1 n x20=some res->HL (kx E 78 0) (nd f80 1012) (wN 2 (λo=>AW) (λv st=>RetQ Tryz.prog f80 (JA v) (JK v) .ret st) res) n (TM a1 x20):=by
 intro n
 induction n with
 |zero=>
  intro x20 res hm;cases hm
 |succ n ih=>
  intro x20 res hm;refine qT (q_sq ?_);refine s_va 1 [(61,vb (decide (x20<(a1.Prices.length:Int))))] (q_cq hm (λhm=>?_) (λhm=>?_))
  ·refine q_sk (q_sq ?_);refine q_bk 3 (q_jn (qFK a1 x20) (λp=>KE x20 (wV a1 n) p=some res) ?_ ?_)
   ·rintro x24 hm;refine q_cq hm (λhm=>?_) (λhm=>?_)
    ·refine s_vn [] 1 ⟨[(2,vi 9)],[]⟩ ?_;obtain rfl:=oi hm;refine q_rt (zG 9 ?_);exact q_rm
    ·refine q_sk (q_vv [] 1 [4,77] [(4,vi (w64 (x20+1)))] ?_);exact q_hl (TM a1 (w64 (x20+1))) (ih (w64 (x20+1)) _ hm)
   ·obtain⟨g22,hm⟩:=qI hm;rcases bif_c hm with⟨b23,hm⟩|⟨b23,hm⟩
    ·exact q_vv [qi 3 g22,qf 6 b23] 1 [61] [(77,vb true)] (q_J (true) hm)
    ·exact q_vv [qi 3 g22,qf 6 b23,qi 10 g22] 1 [61] [(77,vb (decide ((a1.Prices.getD x20.toNat du)>1000000)))] (q_J (decide ((a1.Prices.getD x20.toNat du)>1000000)) hm)
  ·refine q_ex 2 ?_;obtain rfl:=oi hm;exact q_l1 ()
theorem qHN (a1:Product) (r:Int) (hm:XM a1=some r):CtX Tryz.prog globs 80 0 0 [.agg (qH a1)] [] (JA r) (JK r):=by
 unfold XM at hm;refine q_E f80 78 λE=>?_;refine s_vn [] 0 ⟨[(1,vp 0 0)],[(0,bx 54 (qH a1))]⟩ (q_sq ?_);refine s_va 1 [(8,vb ((a1.Lengths.length:Int)==0))] (q_cq hm (λhm=>?_) (λhm=>?_))
 ·refine s_vn [] 1 ⟨[(2,vi 3)],[]⟩ ?_;obtain rfl:=oi hm;exact q_rt q_rm
 ·refine q_sk (q_sq ?_);refine s_vv [] 1 [8] [(12,vb (decide ((a1.Lengths.length:Int)>8)))] (q_cq hm (λhm=>?_) (λhm=>?_))
  ·refine s_vn [] 1 ⟨[(2,vi 4)],[]⟩ ?_;obtain rfl:=oi hm;exact q_rt q_rm
  ·refine q_sk (q_sq ?_);refine s_vv [] 1 [12] [(19,vb ((a1.Prices.length:Int) !=(a1.Lengths.length:Int)))] (q_cq hm (λhm=>?_) (λhm=>?_))
   ·refine s_vn [] 1 ⟨[(2,vi 19)],[]⟩ ?_;obtain rfl:=oi hm;exact q_rt q_rm
   ·refine q_sk (q_sq ?_);refine s_vv [] 1 [19] [(3,vi 0)] ?_;obtain⟨u18,h17,hm⟩:=qB hm;refine zT (nd f80 500) 0 (by kernel_rfl) FUEL (λo=>AY a1) (λv st=>RetQ Tryz.prog f80 (JA v) (JK v) .ret st) u18 (q_hl (TL a1 0) (qFG E a1 FUEL 0 u18 h17)) ?_ ?_
    ·rintro v19 rfl st hr;obtain rfl:=oi hm;exact hr
    ·rintro o16 rfl;replace hm:_=some r:=hm;refine q_sq (s_va 1 [(4,vi 0)] ?_);obtain⟨u28,h27,hm⟩:=qB hm;refine zT (nd f80 1012) 2 (by kernel_rfl) FUEL (λo=>AW) (λv st=>RetQ Tryz.prog f80 (JA v) (JK v) .ret st) u28 (q_hl (TM a1 0) (qFF E a1 FUEL 0 u28 h27)) ?_ ?_
     ·rintro v29 rfl st hr;obtain rfl:=oi hm;exact hr
     ·rintro o26 rfl;replace hm:_=some r:=hm;refine s_vn [] 1 ⟨[(2,vi 0)],[]⟩ ?_;obtain rfl:=oi hm;exact q_rt q_rm
def TV (r:Int):V:=vi r
def JY (r:Int):List (Nat×(Nat×O)):=[]
theorem qTJ (r:Int):jS (JY r):=by
 intro i k o h;unfold JY at h;cases h
def UJ (a1:List Product) (x3:Int):St:=
 ⟨[(0,vc (tl qH du a1)),(3,vi x3),(4,vp 0 0)],[(0,bx 54 (qH (a1.getD x3.toNat du)))]⟩
def qAD (a1:List Product) (x3:Int) (x9:Int):St:=
 (UJ a1 x3).up [] [(5,vi x9)] [] []
def qE7 (a1:List Product) (x3:Int):St:=
 (UJ a1 x3).up [] [] [] []
def qOa (a1:List Product) (x3:Int) (x24:Bool):St:=
 (UJ a1 x3).up [] [(78,vb x24)] [] []
def CY (a1:List Product) (x3:Int):St:=
 (UJ a1 x3).up [4] [] [0] []
def qFt :St:=
 ⟨[],[]⟩
theorem qLF (E:Env 0) (a1:List Product) (x3:Int):∀(n:Nat) (x9:Int) (res:Int⊕Unit),YX a1 x3 n x9=some res->HL (kx E 91 0) (nd f34 59700) (wN 2 (λo=>qE7 a1 x3) (λv st=>RetQ Tryz.prog f34 (TV v) (JY v) .ret st) res) n (qAD a1 x3 x9):=by
 intro n
 induction n with
 |zero=>
  intro x9 res hm;cases hm
 |succ n ih=>
  intro x9 res hm;refine qT (q_sq ?_);refine s_va 1 [(28,vb (decide (x9<x3)))] (q_cq hm (λhm=>?_) (λhm=>?_))
  ·refine q_sk (q_sq ?_);refine q_bk 3 ?_;obtain⟨g11,hm⟩:=qI hm;refine s_du [qi 2 g11] [0,0,3,7,15,0,32,127] 1 [28] [(38,vb (strEq ((a1.getD x9.toNat du).Name) ((a1.getD x3.toNat du).Name)))] [] [] (q_cq hm (λhm=>?_) (λhm=>?_))
   ·refine s_vn [] 1 ⟨[(2,vi 7)],[]⟩ ?_;obtain rfl:=oi hm;refine q_rt (zG 7 ?_);exact q_rm
   ·refine q_sk (q_vv [] 1 [5,38] [(5,vi (w64 (x9+1)))] ?_);exact q_hl (qAD a1 x3 (w64 (x9+1))) (ih (w64 (x9+1)) _ hm)
  ·refine q_ex 2 ?_;obtain rfl:=oi hm;exact q_l1 ()
theorem qLV (E:Env 0) (a1:List Product):∀(n:Nat) (x3:Int) (res:Int⊕Unit),wR a1 n x3=some res->HL (kx E 91 0) (nd f34 116) (wN 0 (λo=>qFt) (λv st=>RetQ Tryz.prog f34 (TV v) (JY v) .ret st) res) n (CY a1 x3):=by
 intro n
 induction n with
 |zero=>
  intro x3 res hm;cases hm
 |succ n ih=>
  intro x3 res hm;refine qT (q_sq ?_);refine s_va 0 [(15,vb (decide (x3<(a1.length:Int))))] (q_cq hm (λhm=>?_) (λhm=>?_))
  ·refine q_sk (q_sq ?_);refine q_bk 1 ?_;obtain⟨g5,hm⟩:=qI hm;refine s_vu [qi 2 g5] 0 [15] [(4,vp 0 0)] [] [(0,bx 54 (qH (a1.getD x3.toNat du)))] (q_sq ?_);obtain⟨v6,h7,hm⟩:=qB hm;refine s_vv [qc 2 [23] 1 (qQz ((a1.getD x3.toNat du).Name) v6 h7)] 1 [] [(25,vb (!v6))] (q_cq hm (λhm=>?_) (λhm=>?_))
   ·refine s_vn [] 1 ⟨[(2,vi 6)],[]⟩ ?_;obtain rfl:=oi hm;refine q_rt (zG 6 ?_);exact q_rm
   ·refine q_sk (q_sq ?_);refine s_vv [] 1 [25] [(5,vi 0)] ?_;obtain⟨u15,h14,hm⟩:=qB hm;refine zT (nd f34 59700) 2 (by kernel_rfl) FUEL (λo=>qE7 a1 x3) (λv st=>RetQ Tryz.prog f34 (TV v) (JY v) .ret st) u15 (q_hl (qAD a1 x3 0) (qLF E a1 x3 FUEL 0 u15 h14)) ?_ ?_
    ·rintro v16 rfl st hr;obtain rfl:=oi hm;exact zG v16 hr
    ·rintro o13 rfl;replace hm:_=some res:=hm;refine q_sq (q_jn (qOa a1 x3) (λp=>yN a1 x3 (wR a1 n) p=some res) ?_ ?_)
     ·rintro x24 hm;refine q_cq hm (λhm=>?_) (λhm=>?_)
      ·refine s_vn [] 1 ⟨[(2,vi 9)],[]⟩ ?_;obtain rfl:=oi hm;refine q_rt (zG 9 ?_);exact q_rm
      ·refine q_sk (q_sq ?_);obtain⟨v26,h27,hm⟩:=qB hm;refine s_vv [qc 1 [80] 1 (AH (a1.getD x3.toNat du) v26 h27)] 1 [78] [(7,vi v26.2)] (s_vv [] 1 [7] [(85,vb (decide (v26.2>600)))] ?_);refine q_cq hm (λhm=>?_) (λhm=>?_)
       ·refine s_vn [] 1 ⟨[(2,vi 9)],[]⟩ ?_;obtain rfl:=oi hm;refine q_rt (zG 9 ?_);exact q_rm
       ·refine q_sk ?_;obtain⟨v29,h30,hm⟩:=qB hm;refine s_vu [qc 1 [86] 1 (qHN (a1.getD x3.toNat du) v29 h30)] 1 [4,85] [(8,vi v29)] [0] [] (s_va 1 [(89,vb (v29 !=0))] ?_);refine q_cq hm (λhm=>?_) (λhm=>?_)
        ·refine s_vn [] 1 ⟨[(2,vi v29)],[]⟩ ?_;obtain rfl:=oi hm;refine q_rt (zG v29 ?_);exact q_rm
        ·refine q_sk (q_vv [] 1 [3,8,89] [(3,vi (w64 (x3+1)))] ?_);exact q_hl (CY a1 (w64 (x3+1))) (ih (w64 (x3+1)) _ hm)
     ·rcases bif_c hm with⟨b17,hm⟩|⟨b17,hm⟩
      ·exact q_vv [qf 3 b17] 1 [] [(78,vb true)] (q_J (true) hm)
      ·rcases bif_c hm with⟨b18,hm⟩|⟨b18,hm⟩
       ·exact q_vv [qf 3 b17,qf 8 b18] 1 [] [(78,vb true)] (q_J (true) hm)
       ·rcases bif_c hm with⟨b19,hm⟩|⟨b19,hm⟩
        ·exact q_vv [qf 3 b17,qf 8 b18,qf 15 b19] 1 [] [(78,vb true)] (q_J (true) hm)
        ·rcases bif_c hm with⟨b20,hm⟩|⟨b20,hm⟩
         ·exact q_vv [qf 3 b17,qf 8 b18,qf 15 b19,qf 20 b20] 1 [] [(78,vb true)] (q_J (true) hm)
         ·rcases bif_c hm with⟨b21,hm⟩|⟨b21,hm⟩
          ·exact q_vv [qf 3 b17,qf 8 b18,qf 15 b19,qf 20 b20,qf 25 b21] 1 [] [(78,vb true)] (q_J (true) hm)
          ·rcases bif_c hm with⟨b22,hm⟩|⟨b22,hm⟩
           ·exact q_vv [qf 3 b17,qf 8 b18,qf 15 b19,qf 20 b20,qf 25 b21,qf 30 b22] 1 [] [(78,vb true)] (q_J (true) hm)
           ·rcases bif_c hm with⟨b23,hm⟩|⟨b23,hm⟩
            ·exact q_vv [qf 3 b17,qf 8 b18,qf 15 b19,qf 20 b20,qf 25 b21,qf 30 b22,qf 35 b23] 1 [] [(78,vb true)] (q_J (true) hm)
            ·exact q_vv [qf 3 b17,qf 8 b18,qf 15 b19,qf 20 b20,qf 25 b21,qf 30 b22,qf 35 b23] 1 [] [(78,vb (decide (((a1.getD x3.toNat du).Wane)>1000)))] (q_J (decide (((a1.getD x3.toNat du).Wane)>1000)) hm)
  ·refine q_ex 0 ?_;obtain rfl:=oi hm;exact q_l1 ()
theorem GZ (a1:List Product) (r:Int) (hm:XA a1=some r):CtX Tryz.prog globs 34 0 0 [.one (tl qH du a1)] [] (TV r) (JY r):=by
 unfold XA at hm;refine q_E f34 91 λE=>?_;refine s_vn [] 0 ⟨[(0,vc (tl qH du a1))],[]⟩ (q_sq ?_);refine s_va 0 [(11,vb (decide ((a1.length:Int)>16)))] (q_cq hm (λhm=>?_) (λhm=>?_))
 ·refine s_vn [] 0 ⟨[(2,vi 4)],[]⟩ ?_;obtain rfl:=oi hm;exact q_rt q_rm
 ·refine q_sk (q_sq ?_);refine s_vv [] 0 [11] [(3,vi 0)] ?_;obtain⟨u34,h33,hm⟩:=qB hm;refine zT (nd f34 116) 0 (by kernel_rfl) FUEL (λo=>qFt) (λv st=>RetQ Tryz.prog f34 (TV v) (JY v) .ret st) u34 (q_hl (CY a1 0) (qLV E a1 FUEL 0 u34 h33)) ?_ ?_
  ·rintro v35 rfl st hr;obtain rfl:=oi hm;exact hr
  ·rintro o32 rfl;replace hm:_=some r:=hm;refine s_vn [] 0 ⟨[(2,vi 0)],[]⟩ ?_;obtain rfl:=oi hm;exact q_rt q_rm
open Go.Proofs Go.Proofs.Tryz
def qTy (r:Bool):V:=vb r
def qT4 (r:Bool):List (Nat×(Nat×O)):=[]
def qM7 (x12:Bool):St:=
 ⟨[(6,vb x12)],[]⟩
theorem qRi (a1:List qC) (a2:List qF) (a3:Product) (r:Bool) (hm:qCS a1 a2 a3=some r):CtX Tryz.prog globs 213 0 0 [.one (tl qL du a1),.one (tl qP du a2),.agg (qH a3)] [] (qTy r) (qT4 r):=by
 unfold qCS at hm;refine q_E f213 21 λE=>?_;refine s_vn [] 0 ⟨[(0,vc (tl qL du a1)),(1,vc (tl qP du a2)),(5,vp 0 0)],[(0,bx 54 (qH a3))]⟩ (q_jn (qM7) (λp=>DY p=some r) ?_ ?_)
 ·rintro x12 hm;obtain rfl:=oi hm;exact q_rt q_rm
 ·obtain⟨v4,h5,hm⟩:=qB hm;rcases bif_c hm with⟨b6,hm⟩|⟨b6,hm⟩
  ·obtain⟨v7,h8,hm⟩:=qB hm;rcases bif_c hm with⟨b9,hm⟩|⟨b9,hm⟩
   ·obtain⟨v10,h11,hm⟩:=qB hm
    exact q_vn [qc 1 [7] 1 (jG a1 v4 h5),qf 3 b6,qk 5 [10,11] 1 ⟨[(10,vb true),(11,vc (tl qP du a2))],[]⟩ (SZ a2 v7 h8),qf 8 b9,qd 10 (drw 1 0 (rf qH [a3])) (litP qH du 7 (λ_=>rfl) ([a3]:List Product) 1 rfl),qd 11 (dex (cen [] [] 2 0 (TV v10) (JY v10) [15,17] [1])) (wU (K:=(kx E 21 0)) (xs':=[.one (.lst 1 (rf qH [a3]))]) (b:=false) ⟨[(15,vb true),(17,vo 1 0 7 1)],[(1,ro 0 54 7 1 (rf qH [a3]))]⟩ (opAt (rg f213 6) 11) [] [] 2 (o1 (ki 1)) (by simp only[tl,rf,show([a3]:List Product).length=1 from rfl]) (GZ ([a3]:List Product) v10 h11) (.inr ⟨(by kernel_rfl),qTJ v10⟩) (by kernel_rfl))] 1 ⟨[(6,vb (v10==0))],[]⟩ (q_J (v10==0) hm)
   ·exact q_vn [qc 1 [7] 1 (jG a1 v4 h5),qf 3 b6,qk 5 [10,11] 1 ⟨[(10,vb true),(11,vc (tl qP du a2))],[]⟩ (SZ a2 v7 h8),qf 8 b9] 1 ⟨[(6,vb false)],[]⟩ (q_J (false) hm)
  ·exact q_vn [qc 1 [7] 1 (jG a1 v4 h5),qf 3 b6] 1 ⟨[(6,vb false)],[]⟩ (q_J (false) hm)
end Saw
end Go.SL

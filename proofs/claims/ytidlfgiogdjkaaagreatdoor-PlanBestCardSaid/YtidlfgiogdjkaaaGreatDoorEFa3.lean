import Derived.Test.YtidlfgiogdjkaaaGreatDoorEBase
import Derived.Test.YtidlfgiogdjkaaaGreatDoorEFa2
import Derived.Test.YtidlfgiogdjkaaaGreatDoorEFa1
set_option linter.unusedVariables false
set_option linter.unusedSimpArgs false
namespace Go.SL
namespace Saw
open Go.Proofs
set_option maxHeartbeats 4000000
set_option maxRecDepth 100000
def qIP (r:Int):V:=vi r
def qH8 (r:Int):List (Nat×(Nat×O)):=[]
def BG (a2:Rect) (v3:qK) (x5:Int) (x6:Int):St:=
 ⟨[(2,vp 0 0),(3,vp 1 0),(5,vi x5),(12,vc (tl e_Span default v3.Rows)),(13,vi ((v3.Rows.length:Nat):Int)),(14,vi x6)],[(0,bx 70 (zY v3)),(1,bx 33 (qE a2))]⟩
def IH (x19:Int):St:=
 ⟨[(5,vi x19)],[]⟩
theorem qEI (E:Env 0) (a2:Rect) (v3:qK):∀(n:Nat) (x5:Int) (x6:Int) (res:Int),WB a2 v3 n x5 x6=some res->HL (kx E 44 0) (nd Tryz.f169 244) (zU 0 (λo=>IH o) res) n (BG a2 v3 x5 x6):=by
 intro n
 induction n with
 |zero=>
  intro x5 x6 res hm;cases hm
 |succ n ih=>
  intro x5 x6 res hm;refine qM ?_;refine s_va 2 [(15,vb (decide (x6<((v3.Rows.length:Nat):Int))))] ?_;refine q_sq ?_;refine q_cm hm (λb7 hm=>?_) (λb7 hm=>?_)
  ·refine q_sk ?_;refine q_sq ?_;refine q_bk 1 ?_;obtain⟨g8,hm⟩:=qG hm;refine s_vu [qi 1 g8] 2 [15] [(6,vi x6),(7,vp 2 0)] [] [(2,bx 31 [ci ((v3.Rows.getD x6.toNat default).A),ci ((v3.Rows.getD x6.toNat default).B)])] ?_;obtain⟨v9,h10,hm⟩:=qA hm;refine s_vu [qc 9 [22,27] 3 (qAo (w64 (v3.Low+x6)) (w64 ((w64 (v3.Low+x6))+1)) v9 h10)] 3 [6] [(8,vp 3 0)] [] [(3,bx 31 (e_Span v9))] ?_;obtain⟨v11,h12,hm⟩:=qA hm;obtain⟨v13,h14,hm⟩:=qA hm;obtain⟨v15,h16,hm⟩:=qA hm;obtain⟨v17,h18,hm⟩:=qA hm
   refine q_du [qc 4 [30,32] 4 (TZ (v3.Rows.getD x6.toNat default) a2.X v11 h12),qc 5 [33] 4 (BA v11 v13 h14),qc 9 [35,37] 4 (TZ v9 a2.Y v15 h16),qc 10 [38] 4 (BA v15 v17 h18)] [0,0,0,4,14,30,0,0,128,510,1022,2046,4095,8191] 4 [5,7,8] [(5,vi (w64 (x5+(w64 (v13*v17)))))] [2,3] [] ?_;refine q_vv [] 4 [14] [(14,vi (w64 (x6+1)))] ?_;exact q_hl (BG a2 v3 (w64 (x5+(w64 (v13*v17)))) (w64 (x6+1))) (ih (w64 (x5+(w64 (v13*v17)))) (w64 (x6+1)) _ hm)
  ·refine q_ex 0 ?_;obtain rfl:=oi hm;exact wH (by kernel_rfl) (by kernel_rfl)
theorem qAU (a1:qK) (a2:Rect) (r:Int) (hm:KC a1 a2=some r):CtX Tryz.prog globs 169 0 0 [.agg (zY a1),.agg (qE a2)] [] (qIP r) (qH8 r):=by
 unfold KC at hm;refine q_E Tryz.f169 44 λE=>?_;refine s_vn [] 0 ⟨[(2,vp 0 0),(3,vp 1 0)],[(0,bx 70 (zY a1)),(1,bx 33 (qE a2))]⟩ ?_;obtain⟨v3,h4,hm⟩:=qA hm;refine s_vu [qc 1 [9] 2 (SD a1 v3 h4)] 2 [] [] [0] [(0,bx 70 (zY v3))] ?_;refine s_va 2 [(5,vi 0)] ?_;refine q_sq ?_;refine s_va 2 [(12,vc (tl e_Span default v3.Rows)),(13,vi ((v3.Rows.length:Nat):Int)),(14,vi 0)] ?_;obtain⟨o20,h21,hm⟩:=qA hm;refine zN (nd Tryz.f169 244) 0 (by kernel_rfl) FUEL (λo=>IH o) o20 (q_hl (BG a2 v3 0 0) (qEI E a2 v3 FUEL 0 0 o20 h21)) ?_;refine s_vn [] 2 ⟨[(4,vi o20)],[]⟩ ?_;obtain rfl:=oi hm;refine q_rt ?_
 exact q_rm
def qNx (r:(List Worth_zone)):V:=vo 0 0 3 r.length
def qNz (r:(List Worth_zone)):List (Nat×(Nat×O)):=[(0,ro 0 249 3 r.length (rf qR r))]
def SA (a1:List qB) (a2:Rect) (l3:List Worth_zone) (l3n:Nat) (x4:Int) (x5:Int):St:=
 ⟨[(3,vp 0 0),(5,vi (w64 ((w64 (a2.X.B-a2.X.A))*(w64 (a2.Y.B-a2.Y.A))))),(6,vo 1 0 3 l3n),(7,vi x4),(27,vc (tl qI default a1)),(28,vi ((a1.length:Nat):Int)),(29,vi x5)],[(0,bx 33 (qE a2)),(1,ro 0 249 3 l3n (rf qR l3))]⟩
def qBL (l12:List Worth_zone):St:=
 ⟨[(6,vo 1 0 3 l12.length)],[(1,ro 0 249 3 l12.length (rf qR l12))]⟩
theorem qHq (E:Env 0) (a1:List qB) (a2:Rect):∀(n:Nat) (l3:List Worth_zone) (l3n:Nat) (x4:Int) (x5:Int) (res:(List Worth_zone)),l3.length=l3n->XV a1 a2 n l3 x4 x5=some res->HL (kx E 61 0) (nd Tryz.f173 500) (zU 0 (λo=>qBL o) res) n (SA a1 a2 l3 l3n x4 x5):=by
 intro n
 induction n with
 |zero=>
  intro l3 l3n x4 x5 res hl0 hm;cases hm
 |succ n ih=>
  intro l3 l3n x4 x5 res hl0 hm;subst hl0;refine qM ?_;refine s_va 2 [(30,vb (decide (x5<((a1.length:Nat):Int))))] ?_;refine q_sq ?_;refine q_cm hm (λb6 hm=>?_) (λb6 hm=>?_)
  ·refine q_sk ?_;refine q_sq ?_;refine q_bk 1 ?_;obtain⟨g7,hm⟩:=qG hm;refine s_vu [qi 0 g7] 2 [30] [(9,vp 2 0)] [] [(2,bx 72 [ci ((a1.getD x5.toNat default).Len),ci (((a1.getD x5.toNat default).Sec).Low),tl e_Span default (((a1.getD x5.toNat default).Sec).Rows)])] ?_;obtain⟨v8,h9,hm⟩:=qA hm;refine s_vv [qc 4 [35,36] 3 (qAU ((a1.getD x5.toNat default).Sec) a2 v8 h9)] 3 [] [(10,vi (w64 ((w64 ((w64 (a2.X.B-a2.X.A))*(w64 (a2.Y.B-a2.Y.A))))-v8)))] ?_;refine s_vu [] 3 [7,9] [(11,vp 3 0)] [2] [(3,bx 31 [ci x4,ci (w64 (x4+((a1.getD x5.toNat default).Len)))])] ?_;obtain⟨g10,hm⟩:=qG hm
   obtain⟨g11,hm⟩:=qG hm
   refine s_du [qd 8 dN (CN g10),qd 10 (drw 4 0 (rf qR ([(Worth_zone.mk (Span.mk x4 (w64 (x4+((a1.getD x5.toNat default).Len)))) (w64 (Int.tdiv (w64 ((w64 ((w64 (1000*(w64 ((w64 ((w64 (a2.X.B-a2.X.A))*(w64 (a2.Y.B-a2.Y.A))))-v8))))+(w64 ((w64 (a2.X.B-a2.X.A))*(w64 (a2.Y.B-a2.Y.A))))))-1)) (w64 ((w64 (a2.X.B-a2.X.A))*(w64 (a2.Y.B-a2.Y.A)))))))]:List Worth_zone))) (litP qR default 3 (λ_=>rfl) ([(Worth_zone.mk (Span.mk x4 (w64 (x4+((a1.getD x5.toNat default).Len)))) (w64 (Int.tdiv (w64 ((w64 ((w64 (1000*(w64 ((w64 ((w64 (a2.X.B-a2.X.A))*(w64 (a2.Y.B-a2.Y.A))))-v8))))+(w64 ((w64 (a2.X.B-a2.X.A))*(w64 (a2.Y.B-a2.Y.A))))))-1)) (w64 ((w64 (a2.X.B-a2.X.A))*(w64 (a2.Y.B-a2.Y.A)))))))]:List Worth_zone) 1 rfl),qd 11 (drw 1 1 (rf qR (l3++([(Worth_zone.mk (Span.mk x4 (w64 (x4+((a1.getD x5.toNat default).Len)))) (w64 (Int.tdiv (w64 ((w64 ((w64 (1000*(w64 ((w64 ((w64 (a2.X.B-a2.X.A))*(w64 (a2.Y.B-a2.Y.A))))-v8))))+(w64 ((w64 (a2.X.B-a2.X.A))*(w64 (a2.Y.B-a2.Y.A))))))-1)) (w64 ((w64 (a2.X.B-a2.X.A))*(w64 (a2.Y.B-a2.Y.A)))))))]:List Worth_zone)))) (apP qR default l3 ([(Worth_zone.mk (Span.mk x4 (w64 (x4+((a1.getD x5.toNat default).Len)))) (w64 (Int.tdiv (w64 ((w64 ((w64 (1000*(w64 ((w64 ((w64 (a2.X.B-a2.X.A))*(w64 (a2.Y.B-a2.Y.A))))-v8))))+(w64 ((w64 (a2.X.B-a2.X.A))*(w64 (a2.Y.B-a2.Y.A))))))-1)) (w64 ((w64 (a2.X.B-a2.X.A))*(w64 (a2.Y.B-a2.Y.A)))))))]:List Worth_zone) l3.length 1 3 24 (1<=1) (Nat.le_refl _) rfl rfl (λ_=>rfl) (zI g11))] [0,0,0,4,0,28,60,0,252,510,1022,2047,4095] 4 [6,10] [(6,vo 1 1 3 (l3.length+1))] [1] [(1,ro 1 249 3 (l3.length+1) (rf qR (l3++([(Worth_zone.mk (Span.mk x4 (w64 (x4+((a1.getD x5.toNat default).Len)))) (w64 (Int.tdiv (w64 ((w64 ((w64 (1000*(w64 ((w64 ((w64 (a2.X.B-a2.X.A))*(w64 (a2.Y.B-a2.Y.A))))-v8))))+(w64 ((w64 (a2.X.B-a2.X.A))*(w64 (a2.Y.B-a2.Y.A))))))-1)) (w64 ((w64 (a2.X.B-a2.X.A))*(w64 (a2.Y.B-a2.Y.A)))))))]:List Worth_zone))))] ?_
   refine q_vu [] 5 [11] [(7,vi (w64 (x4+((a1.getD x5.toNat default).Len))))] [3] [] ?_;refine q_vv [] 5 [29] [(29,vi (w64 (x5+1)))] ?_
   exact q_hl (SA a1 a2 (l3++([(Worth_zone.mk (Span.mk x4 (w64 (x4+((a1.getD x5.toNat default).Len)))) (w64 (Int.tdiv (w64 ((w64 ((w64 (1000*(w64 ((w64 ((w64 (a2.X.B-a2.X.A))*(w64 (a2.Y.B-a2.Y.A))))-v8))))+(w64 ((w64 (a2.X.B-a2.X.A))*(w64 (a2.Y.B-a2.Y.A))))))-1)) (w64 ((w64 (a2.X.B-a2.X.A))*(w64 (a2.Y.B-a2.Y.A)))))))]:List Worth_zone)) (l3.length+1) (w64 (x4+((a1.getD x5.toNat default).Len))) (w64 (x5+1))) (ih (l3++([(Worth_zone.mk (Span.mk x4 (w64 (x4+((a1.getD x5.toNat default).Len)))) (w64 (Int.tdiv (w64 ((w64 ((w64 (1000*(w64 ((w64 ((w64 (a2.X.B-a2.X.A))*(w64 (a2.Y.B-a2.Y.A))))-v8))))+(w64 ((w64 (a2.X.B-a2.X.A))*(w64 (a2.Y.B-a2.Y.A))))))-1)) (w64 ((w64 (a2.X.B-a2.X.A))*(w64 (a2.Y.B-a2.Y.A)))))))]:List Worth_zone)) (l3.length+1) (w64 (x4+((a1.getD x5.toNat default).Len))) (w64 (x5+1)) _ (len_app rfl rfl) hm)
  ·refine q_ex 0 ?_;obtain rfl:=oi hm;exact wH (by kernel_rfl) (by kernel_rfl)
theorem qLz (a1:List qB) (a2:Rect) (r:(List Worth_zone)) (hm:HC a1 a2=some r):CtX Tryz.prog globs 173 0 0 [.one (tl qI default a1),.agg (qE a2)] [] (qNx r) (qNz r):=by
 unfold HC at hm;refine q_E Tryz.f173 61 λE=>?_;refine s_vn [] 0 ⟨[(0,vc (tl qI default a1)),(3,vp 0 0)],[(0,bx 33 (qE a2))]⟩ ?_;refine s_va 1 [(5,vi (w64 ((w64 (a2.X.B-a2.X.A))*(w64 (a2.Y.B-a2.Y.A)))))] ?_;refine s_va 1 [(6,vc (.emp))] ?_;refine s_va 1 [(7,vi 0)] ?_;refine q_sq ?_;refine s_vv [] 1 [0] [(27,vc (tl qI default a1)),(28,vi ((a1.length:Nat):Int)),(29,vi 0)] ?_;refine q_fu [.own 6 1 249 3 (rf qR ([]:List Worth_zone))] [6] [(6,vo 1 0 3 0)] [] [(1,ro 0 249 3 0 (rf qR ([]:List Worth_zone)))] o0 ?_;obtain⟨o13,h14,hm⟩:=qA hm
 refine zN (nd Tryz.f173 500) 0 (by kernel_rfl) FUEL (λo=>qBL o) o13 (q_hl (SA a1 a2 ([]:List Worth_zone) 0 0 0) (qHq E a1 a2 FUEL ([]:List Worth_zone) 0 0 0 o13 rfl h14)) ?_;refine s_vv [] 2 [6] [(4,vo 1 0 3 o13.length)] ?_;obtain rfl:=oi hm;refine qT 1 0 (by kernel_rfl) ?_;refine q_rt ?_;exact q_rm
def OX (r:Bool):V:=vb r
def OW (r:Bool):List (Nat×(Nat×O)):=[]
def qHh (a1:Rect) (x2:Int) (x7:Bool):St:=
 ⟨[(9,va (qE a1)),(10,vi x2),(27,vb x7)],[]⟩
def MT (a1:Rect) (x2:Int):St:=
 ⟨[(9,va (qE a1)),(10,vi x2)],[]⟩
def qAS :St:=
 ⟨[],[]⟩
theorem qGv (E:Env 0) (a1:Rect):∀(n:Nat) (x2:Int) (res:Bool⊕Unit),wC a1 n x2=some res->HL (kx E 29 0) (nd Tryz.f172 52) (wI 0 (λo=>qAS) (λv st=>RetQ Tryz.prog Tryz.f172 (OX v) (OW v) .ret st) res) n (MT a1 x2):=by
 intro n
 induction n with
 |zero=>
  intro x2 res hm;cases hm
 |succ n ih=>
  intro x2 res hm;refine qM ?_;refine s_va 1 [(11,vb (decide (x2<2)))] ?_;refine q_sq ?_;refine q_cm hm (λb3 hm=>?_) (λb3 hm=>?_)
  ·refine q_sk ?_;refine q_sq ?_;refine q_bk 1 ?_;obtain⟨g4,hm⟩:=qG hm;refine s_vu [qi 0 g4] 1 [11] [(4,vp 1 0)] [] [(1,bx 31 [ci (([a1.X.A,a1.X.B,a1.Y.A,a1.Y.B]:List Int).getD (x2.toNat*2+0) 0),ci (([a1.X.A,a1.X.B,a1.Y.A,a1.Y.B]:List Int).getD (x2.toNat*2+1) 0)])] ?_;refine q_jn (qHh a1 x2) (λp=>QC x2 (wC a1 n) p=some res) ?_ ?_
   ·rintro x7 hm;refine q_cm hm (λb8 hm=>?_) (λb8 hm=>?_)
    ·refine s_vn [] 2 ⟨[(2,vb false)],[]⟩ ?_;obtain rfl:=oi hm;refine q_rt ?_;refine qY false ?_;exact q_rm
    ·refine q_sk ?_;refine q_vv [] 2 [10,27] [(10,vi (w64 (x2+1)))] ?_;exact q_hl (MT a1 (w64 (x2+1))) (ih (w64 (x2+1)) _ hm)
   ·rcases bif_c hm with⟨b5,hm⟩|⟨b5,hm⟩
    ·refine q_vu [qf 3 b5] 2 [4] [(27,vb true)] [1] [] ?_;exact q_J (true) hm
    ·rcases bif_c hm with⟨b6,hm⟩|⟨b6,hm⟩
     ·refine q_vu [qf 3 b5,qf 8 b6] 2 [4] [(27,vb true)] [1] [] ?_;exact q_J (true) hm
     ·refine q_vu [qf 3 b5,qf 8 b6] 2 [4] [(27,vb (decide ((([a1.X.A,a1.X.B,a1.Y.A,a1.Y.B]:List Int).getD (x2.toNat*2+0) 0)≥(([a1.X.A,a1.X.B,a1.Y.A,a1.Y.B]:List Int).getD (x2.toNat*2+1) 0))))] [1] [] ?_;exact q_J (decide ((([a1.X.A,a1.X.B,a1.Y.A,a1.Y.B]:List Int).getD (x2.toNat*2+0) 0)≥(([a1.X.A,a1.X.B,a1.Y.A,a1.Y.B]:List Int).getD (x2.toNat*2+1) 0))) hm
  ·refine q_ex 0 ?_;obtain rfl:=oi hm;exact wR () (by kernel_rfl) (by kernel_rfl)
theorem qKZ (a1:Rect) (r:Bool) (hm:NU a1=some r):CtX Tryz.prog globs 172 0 0 [.agg (qE a1)] [] (OX r) (OW r):=by
 unfold NU at hm;refine q_E Tryz.f172 29 λE=>?_;refine s_vn [] 0 ⟨[(1,vp 0 0)],[(0,bx 33 (qE a1))]⟩ ?_;refine q_sq ?_;refine s_vn [] 1 ⟨[(9,va (qE a1)),(10,vi 0)],[]⟩ ?_;obtain⟨u11,h10,hm⟩:=qA hm;refine zQ (nd Tryz.f172 52) 0 (by kernel_rfl) FUEL (λo=>qAS) (λv st=>RetQ Tryz.prog Tryz.f172 (OX v) (OW v) .ret st) u11 (q_hl (MT a1 0) (qGv E a1 FUEL 0 u11 h10)) ?_ ?_
 ·rintro v12 rfl st hr;obtain rfl:=oi hm;exact hr
 ·rintro o9 rfl;replace hm:_=some r:=hm;refine s_vn [] 1 ⟨[(2,vb true)],[]⟩ ?_;obtain rfl:=oi hm;refine q_rt ?_;exact q_rm
def qOb (r:Worth_view×Bool):V:= .tup [.agg [cs r.1.product.Name,ci r.1.product.Thick,ci r.1.product.Width,ci r.1.product.Allow,ci r.1.product.Wane,tl e_i64 default r.1.product.Lengths,tl e_i64 default r.1.product.Prices,ci r.1.rect.X.A,ci r.1.rect.X.B,ci r.1.rect.Y.A,ci r.1.rect.Y.B,ci r.1.length,.own 0 0 3 r.1.zones.length,.own 1 0 7 r.1.defects.length],.one (cb r.2)]
def qPM (r:Worth_view×Bool):List (Nat×(Nat×O)):=[(0,ro 0 249 3 r.1.zones.length (rf qR r.1.zones)),(1,ro 0 212 7 r.1.defects.length (rf qJ r.1.defects))]
def MS (v25:(List Worth_zone)):St:=
 ⟨[(8,vp 2 0),(13,vp 6 0)],[(2,bx 186 [cs (ByteArray.mk #[]),ci 0,ci 0,ci 0,ci 0,.emp,.emp,ci 0,ci 0,ci 0,ci 0,ci 0,.emp,.emp]),(5,ro 0 249 3 v25.length (rf qR v25))]⟩
def qBe (a1:List qB) (a2:List Defect) (a3:Product) (a4:Rect):St:=
 ⟨[(0,vc (tl qI default a1)),(1,vc (tl qJ default a2)),(6,vp 0 0),(7,vp 1 0),(8,vp 2 0)],[(0,bx 54 (qC a3)),(1,bx 33 (qE a4)),(2,bx 186 [cs (ByteArray.mk #[]),ci 0,ci 0,ci 0,ci 0,.emp,.emp,ci 0,ci 0,ci 0,ci 0,ci 0,.emp,.emp])]⟩
def qCX (a2:List Defect) (a3:Product) (a4:Rect) (v23:Int) (v25:(List Worth_zone)) (v27:Box) (x29:Int) (l37:List Defect) (l37n:Nat):St:=
 (MS v25).up [] [(14,vp 7 0),(83,vc (tl qJ default a2)),(84,vi ((a2.length:Nat):Int)),(85,vi x29)] [] [(6,bx 186 [cs a3.Name,ci a3.Thick,ci a3.Width,ci a3.Allow,ci a3.Wane,tl e_i64 default a3.Lengths,tl e_i64 default a3.Prices,ci a4.X.A,ci a4.X.B,ci a4.Y.A,ci a4.Y.B,ci v23,.own 5 0 3 v25.length,.own 8 0 7 l37n]),(7,bx 128 (ZV v27)),(8,ro 0 212 7 l37n (rf qJ l37))]
def AP (a2:List Defect) (a3:Product) (a4:Rect) (v23:Int) (v25:(List Worth_zone)) (v27:Box) (x29:Int) (l30:List Defect) (l30n:Nat):St:=
 (MS v25).up [] [(14,vp 7 0),(83,vc (tl qJ default a2)),(84,vi ((a2.length:Nat):Int)),(85,vi x29)] [] [(6,bx 186 [cs a3.Name,ci a3.Thick,ci a3.Width,ci a3.Allow,ci a3.Wane,tl e_i64 default a3.Lengths,tl e_i64 default a3.Prices,ci a4.X.A,ci a4.X.B,ci a4.Y.A,ci a4.Y.B,ci v23,.own 5 0 3 v25.length,.own 8 0 7 l30n]),(7,bx 128 (ZV v27)),(8,ro 0 212 7 l30n (rf qJ l30))]
def qCh (a3:Product) (a4:Rect) (v23:Int) (v25:(List Worth_zone)) (l38:List Defect):St:=
 (MS v25).up [] [] [] [(6,bx 186 [cs a3.Name,ci a3.Thick,ci a3.Width,ci a3.Allow,ci a3.Wane,tl e_i64 default a3.Lengths,tl e_i64 default a3.Prices,ci a4.X.A,ci a4.X.B,ci a4.Y.A,ci a4.Y.B,ci v23,.own 5 0 3 v25.length,.own 8 0 7 l38.length]),(8,ro 0 212 7 l38.length (rf qJ l38))]
def qJC (a1:List qB) (a2:List Defect) (a3:Product) (a4:Rect) (x21:Bool):St:=
 (qBe a1 a2 a3 a4).up [] [(68,vb x21)] [] []
def qKL (a1:List qB) (a2:List Defect) (a3:Product) (a4:Rect) (x16:Bool):St:=
 (qBe a1 a2 a3 a4).up [] [(35,vb x16)] [] []
theorem qIf (E:Env 0) (a2:List Defect) (a3:Product) (a4:Rect) (v23:Int) (v25:(List Worth_zone)) (v27:Box):∀(n:Nat) (x29:Int) (l30:List Defect) (l30n:Nat) (res:(List Defect)),l30.length=l30n->WE a2 v27 n x29 l30=some res->HL (kx E 100 0) (nd Tryz.f126 4084) (zU 0 (λo=>qCh a3 a4 v23 v25 o) res) n (AP a2 a3 a4 v23 v25 v27 x29 l30 l30n):=by
 intro n
 induction n with
 |zero=>
  intro x29 l30 l30n res hl0 hm;cases hm
 |succ n ih=>
  intro x29 l30 l30n res hl0 hm;subst hl0;refine qM ?_;refine s_va 9 [(86,vb (decide (x29<((a2.length:Nat):Int))))] ?_;refine q_sq ?_;refine q_cm hm (λb31 hm=>?_) (λb31 hm=>?_)
  ·refine q_sk ?_;refine q_jn (ι:=(List Defect)×Nat) (λp=>qCX a2 a3 a4 v23 v25 v27 x29 p.1 p.2) (λp=>p.1.length=p.2/\HQ x29 (WE a2 v27 n) p.1=some res) ?_ ?_
   ·rintro⟨l37,l37n⟩ ⟨el37,hm⟩;replace el37:l37.length=l37n:=el37;subst el37;show H _ (qCX a2 a3 a4 v23 v25 v27 x29 l37 l37.length) _ _;refine q_vv [] 11 [85] [(85,vi (w64 (x29+1)))] ?_;exact q_hl (AP a2 a3 a4 v23 v25 v27 (w64 (x29+1)) l37 l37.length) (ih (w64 (x29+1)) l37 l37.length _ rfl hm)
   ·refine q_bk 1 ?_;obtain⟨g32,hm⟩:=qG hm;refine s_vu [qi 0 g32] 9 [86] [(16,vp 9 0)] [] [(9,bx 212 [ci ((a2.getD x29.toNat default).Kind),ci ((((a2.getD x29.toNat default).Box).X).A),ci ((((a2.getD x29.toNat default).Box).X).B),ci ((((a2.getD x29.toNat default).Box).Y).A),ci ((((a2.getD x29.toNat default).Box).Y).B),ci ((((a2.getD x29.toNat default).Box).Z).A),ci ((((a2.getD x29.toNat default).Box).Z).B)])] ?_;obtain⟨v33,h34,hm⟩:=qA hm;refine s_vv [qc 2 [89,90] 10 (qA0 (a2.getD x29.toNat default) v27 v33 h34)] 10 [] [(91,vb v33)] ?_;refine q_cm hm (λb35 hm=>?_) (λb35 hm=>?_)
    ·obtain⟨g36,hm⟩:=qG hm
     refine q_vu [qd 3 (drw 10 0 (rf qJ ([(a2.getD x29.toNat default)]:List Defect))) (litP qJ default 7 (λ_=>rfl) ([(a2.getD x29.toNat default)]:List Defect) 1 rfl),qd 4 (drw 8 1 (rf qJ (l30++([(a2.getD x29.toNat default)]:List Defect)))) (apP qJ default l30 ([(a2.getD x29.toNat default)]:List Defect) l30.length 1 7 56 (1<=1) (Nat.le_refl _) rfl rfl (λ_=>rfl) (zI g36))] 10 [16,91] [] [6,8,9] [(6,bx 186 [cs a3.Name,ci a3.Thick,ci a3.Width,ci a3.Allow,ci a3.Wane,tl e_i64 default a3.Lengths,tl e_i64 default a3.Prices,ci a4.X.A,ci a4.X.B,ci a4.Y.A,ci a4.Y.B,ci v23,.own 5 0 3 v25.length,.own 8 1 7 (l30.length+1)]),(8,ro 1 212 7 (l30.length+1) (rf qJ (l30++([(a2.getD x29.toNat default)]:List Defect))))] ?_
     exact q_J ((l30++([(a2.getD x29.toNat default)]:List Defect)),(l30.length+1)) ⟨(len_app rfl rfl),hm⟩
    ·refine q_sk ?_;exact q_J (l30,l30.length) ⟨rfl,hm⟩
  ·refine q_ex 0 ?_;obtain rfl:=oi hm;exact wH (by kernel_rfl) (by kernel_rfl)
theorem qNE (a1:List qB) (a2:List Defect) (a3:Product) (a4:Rect) (r:Worth_view×Bool) (hm:AW a1 a2 a3 a4=some r):CtX Tryz.prog globs 126 0 0 [.one (tl qI default a1),.one (tl qJ default a2),.agg (qC a3),.agg (qE a4)] [] (qOb r) (qPM r):=by
 unfold AW at hm;refine q_E Tryz.f126 100 λE=>?_;refine s_vn [] 0 ⟨[(0,vc (tl qI default a1)),(1,vc (tl qJ default a2)),(6,vp 0 0),(7,vp 1 0),(8,vp 2 0)],[(0,bx 54 (qC a3)),(1,bx 33 (qE a4)),(2,bx 186 [cs (ByteArray.mk #[]),ci 0,ci 0,ci 0,ci 0,.emp,.emp,ci 0,ci 0,ci 0,ci 0,ci 0,.emp,.emp])]⟩ ?_;refine q_sq ?_;refine q_jn (qKL a1 a2 a3 a4) (λp=>PO a1 a2 a3 a4 p=some r) ?_ ?_
 ·rintro x16 hm;refine q_cm hm (λb17 hm=>?_) (λb17 hm=>?_)
  ·refine s_vu [] 4 [0,1,6,7,35] [(9,vb false)] [0,1] [] ?_;refine q_fu [.ownB 2 5 4 3 1 (rf e_i64 ([]:List Int))] [] [] [2] [(2,bx 186 [cs (ByteArray.mk #[]),ci 0,ci 0,ci 0,ci 0,.own 4 0 1 0,.emp,ci 0,ci 0,ci 0,ci 0,ci 0,.emp,.emp]),(4,ro 0 3 1 0 (rf e_i64 ([]:List Int)))] o0 ?_;refine q_fu [.ownB 2 6 5 3 1 (rf e_i64 ([]:List Int))] [] [] [2] [(2,bx 186 [cs (ByteArray.mk #[]),ci 0,ci 0,ci 0,ci 0,.own 4 0 1 0,.own 5 0 1 0,ci 0,ci 0,ci 0,ci 0,ci 0,.emp,.emp]),(5,ro 0 3 1 0 (rf e_i64 ([]:List Int)))] o0 ?_
   refine q_fu [.ownB 2 12 6 249 3 (rf qR ([]:List Worth_zone))] [] [] [2] [(2,bx 186 [cs (ByteArray.mk #[]),ci 0,ci 0,ci 0,ci 0,.own 4 0 1 0,.own 5 0 1 0,ci 0,ci 0,ci 0,ci 0,ci 0,.own 6 0 3 0,.emp]),(6,ro 0 249 3 0 (rf qR ([]:List Worth_zone)))] o0 ?_;refine q_fu [.ownB 2 13 7 212 7 (rf qJ ([]:List Defect))] [] [] [2] [(2,bx 186 [cs (ByteArray.mk #[]),ci 0,ci 0,ci 0,ci 0,.own 4 0 1 0,.own 5 0 1 0,ci 0,ci 0,ci 0,ci 0,ci 0,.own 6 0 3 0,.own 7 0 7 0]),(7,ro 0 212 7 0 (rf qJ ([]:List Defect)))] o0 ?_
   refine q_fu [.len 4 (([]:List Int).length),.frz 4] [] [] [2,4] [(2,bx 186 [cs (ByteArray.mk #[]),ci 0,ci 0,ci 0,ci 0,tl e_i64 default ([]:List Int),.own 5 0 1 0,ci 0,ci 0,ci 0,ci 0,ci 0,.own 6 0 3 0,.own 7 0 7 0])] (o1 (And.intro (And.intro (show 0=([]:List Int).length from rfl) (show 0=([]:List Int).length from rfl)) (Nat.le_refl (([]:List Int).length)))) ?_
   refine q_fu [.len 5 (([]:List Int).length),.frz 5] [] [] [2,5] [(2,bx 186 [cs (ByteArray.mk #[]),ci 0,ci 0,ci 0,ci 0,tl e_i64 default ([]:List Int),tl e_i64 default ([]:List Int),ci 0,ci 0,ci 0,ci 0,ci 0,.own 6 0 3 0,.own 7 0 7 0])] (o1 (And.intro (And.intro (show 0=([]:List Int).length from rfl) (show 0=([]:List Int).length from rfl)) (Nat.le_refl (([]:List Int).length)))) ?_
   refine q_fu [.len 6 (([]:List Worth_zone).length)] [] [] [2,6] [(2,bx 186 [cs (ByteArray.mk #[]),ci 0,ci 0,ci 0,ci 0,tl e_i64 default ([]:List Int),tl e_i64 default ([]:List Int),ci 0,ci 0,ci 0,ci 0,ci 0,.own 6 0 3 (([]:List Worth_zone).length),.own 7 0 7 0]),(6,ro 0 249 3 (([]:List Worth_zone).length) (rf qR ([]:List Worth_zone)))] (o1 (And.intro (show 0=([]:List Worth_zone).length from rfl) (show 0=([]:List Worth_zone).length from rfl))) ?_
   refine q_fu [.len 7 (([]:List Defect).length)] [] [] [2,7] [(2,bx 186 [cs (ByteArray.mk #[]),ci 0,ci 0,ci 0,ci 0,tl e_i64 default ([]:List Int),tl e_i64 default ([]:List Int),ci 0,ci 0,ci 0,ci 0,ci 0,.own 6 0 3 (([]:List Worth_zone).length),.own 7 0 7 (([]:List Defect).length)]),(7,ro 0 212 7 (([]:List Defect).length) (rf qJ ([]:List Defect)))] (o1 (And.intro (show 0=([]:List Defect).length from rfl) (show 0=([]:List Defect).length from rfl))) ?_;obtain rfl:=oi hm;refine qT 6 0 (by kernel_rfl) ?_;refine qT 7 1 (by kernel_rfl) ?_;refine q_rt ?_;exact q_rm
  ·refine q_sk ?_;obtain⟨v18,h19,hm⟩:=qA hm;refine s_vv [qc 1 [38] 4 (KJ a3 v18 h19)] 4 [35] [(10,vi v18.1),(11,vi v18.2)] ?_;refine s_vu [] 4 [] [(12,vp 4 0)] [] [(4,bx 227 [ci (w64 (a4.X.B-a4.X.A)),ci (w64 (a4.Y.B-a4.Y.A))])] ?_;refine q_sq ?_;refine q_jn (qJC a1 a2 a3 a4) (λp=>DI a1 a2 a3 a4 p=some r) ?_ ?_
   ·rintro x21 hm;refine q_cm hm (λb22 hm=>?_) (λb22 hm=>?_)
    ·refine s_vu [] 5 [0,1,6,7,68] [(9,vb false)] [0,1] [] ?_;refine q_fu [.ownB 2 5 5 3 1 (rf e_i64 ([]:List Int))] [] [] [2] [(2,bx 186 [cs (ByteArray.mk #[]),ci 0,ci 0,ci 0,ci 0,.own 5 0 1 0,.emp,ci 0,ci 0,ci 0,ci 0,ci 0,.emp,.emp]),(5,ro 0 3 1 0 (rf e_i64 ([]:List Int)))] o0 ?_;refine q_fu [.ownB 2 6 6 3 1 (rf e_i64 ([]:List Int))] [] [] [2] [(2,bx 186 [cs (ByteArray.mk #[]),ci 0,ci 0,ci 0,ci 0,.own 5 0 1 0,.own 6 0 1 0,ci 0,ci 0,ci 0,ci 0,ci 0,.emp,.emp]),(6,ro 0 3 1 0 (rf e_i64 ([]:List Int)))] o0 ?_
     refine q_fu [.ownB 2 12 7 249 3 (rf qR ([]:List Worth_zone))] [] [] [2] [(2,bx 186 [cs (ByteArray.mk #[]),ci 0,ci 0,ci 0,ci 0,.own 5 0 1 0,.own 6 0 1 0,ci 0,ci 0,ci 0,ci 0,ci 0,.own 7 0 3 0,.emp]),(7,ro 0 249 3 0 (rf qR ([]:List Worth_zone)))] o0 ?_;refine q_fu [.ownB 2 13 8 212 7 (rf qJ ([]:List Defect))] [] [] [2] [(2,bx 186 [cs (ByteArray.mk #[]),ci 0,ci 0,ci 0,ci 0,.own 5 0 1 0,.own 6 0 1 0,ci 0,ci 0,ci 0,ci 0,ci 0,.own 7 0 3 0,.own 8 0 7 0]),(8,ro 0 212 7 0 (rf qJ ([]:List Defect)))] o0 ?_
     refine q_fu [.len 5 (([]:List Int).length),.frz 5] [] [] [2,5] [(2,bx 186 [cs (ByteArray.mk #[]),ci 0,ci 0,ci 0,ci 0,tl e_i64 default ([]:List Int),.own 6 0 1 0,ci 0,ci 0,ci 0,ci 0,ci 0,.own 7 0 3 0,.own 8 0 7 0])] (o1 (And.intro (And.intro (show 0=([]:List Int).length from rfl) (show 0=([]:List Int).length from rfl)) (Nat.le_refl (([]:List Int).length)))) ?_
     refine q_fu [.len 6 (([]:List Int).length),.frz 6] [] [] [2,6] [(2,bx 186 [cs (ByteArray.mk #[]),ci 0,ci 0,ci 0,ci 0,tl e_i64 default ([]:List Int),tl e_i64 default ([]:List Int),ci 0,ci 0,ci 0,ci 0,ci 0,.own 7 0 3 0,.own 8 0 7 0])] (o1 (And.intro (And.intro (show 0=([]:List Int).length from rfl) (show 0=([]:List Int).length from rfl)) (Nat.le_refl (([]:List Int).length)))) ?_
     refine q_fu [.len 7 (([]:List Worth_zone).length)] [] [] [2,7] [(2,bx 186 [cs (ByteArray.mk #[]),ci 0,ci 0,ci 0,ci 0,tl e_i64 default ([]:List Int),tl e_i64 default ([]:List Int),ci 0,ci 0,ci 0,ci 0,ci 0,.own 7 0 3 (([]:List Worth_zone).length),.own 8 0 7 0]),(7,ro 0 249 3 (([]:List Worth_zone).length) (rf qR ([]:List Worth_zone)))] (o1 (And.intro (show 0=([]:List Worth_zone).length from rfl) (show 0=([]:List Worth_zone).length from rfl))) ?_
     refine q_fu [.len 8 (([]:List Defect).length)] [] [] [2,8] [(2,bx 186 [cs (ByteArray.mk #[]),ci 0,ci 0,ci 0,ci 0,tl e_i64 default ([]:List Int),tl e_i64 default ([]:List Int),ci 0,ci 0,ci 0,ci 0,ci 0,.own 7 0 3 (([]:List Worth_zone).length),.own 8 0 7 (([]:List Defect).length)]),(8,ro 0 212 7 (([]:List Defect).length) (rf qJ ([]:List Defect)))] (o1 (And.intro (show 0=([]:List Defect).length from rfl) (show 0=([]:List Defect).length from rfl))) ?_;obtain rfl:=oi hm;refine qT 7 0 (by kernel_rfl) ?_;refine qT 8 1 (by kernel_rfl) ?_;refine q_rt ?_;exact q_rm
    ·refine q_sk ?_;obtain⟨v23,h24,hm⟩:=qA hm;obtain⟨v25,h26,hm⟩:=qA hm;refine s_du [qc 3 [72] 5 (YK a1 v23 h24),qc 6 [74,75] 5 (qLz a1 a4 v25 h26)] [0,0,0,4,0,0,60,127,0,511] 5 [0,6,7,68] [(13,vp 6 0)] [0,1] [(5,ro 0 249 3 v25.length (rf qR v25)),(6,bx 186 [cs a3.Name,ci a3.Thick,ci a3.Width,ci a3.Allow,ci a3.Wane,tl e_i64 default a3.Lengths,tl e_i64 default a3.Prices,ci a4.X.A,ci a4.X.B,ci a4.Y.A,ci a4.Y.B,ci v23,.own 5 0 3 v25.length,.emp])] ?_;obtain⟨v27,h28,hm⟩:=qA hm
     refine s_vu [qd 4 (dex (cen [] [] 7 0 (qBR v27) (GX v27) [78,81] [5])) (wV (K:=(kx E 100 0)) (b:=false) ⟨[(78,va [cs a3.Name,ci a3.Thick,ci a3.Width,ci a3.Allow,ci a3.Wane,tl e_i64 default a3.Lengths,tl e_i64 default a3.Prices,ci a4.X.A,ci a4.X.B,ci a4.Y.A,ci a4.Y.B,ci v23,.own 5 0 3 v25.length,.emp]),(81,va [ci 0,ci v23])],[(5,ro 0 249 3 v25.length (rf qR v25))]⟩ (opAt (rg Tryz.f126 254) 4) [] [] 7 (o1 (Nat.le_refl v25.length)) rfl (CtX.emp (xs':=[.agg [cs a3.Name,ci a3.Thick,ci a3.Width,ci a3.Allow,ci a3.Wane,tl e_i64 default a3.Lengths,tl e_i64 default a3.Prices,ci a4.X.A,ci a4.X.B,ci a4.Y.A,ci a4.Y.B,ci v23,tl qR default v25,.emp],.agg [ci 0,ci v23]]) (qA4 (Worth_view.mk a3 a4 v23 v25 ([]:List Defect)) (Span.mk 0 v23) v27 h28) (And.intro (And.intro rfl (And.intro rfl (And.intro rfl (And.intro rfl (And.intro rfl (And.intro rfl (And.intro rfl (And.intro rfl (And.intro rfl (And.intro rfl (And.intro rfl (And.intro rfl (And.intro rfl (And.intro rfl trivial)))))))))))))) (And.intro (And.intro rfl (And.intro rfl trivial)) trivial))) (.inr ⟨(by kernel_rfl),qJq v27⟩) (by kernel_rfl))] 7 [] [(14,vp 7 0)] [] [(7,bx 128 (ZV v27))] ?_
     refine q_sq ?_;refine s_vv [] 8 [1] [(83,vc (tl qJ default a2)),(84,vi ((a2.length:Nat):Int)),(85,vi 0)] ?_;refine q_fu [.ownB 6 13 8 212 7 (rf qJ ([]:List Defect))] [] [] [6] [(6,bx 186 [cs a3.Name,ci a3.Thick,ci a3.Width,ci a3.Allow,ci a3.Wane,tl e_i64 default a3.Lengths,tl e_i64 default a3.Prices,ci a4.X.A,ci a4.X.B,ci a4.Y.A,ci a4.Y.B,ci v23,.own 5 0 3 v25.length,.own 8 0 7 0]),(8,ro 0 212 7 0 (rf qJ ([]:List Defect)))] o0 ?_;obtain⟨o39,h40,hm⟩:=qA hm
     refine zN (nd Tryz.f126 4084) 0 (by kernel_rfl) FUEL (λo=>qCh a3 a4 v23 v25 o) o39 (q_hl (AP a2 a3 a4 v23 v25 v27 0 ([]:List Defect) 0) (qIf E a2 a3 a4 v23 v25 v27 FUEL 0 ([]:List Defect) 0 o39 rfl h40)) ?_;refine s_vu [] 9 [13] [(9,vb true)] [2,6] [(2,bx 186 [cs a3.Name,ci a3.Thick,ci a3.Width,ci a3.Allow,ci a3.Wane,tl e_i64 default a3.Lengths,tl e_i64 default a3.Prices,ci a4.X.A,ci a4.X.B,ci a4.Y.A,ci a4.Y.B,ci v23,.own 5 0 3 v25.length,.own 8 0 7 o39.length])] ?_;obtain rfl:=oi hm;refine qT 5 0 (by kernel_rfl) ?_;refine qT 8 1 (by kernel_rfl) ?_;refine q_rt ?_;exact q_rm
   ·rcases bif_c hm with⟨b20,hm⟩|⟨b20,hm⟩
    ·refine q_vu [qf 5 b20] 5 [10,11,12] [(68,vb (!(((w64 (a4.X.B-a4.X.A))==v18.2)&&(((w64 (a4.Y.B-a4.Y.A))==v18.1)&&true))))] [4] [] ?_;exact q_J (!(((w64 (a4.X.B-a4.X.A))==v18.2)&&(((w64 (a4.Y.B-a4.Y.A))==v18.1)&&true))) hm
    ·refine q_vu [qf 5 b20] 5 [10,11,12] [(68,vb false)] [4] [] ?_;exact q_J (false) hm
 ·obtain⟨v5,h6,hm⟩:=qA hm;rcases bif_c hm with⟨b7,hm⟩|⟨b7,hm⟩
  ·refine q_vv [qc 1 [17] 3 (QU a1 v5 h6),qf 3 b7] 3 [] [(35,vb true)] ?_;exact q_J (true) hm
  ·obtain⟨v8,h9,hm⟩:=qA hm;rcases bif_c hm with⟨b10,hm⟩|⟨b10,hm⟩
   ·refine q_vv [qc 1 [17] 3 (QU a1 v5 h6),qf 3 b7,qk 5 [20,21] 3 ⟨[(20,vb false),(21,vc (tl qJ default a2))],[]⟩ (YT a2 v8 h9),qf 8 b10] 3 [] [(35,vb true)] ?_;exact q_J (true) hm
   ·obtain⟨v11,h12,hm⟩:=qA hm;rcases bif_c hm with⟨b13,hm⟩|⟨b13,hm⟩
    ·refine q_vv [qc 1 [17] 3 (QU a1 v5 h6),qf 3 b7,qk 5 [20,21] 3 ⟨[(20,vb false),(21,vc (tl qJ default a2))],[]⟩ (YT a2 v8 h9),qf 8 b10,qd 10 (drw 3 0 (rf qC ([a3]:List Product))) (litP qC default 7 (λ_=>rfl) ([a3]:List Product) 1 rfl),qd 11 (dex (cen [] [] 4 0 (RP v11) (ZP v11) [25,27] [3])) (wV (K:=(kx E 100 0)) (xs':=[.one (.lst 1 (rf qC ([a3]:List Product)))]) (b:=false) ⟨[(25,vb false),(27,vo 3 0 7 1)],[(3,ro 0 54 7 1 (rf qC ([a3]:List Product)))]⟩ (opAt (rg Tryz.f126 12) 11) [] [] 4 (o1 (Nat.le_refl 1)) (by simp only[tl,rf,show([a3]:List Product).length=1 from rfl]) (wN ([a3]:List Product) v11 h12) (.inr ⟨(by kernel_rfl),qCu v11⟩) (by kernel_rfl)),qf 14 b13] 3 [] [(35,vb true)] ?_
     exact q_J (true) hm
    ·obtain⟨v14,h15,hm⟩:=qA hm
     refine q_vv [qc 1 [17] 3 (QU a1 v5 h6),qf 3 b7,qk 5 [20,21] 3 ⟨[(20,vb false),(21,vc (tl qJ default a2))],[]⟩ (YT a2 v8 h9),qf 8 b10,qd 10 (drw 3 0 (rf qC ([a3]:List Product))) (litP qC default 7 (λ_=>rfl) ([a3]:List Product) 1 rfl),qd 11 (dex (cen [] [] 4 0 (RP v11) (ZP v11) [25,27] [3])) (wV (K:=(kx E 100 0)) (xs':=[.one (.lst 1 (rf qC ([a3]:List Product)))]) (b:=false) ⟨[(25,vb false),(27,vo 3 0 7 1)],[(3,ro 0 54 7 1 (rf qC ([a3]:List Product)))]⟩ (opAt (rg Tryz.f126 12) 11) [] [] 4 (o1 (Nat.le_refl 1)) (by simp only[tl,rf,show([a3]:List Product).length=1 from rfl]) (wN ([a3]:List Product) v11 h12) (.inr ⟨(by kernel_rfl),qCu v11⟩) (by kernel_rfl)),qf 14 b13,qk 16 [31,32] 4 ⟨[(31,vb false),(32,va (qE a4))],[]⟩ (qKZ a4 v14 h15)] 3 [] [(35,vb (!v14))] ?_
     exact q_J (!v14) hm
def qPR (r:Span×Int×Bool):V:= .tup [.agg (e_Span r.1),.one (ci r.2.1),.one (cb r.2.2)]
def qPp (r:Span×Int×Bool):List (Nat×(Nat×O)):=[]
def XF (a3:Product) (a5:Int) (a6:Int) (v14:Worth_view×Bool) (x19:Int):St:=
 ⟨[(4,vi a5),(5,vi a6),(8,vp 0 0),(12,vp 2 0),(15,vp 5 0),(17,vp 6 0),(20,vi x19)],[(0,bx 54 (qC a3)),(2,bx 31 [ci 0,ci 0]),(3,ro 0 249 3 v14.1.zones.length (rf qR v14.1.zones)),(4,ro 0 212 7 v14.1.defects.length (rf qJ v14.1.defects)),(5,bx 186 [cs v14.1.product.Name,ci v14.1.product.Thick,ci v14.1.product.Width,ci v14.1.product.Allow,ci v14.1.product.Wane,tl e_i64 default v14.1.product.Lengths,tl e_i64 default v14.1.product.Prices,ci v14.1.rect.X.A,ci v14.1.rect.X.B,ci v14.1.rect.Y.A,ci v14.1.rect.Y.B,ci v14.1.length,.own 3 0 3 v14.1.zones.length,.own 4 0 7 v14.1.defects.length])]⟩
def qCL (a3:Product) (a5:Int) (a6:Int) (v14:Worth_view×Bool) (x19:Int) (x24:Int) (x34:Int) (x35:Bool) (x36:Span):St:=
 (XF a3 a5 a6 v14 x19).up [] [(18,vi x34),(19,vb x35),(54,vc (tl e_i64 default a3.Lengths)),(55,vi ((a3.Lengths.length:Nat):Int)),(56,vi x24)] [] [(6,bx 31 (e_Span x36))]
def qKx (a3:Product) (a5:Int) (a6:Int) (v14:Worth_view×Bool) (x19:Int) (x22:Int) (x23:Bool) (x24:Int) (x25:Span) (v28:Int×Bool) (x32:Bool):St:=
 (XF a3 a5 a6 v14 x19).up [] [(18,vi x22),(19,vb x23),(23,vp 7 0),(24,vi v28.1),(54,vc (tl e_i64 default a3.Lengths)),(55,vi ((a3.Lengths.length:Nat):Int)),(56,vi x24),(81,vb x32)] [] [(6,bx 31 (e_Span x25)),(7,bx 31 [ci x19,ci (w64 (x19+(a3.Lengths.getD x24.toNat default)))])]
def EQ (a3:Product) (a5:Int) (a6:Int) (v14:Worth_view×Bool) (x19:Int) (x22:Int) (x23:Bool) (x24:Int) (x25:Span):St:=
 (XF a3 a5 a6 v14 x19).up [] [(18,vi x22),(19,vb x23),(54,vc (tl e_i64 default a3.Lengths)),(55,vi ((a3.Lengths.length:Nat):Int)),(56,vi x24)] [] [(6,bx 31 (e_Span x25))]
def qCk (a3:Product) (a5:Int) (a6:Int) (v14:Worth_view×Bool) (x19:Int) (x37:Int) (x38:Bool) (x39:Span):St:=
 (XF a3 a5 a6 v14 x19).up [] [(18,vi x37),(19,vb x38)] [] [(6,bx 31 (e_Span x39))]
def EV (a3:Product) (a5:Int) (a6:Int) (v14:Worth_view×Bool) (x17:Int) (x18:Bool) (x19:Int) (x20:Span):St:=
 (XF a3 a5 a6 v14 x19).up [] [(18,vi x17),(19,vb x18)] [] [(6,bx 31 (e_Span x20))]
def qCG (x42:Int) (x43:Bool) (x44:Span):St:=
 ⟨[(12,vp 2 0),(17,vp 6 0),(18,vi x42),(19,vb x43)],[(2,bx 31 [ci 0,ci 0]),(6,bx 31 (e_Span x44))]⟩
def qJE (a1:List qB) (a2:List Defect) (a3:Product) (a4:Rect) (a5:Int) (a6:Int) (x12:Bool):St:=
 ⟨[(0,vc (tl qI default a1)),(1,vc (tl qJ default a2)),(4,vi a5),(5,vi a6),(8,vp 0 0),(9,vp 1 0),(12,vp 2 0),(33,vb x12)],[(0,bx 54 (qC a3)),(1,bx 33 (qE a4)),(2,bx 31 [ci 0,ci 0])]⟩
theorem qI3 (E:Env 0) (a3:Product) (a5:Int) (a6:Int) (v14:Worth_view×Bool) (x19:Int):∀(n:Nat) (x22:Int) (x23:Bool) (x24:Int) (x25:Span) (res:Int×Bool×Span),jJ a3 a6 v14 x19 n x22 x23 x24 x25=some res->HL (kx E 88 0) (nd Tryz.f68 130340) (zU 2 (λo=>qCk a3 a5 a6 v14 x19 o.1 o.2.1 o.2.2) res) n (EQ a3 a5 a6 v14 x19 x22 x23 x24 x25):=by
 intro n
 induction n with
 |zero=>
  intro x22 x23 x24 x25 res hm;cases hm
 |succ n ih=>
  intro x22 x23 x24 x25 res hm;refine qM ?_;refine s_va 7 [(57,vb (decide (x24<((a3.Lengths.length:Nat):Int))))] ?_;refine q_sq ?_;refine q_cm hm (λb26 hm=>?_) (λb26 hm=>?_)
  ·refine q_sk ?_;refine q_jn (ι:=Int×Bool×Span) (λp=>qCL a3 a5 a6 v14 x19 x24 p.1 p.2.1 p.2.2) (λp=>HP x24 (jJ a3 a6 v14 x19 n) p.1 p.2.1 p.2.2=some res) ?_ ?_
   ·rintro⟨x34,x35,x36⟩ hm;show H _ (qCL a3 a5 a6 v14 x19 x24 x34 x35 x36) _ _;refine q_vv [] 8 [56] [(56,vi (w64 (x24+1)))] ?_;exact q_hl (EQ a3 a5 a6 v14 x19 x34 x35 (w64 (x24+1)) x36) (ih x34 x35 (w64 (x24+1)) x36 _ hm)
   ·refine q_bk 3 ?_;obtain⟨g27,hm⟩:=qG hm;refine s_vv [qi 0 g27] 7 [57] [(22,vi (a3.Lengths.getD x24.toNat default))] ?_;refine s_vu [] 7 [22] [(23,vp 7 0)] [] [(7,bx 31 [ci x19,ci (w64 (x19+(a3.Lengths.getD x24.toNat default)))])] ?_;obtain⟨v28,h29,hm⟩:=qA hm
    refine s_vv [qd 3 (dex (cen [] [] 8 0 (RN v28) (ZB v28) [66,67,68] [3,4])) (wV (K:=(kx E 88 0)) (b:=false) ⟨[(66,va [cs v14.1.product.Name,ci v14.1.product.Thick,ci v14.1.product.Width,ci v14.1.product.Allow,ci v14.1.product.Wane,tl e_i64 default v14.1.product.Lengths,tl e_i64 default v14.1.product.Prices,ci v14.1.rect.X.A,ci v14.1.rect.X.B,ci v14.1.rect.Y.A,ci v14.1.rect.Y.B,ci v14.1.length,.own 3 0 3 v14.1.zones.length,.own 4 0 7 v14.1.defects.length]),(67,va [ci x19,ci (w64 (x19+(a3.Lengths.getD x24.toNat default)))]),(68,vi a6)],[(3,ro 0 249 3 v14.1.zones.length (rf qR v14.1.zones)),(4,ro 0 212 7 v14.1.defects.length (rf qJ v14.1.defects))]⟩ (opAt (rg Tryz.f68 16683622) 3) [] [] 8 (o1 (And.intro (Nat.le_refl v14.1.zones.length) (Nat.le_refl v14.1.defects.length))) rfl (worth_view_worth_ok (Worth_view.mk v14.1.product v14.1.rect v14.1.length v14.1.zones v14.1.defects) (Span.mk x19 (w64 (x19+(a3.Lengths.getD x24.toNat default)))) a6 v28 h29) (.inr ⟨(by kernel_rfl),qFM v28⟩) (by kernel_rfl))] 8 [] [(24,vi v28.1),(25,vb v28.2)] ?_
    refine q_jn (qKx a3 a5 a6 v14 x19 x22 x23 x24 x25 v28) (λp=>DS a3 x19 x22 x23 x24 x25 (jJ a3 a6 v14 x19 n) v28 p=some res) ?_ ?_
    ·rintro x32 hm;refine q_cm hm (λb33 hm=>?_) (λb33 hm=>?_)
     ·refine q_vu [] 8 [18,19,23,24,81] [(18,vi v28.1),(19,vb true)] [6,7] [(6,bx 31 [ci x19,ci (w64 (x19+(a3.Lengths.getD x24.toNat default)))])] ?_;exact q_J (v28.1,true,(Span.mk x19 (w64 (x19+(a3.Lengths.getD x24.toNat default))))) hm
     ·refine q_sk ?_;exact q_J (x22,x23,x25) hm
    ·rcases bif_c hm with⟨b30,hm⟩|⟨b30,hm⟩
     ·rcases bif_c hm with⟨b31,hm⟩|⟨b31,hm⟩
      ·refine q_vv [qf 1 b30,qf 4 b31] 8 [25] [(81,vb true)] ?_;exact q_J (true) hm
      ·refine q_vv [qf 1 b30,qf 4 b31] 8 [25] [(81,vb (decide (v28.1>x22)))] ?_;exact q_J (decide (v28.1>x22)) hm
     ·refine q_vv [qf 1 b30] 8 [25] [(81,vb false)] ?_;exact q_J (false) hm
  ·refine q_ex 2 ?_;obtain rfl:=oi hm;exact wH (by kernel_rfl) (by kernel_rfl)
theorem qIo (E:Env 0) (a3:Product) (a5:Int) (a6:Int) (v14:Worth_view×Bool):∀(n:Nat) (x17:Int) (x18:Bool) (x19:Int) (x20:Span) (res:Int×Bool×Span),XB a3 a5 a6 v14 n x17 x18 x19 x20=some res->HL (kx E 88 0) (nd Tryz.f68 2036) (zU 0 (λo=>qCG o.1 o.2.1 o.2.2) res) n (EV a3 a5 a6 v14 x17 x18 x19 x20):=by
 intro n
 induction n with
 |zero=>
  intro x17 x18 x19 x20 res hm;cases hm
 |succ n ih=>
  intro x17 x18 x19 x20 res hm;refine qM ?_;refine q_sq ?_;refine s_va 7 [(49,vb (decide (x19<v14.1.length)))] ?_;refine q_cm hm (λb21 hm=>?_) (λb21 hm=>?_)
  ·refine q_sk ?_;refine q_sq ?_;refine q_bk 1 ?_;refine s_vv [] 7 [49] [(54,vc (tl e_i64 default a3.Lengths)),(55,vi ((a3.Lengths.length:Nat):Int)),(56,vi 0)] ?_;obtain⟨o40,h41,hm⟩:=qA hm;refine zN (nd Tryz.f68 130340) 2 (by kernel_rfl) FUEL (λo=>qCk a3 a5 a6 v14 x19 o.1 o.2.1 o.2.2) o40 (q_hl (EQ a3 a5 a6 v14 x19 x17 x18 0 x20) (qI3 E a3 a5 a6 v14 x19 FUEL x17 x18 0 x20 o40 h41)) ?_;refine q_vv [] 7 [20] [(20,vi (w64 (x19+a5)))] ?_;exact q_hl (EV a3 a5 a6 v14 o40.1 o40.2.1 (w64 (x19+a5)) o40.2.2) (ih o40.1 o40.2.1 (w64 (x19+a5)) o40.2.2 _ hm)
  ·refine q_ex 0 ?_;obtain rfl:=oi hm;exact wH (by kernel_rfl) (by kernel_rfl)
theorem qE0 (a1:List qB) (a2:List Defect) (a3:Product) (a4:Rect) (a5:Int) (a6:Int) (r:Span×Int×Bool) (hm:LJ a1 a2 a3 a4 a5 a6=some r):CtX Tryz.prog globs 68 0 0 [.one (tl qI default a1),.one (tl qJ default a2),.agg (qC a3),.agg (qE a4),.one (ci a5),.one (ci a6)] [] (qPR r) (qPp r):=by
 unfold LJ at hm;refine q_E Tryz.f68 88 λE=>?_;refine s_vn [] 0 ⟨[(0,vc (tl qI default a1)),(1,vc (tl qJ default a2)),(4,vi a5),(5,vi a6),(8,vp 0 0),(9,vp 1 0),(12,vp 2 0)],[(0,bx 54 (qC a3)),(1,bx 33 (qE a4)),(2,bx 31 [ci 0,ci 0])]⟩ ?_;refine q_sq ?_;refine q_jn (qJE a1 a2 a3 a4 a5 a6) (λp=>HS a1 a2 a3 a4 a5 a6 p=some r) ?_ ?_
 ·rintro x12 hm;refine q_cm hm (λb13 hm=>?_) (λb13 hm=>?_)
  ·refine s_vu [] 3 [0,1,4,5,8,9,33] [(13,vi 0),(14,vb false)] [0,1] [] ?_;obtain rfl:=oi hm;refine q_rt ?_;exact q_rm
  ·refine q_sk ?_;obtain⟨v14,h15,hm⟩:=qA hm
   refine s_vu [qc 4 [36,37,38,39] 3 (qNE a1 a2 a3 a4 v14 h15)] 3 [0,1,9,33] [(15,vp 5 0),(16,vb v14.2)] [1] [(3,ro 0 249 3 v14.1.zones.length (rf qR v14.1.zones)),(4,ro 0 212 7 v14.1.defects.length (rf qJ v14.1.defects)),(5,bx 186 [cs v14.1.product.Name,ci v14.1.product.Thick,ci v14.1.product.Width,ci v14.1.product.Allow,ci v14.1.product.Wane,tl e_i64 default v14.1.product.Lengths,tl e_i64 default v14.1.product.Prices,ci v14.1.rect.X.A,ci v14.1.rect.X.B,ci v14.1.rect.Y.A,ci v14.1.rect.Y.B,ci v14.1.length,.own 3 0 3 v14.1.zones.length,.own 4 0 7 v14.1.defects.length])] ?_;refine q_sq ?_
   refine s_vv [] 6 [16] [(44,vb (!v14.2))] ?_;refine q_cm hm (λb16 hm=>?_) (λb16 hm=>?_)
   ·refine s_vu [] 6 [4,5,8,15,44] [(13,vi 0),(14,vb false)] [0,3,4,5] [] ?_;obtain rfl:=oi hm;refine q_rt ?_;exact q_rm
   ·refine q_sk ?_;refine s_vu [] 6 [44] [(17,vp 6 0)] [] [(6,bx 31 [ci 0,ci 0])] ?_;refine s_va 7 [(18,vi 0),(19,vb false)] ?_;refine q_sq ?_;refine s_va 7 [(20,vi 0)] ?_;obtain⟨o45,h46,hm⟩:=qA hm;refine zN (nd Tryz.f68 2036) 0 (by kernel_rfl) FUEL (λo=>qCG o.1 o.2.1 o.2.2) o45 (q_hl (EV a3 a5 a6 v14 0 false 0 (Span.mk 0 0)) (qIo E a3 a5 a6 v14 FUEL 0 false 0 (Span.mk 0 0) o45 h46)) ?_;refine s_vn [] 7 ⟨[(12,vp 2 0),(13,vi o45.1),(14,vb o45.2.1)],[(2,bx 31 (e_Span o45.2.2))]⟩ ?_;obtain rfl:=oi hm;refine q_rt ?_;exact q_rm
 ·obtain⟨v7,h8,hm⟩:=qA hm;rcases bif_c hm with⟨b9,hm⟩|⟨b9,hm⟩
  ·refine q_vv [qc 1 [26] 3 (AJ a5 v7 h8),qf 3 b9] 3 [] [(33,vb true)] ?_;exact q_J (true) hm
  ·obtain⟨v10,h11,hm⟩:=qA hm;refine q_vv [qc 1 [26] 3 (AJ a5 v7 h8),qf 3 b9,qk 5 [29,30] 3 ⟨[(29,vb false),(30,vi a6)],[]⟩ (qCP a6 v10 h11)] 3 [] [(33,vb (!v10))] ?_;exact q_J (!v10) hm
def qKc (r:(List Span)):V:=vo 0 0 2 r.length
def qKP (r:(List Span)):List (Nat×(Nat×O)):=[(0,ro 0 31 2 r.length (rf e_Span r))]
def NP (a1:List qB) (l3:List Span) (l3n:Nat) (x4:Int) (x5:Int):St:=
 ⟨[(3,vo 0 0 2 l3n),(4,vi x4),(10,vc (tl qI default a1)),(11,vi ((a1.length:Nat):Int)),(12,vi x5)],[(0,ro 0 31 2 l3n (rf e_Span l3))]⟩
def qAg (l9:List Span):St:=
 ⟨[(3,vo 0 0 2 l9.length)],[(0,ro 0 31 2 l9.length (rf e_Span l9))]⟩
theorem qFa (E:Env 0) (a1:List qB):∀(n:Nat) (l3:List Span) (l3n:Nat) (x4:Int) (x5:Int) (res:(List Span)),l3.length=l3n->JI a1 n l3 x4 x5=some res->HL (kx E 32 0) (nd Tryz.f167 244) (zU 0 (λo=>qAg o) res) n (NP a1 l3 l3n x4 x5):=by
 intro n
 induction n with
 |zero=>
  intro l3 l3n x4 x5 res hl0 hm;cases hm
 |succ n ih=>
  intro l3 l3n x4 x5 res hl0 hm;subst hl0;refine qM ?_;refine s_va 1 [(13,vb (decide (x5<((a1.length:Nat):Int))))] ?_;refine q_sq ?_;refine q_cm hm (λb6 hm=>?_) (λb6 hm=>?_)
  ·refine q_sk ?_;refine q_sq ?_;refine q_bk 1 ?_;obtain⟨g7,hm⟩:=qG hm;refine s_vu [qi 1 g7] 1 [13] [(5,vi x5),(6,vp 1 0)] [] [(1,bx 72 [ci ((a1.getD x5.toNat default).Len),ci (((a1.getD x5.toNat default).Sec).Low),tl e_Span default (((a1.getD x5.toNat default).Sec).Rows)])] ?_;obtain⟨g8,hm⟩:=qG hm
   refine s_vu [qi 8 g8,qd 9 (drw 0 0 (rf e_Span (l3.set x5.toNat (Span.mk x4 (w64 (x4+((a1.getD x5.toNat default).Len))))))) (stP e_Span default (Span.mk x4 (w64 (x4+((a1.getD x5.toNat default).Len)))) l3 l3.length x5.toNat 0 [ci x4,ci (w64 (x4+((a1.getD x5.toNat default).Len)))] rfl (toNat_lt (inb_of g8)) rfl)] 2 [5] [] [0] [(0,ro 0 31 2 l3.length (rf e_Span (l3.set x5.toNat (Span.mk x4 (w64 (x4+((a1.getD x5.toNat default).Len)))))))] ?_;refine q_vu [] 2 [4,6] [(4,vi (w64 (x4+((a1.getD x5.toNat default).Len))))] [1] [] ?_;refine q_vv [] 2 [12] [(12,vi (w64 (x5+1)))] ?_
   exact q_hl (NP a1 (l3.set x5.toNat (Span.mk x4 (w64 (x4+((a1.getD x5.toNat default).Len))))) l3.length (w64 (x4+((a1.getD x5.toNat default).Len))) (w64 (x5+1))) (ih (l3.set x5.toNat (Span.mk x4 (w64 (x4+((a1.getD x5.toNat default).Len))))) l3.length (w64 (x4+((a1.getD x5.toNat default).Len))) (w64 (x5+1)) _ (len_set rfl) hm)
  ·refine q_ex 0 ?_;obtain rfl:=oi hm;exact wH (by kernel_rfl) (by kernel_rfl)
theorem qJk (a1:List qB) (r:(List Span)) (hm:DP a1=some r):CtX Tryz.prog globs 167 0 0 [.one (tl qI default a1)] [] (qKc r) (qKP r):=by
 unfold DP at hm;refine q_E Tryz.f167 32 λE=>?_;refine s_vn [] 0 ⟨[(0,vc (tl qI default a1))],[]⟩ ?_;obtain⟨g2,hm⟩:=qG hm;refine s_vu [qd 2 (drw 0 0 (rf e_Span (List.replicate (((a1.length:Nat):Int).toNat) (Span.mk 0 0)))) (mkP e_Span default (Span.mk 0 0) ((a1.length:Nat):Int) 16 [ci 0,ci 0] (qG5 g2) rfl)] 0 [] [(3,vo 0 0 2 (((a1.length:Nat):Int).toNat))] [] [(0,ro 0 31 2 (((a1.length:Nat):Int).toNat) (rf e_Span (List.replicate (((a1.length:Nat):Int).toNat) (Span.mk 0 0))))] ?_;refine s_va 1 [(4,vi 0)] ?_;refine q_sq ?_
 refine s_vv [] 1 [0] [(10,vc (tl qI default a1)),(11,vi ((a1.length:Nat):Int)),(12,vi 0)] ?_;obtain⟨o10,h11,hm⟩:=qA hm;refine zN (nd Tryz.f167 244) 0 (by kernel_rfl) FUEL (λo=>qAg o) o10 (q_hl (NP a1 (List.replicate (((a1.length:Nat):Int).toNat) (Span.mk 0 0)) (((a1.length:Nat):Int).toNat) 0 0) (qFa E a1 FUEL (List.replicate (((a1.length:Nat):Int).toNat) (Span.mk 0 0)) (((a1.length:Nat):Int).toNat) 0 0 o10 qGX h11)) ?_;refine s_vv [] 1 [3] [(2,vo 0 0 2 o10.length)] ?_;obtain rfl:=oi hm;refine q_rt ?_;exact q_rm
def qL3 (r:Int):V:=vi r
def qLw (r:Int):List (Nat×(Nat×O)):=[]
def qHO (a2:Box) (v3:(List qB)) (v5:(List Span)) (x8:Int) (x19:Int):St:=
 ⟨[(0,vc (tl qI default v3)),(3,vp 0 0),(5,vi x19),(12,vo 1 0 2 v5.length),(13,vi ((v5.length:Nat):Int)),(14,vi x8)],[(0,bx 128 (ZV a2)),(1,ro 0 31 2 v5.length (rf e_Span v5))]⟩
def MX (a2:Box) (v3:(List qB)) (v5:(List Span)) (x7:Int) (x8:Int):St:=
 ⟨[(0,vc (tl qI default v3)),(3,vp 0 0),(5,vi x7),(12,vo 1 0 2 v5.length),(13,vi ((v5.length:Nat):Int)),(14,vi x8)],[(0,bx 128 (ZV a2)),(1,ro 0 31 2 v5.length (rf e_Span v5))]⟩
def qA6 (x20:Int):St:=
 ⟨[(5,vi x20)],[]⟩
theorem qFv (E:Env 0) (a2:Box) (v3:(List qB)) (v5:(List Span)):∀(n:Nat) (x7:Int) (x8:Int) (res:Int),QD a2 v3 v5 n x7 x8=some res->HL (kx E 43 0) (nd Tryz.f121 244) (zU 0 (λo=>qA6 o) res) n (MX a2 v3 v5 x7 x8):=by
 intro n
 induction n with
 |zero=>
  intro x7 x8 res hm;cases hm
 |succ n ih=>
  intro x7 x8 res hm;refine qM ?_;refine s_va 2 [(15,vb (decide (x8<((v5.length:Nat):Int))))] ?_;refine q_sq ?_;refine q_cm hm (λb9 hm=>?_) (λb9 hm=>?_)
  ·refine q_sk ?_;refine q_jn (qHO a2 v3 v5 x8) (λp=>BW x8 (QD a2 v3 v5 n) p=some res) ?_ ?_
   ·rintro x19 hm;refine q_vv [] 3 [14] [(14,vi (w64 (x8+1)))] ?_;exact q_hl (MX a2 v3 v5 x19 (w64 (x8+1))) (ih x19 (w64 (x8+1)) _ hm)
   ·refine q_bk 1 ?_;obtain⟨g10,hm⟩:=qG hm;refine s_vu [qi 1 g10,qd 2 dN (toNat_lt (inb_of g10))] 2 [15] [(6,vi x8),(7,vp 2 0)] [] [(2,bx 31 [ci ((v5.getD x8.toNat default).A),ci ((v5.getD x8.toNat default).B)])] ?_;obtain⟨v11,h12,hm⟩:=qA hm;obtain⟨v13,h14,hm⟩:=qA hm;refine s_vu [qc 3 [19,21] 3 (TZ (v5.getD x8.toNat default) a2.Z v11 h12),qc 4 [22] 3 (BA v11 v13 h14)] 3 [7] [(8,vi v13)] [2] [] ?_;refine s_va 3 [(25,vb (decide (v13>0)))] ?_;refine q_cm hm (λb15 hm=>?_) (λb15 hm=>?_)
    ·obtain⟨g16,hm⟩:=qG hm;obtain⟨v17,h18,hm⟩:=qA hm;refine q_du [qi 4 g16,qc 12 [32,37] 3 (qAU ((v3.getD x8.toNat default).Sec) (Rect.mk a2.X a2.Y) v17 h18)] [0,0,0,0,12,28,60,0,128,0,512,1920,4092,8190,16383,32767] 3 [5,6,8,25] [(5,vi (w64 (x7+(w64 (v13*v17)))))] [] [] ?_;exact q_J (w64 (x7+(w64 (v13*v17)))) hm
    ·refine q_sk ?_;exact q_J (x7) hm
  ·refine q_ex 0 ?_;obtain rfl:=oi hm;exact wH (by kernel_rfl) (by kernel_rfl)
theorem YJ (a1:List qB) (a2:Box) (r:Int) (hm:QJ a1 a2=some r):CtX Tryz.prog globs 121 0 0 [.one (tl qI default a1),.agg (ZV a2)] [] (qL3 r) (qLw r):=by
 unfold QJ at hm;refine q_E Tryz.f121 43 λE=>?_;refine s_vn [] 0 ⟨[(0,vc (tl qI default a1)),(3,vp 0 0)],[(0,bx 128 (ZV a2))]⟩ ?_;obtain⟨v3,h4,hm⟩:=qA hm;refine s_vv [qc 1 [9] 1 (LX a1 v3 h4)] 1 [0] [(0,vc (tl qI default v3))] ?_;refine s_va 1 [(5,vi 0)] ?_;refine q_sq ?_;obtain⟨v5,h6,hm⟩:=qA hm;refine s_vu [qc 1 [11] 1 (qJk v3 v5 h6)] 1 [] [(12,vo 1 0 2 v5.length),(13,vi ((v5.length:Nat):Int)),(14,vi 0)] [] [(1,ro 0 31 2 v5.length (rf e_Span v5))] ?_;obtain⟨o21,h22,hm⟩:=qA hm
 refine zN (nd Tryz.f121 244) 0 (by kernel_rfl) FUEL (λo=>qA6 o) o21 (q_hl (MX a2 v3 v5 0 0) (qFv E a2 v3 v5 FUEL 0 0 o21 h22)) ?_;refine s_vn [] 2 ⟨[(4,vi o21)],[]⟩ ?_;obtain rfl:=oi hm;refine q_rt ?_;exact q_rm
end Saw
end Go.SL

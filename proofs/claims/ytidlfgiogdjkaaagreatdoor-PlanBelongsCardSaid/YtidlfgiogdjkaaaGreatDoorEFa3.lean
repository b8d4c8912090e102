import Derived.Test.YtidlfgiogdjkaaaGreatDoorEBase
import Derived.Test.YtidlfgiogdjkaaaGreatDoorEFa2
import Derived.Test.YtidlfgiogdjkaaaGreatDoorEFa1
set_option linter.unusedVariables false
set_option linter.unusedSimpArgs false
namespace Go.SL
namespace Saw
open Go.Proofs
set_option maxHeartbeats 4000000
set_option maxRecDepth 100000
def PM (r:Int×Bool):V:= .tup [.one (ci r.1),.one (cb r.2)]
def QJ (r:Int×Bool):List (Nat×(Nat×O)):=[]
theorem qFv (r:Int×Bool):jW (QJ r):=by
 intro i k o h;unfold QJ at h;cases h
def HE (a1:Worth_view) (a3:Int) (v14:Box) (x17:Int) (x24:Int):St:=
 ⟨[(2,vi a3),(8,vi x24),(10,vp 2 0),(45,vc (tl qH default a1.defects)),(46,vi ((a1.defects.length:Nat):Int)),(47,vi x17)],[(2,bx 128 (ZF v14))]⟩
def TB (a1:Worth_view) (a3:Int) (v14:Box) (x16:Int) (x17:Int):St:=
 ⟨[(2,vi a3),(8,vi x16),(10,vp 2 0),(45,vc (tl qH default a1.defects)),(46,vi ((a1.defects.length:Nat):Int)),(47,vi x17)],[(2,bx 128 (ZF v14))]⟩
def HA (x25:Int):St:=
 ⟨[(8,vi x25)],[]⟩
def MW (a1:Worth_view) (a2:Span) (a3:Int) (v7:Int×Bool) (x12:Bool):St:=
 ⟨[(2,vi a3),(3,vp 0 0),(4,vp 1 0),(8,vi v7.1),(40,vb x12)],[(0,bx 186 (DP a1)),(1,bx 31 (e_Span a2))]⟩
theorem qC7 (E:Env 0) (a1:Worth_view) (a3:Int) (v14:Box):∀(n:Nat) (x16:Int) (x17:Int) (res:(Int×Bool)⊕Int),zK a1 a3 v14 n x16 x17=some res->HL (kx E 64 0) (nd Tryz.f127 1012) (wY 0 (λo=>HA o) (λv st=>RetQ Tryz.prog Tryz.f127 (PM v) (QJ v) .ret st) res) n (TB a1 a3 v14 x16 x17):=by
 intro n
 induction n with
 |zero=>
  intro x16 x17 res hm;cases hm
 |succ n ih=>
  intro x16 x17 res hm;refine qM ?_;refine s_vu [] 3 [] [(48,vb (decide (x17<((a1.defects.length:Nat):Int))))] [] [] ?_;refine q_sq ?_;refine q_cm hm (λb18 hm=>?_) (λb18 hm=>?_)
  ·refine q_sk ?_;refine q_jn (ι:=Int) (λp=>HE a1 a3 v14 x17 p) (λp=>XW x17 (zK a1 a3 v14 n) p=some res) ?_ ?_
   ·rintro x24 hm;show H _ (HE a1 a3 v14 x17 x24) _ _;refine q_vu [] 4 [47] [(47,vi (w64 (x17+1)))] [] [] ?_;exact q_hl (TB a1 a3 v14 x24 (w64 (x17+1))) (ih x24 (w64 (x17+1)) _ hm)
   ·refine q_bk 1 ?_;obtain⟨g19,hm⟩:=qI hm;refine s_vu [qd 0 (Dir.none) (inb_of g19)] 3 [48] [(12,vp 3 0)] [] [(3,bx 212 [ci ((a1.defects.getD x17.toNat default).Kind),ci ((((a1.defects.getD x17.toNat default).Box).X).A),ci ((((a1.defects.getD x17.toNat default).Box).X).B),ci ((((a1.defects.getD x17.toNat default).Box).Y).A),ci ((((a1.defects.getD x17.toNat default).Box).Y).B),ci ((((a1.defects.getD x17.toNat default).Box).Z).A),ci ((((a1.defects.getD x17.toNat default).Box).Z).B)])] ?_;refine q_sq ?_;obtain⟨v20,h21,hm⟩:=qB hm
    refine s_vu [qc 2 [51,52] 4 (qAz (a1.defects.getD x17.toNat default) v14 v20 h21)] 4 [] [(54,vb (!v20))] [] [] ?_;refine q_cm hm (λb22 hm=>?_) (λb22 hm=>?_)
    ·refine q_ex 1 ?_;exact q_J (x16) hm
    ·refine q_sk ?_;refine q_sq ?_;refine s_vu [] 4 [12,54] [(57,vb (((a1.defects.getD x17.toNat default).Kind)==3))] [3] [] ?_;refine q_cm hm (λb23 hm=>?_) (λb23 hm=>?_)
     ·refine s_vn [] 4 ⟨[(6,vi 0),(7,vb false)],[]⟩ ?_;obtain rfl:=oi hm;refine q_rt ?_;refine zH (0,false) ?_;exact q_rm
     ·refine q_sk ?_;refine q_vu [] 4 [8,57] [(8,vi (w64 (x16-a3)))] [] [] ?_;exact q_J (w64 (x16-a3)) hm
  ·refine q_ex 0 ?_;obtain rfl:=oi hm;exact jI x16 (by kernel_rfl) (by kernel_rfl)
theorem worth_view_worth_ok (a1:Worth_view) (a2:Span) (a3:Int) (r:Int×Bool) (hm:WB a1 a2 a3=some r):CtX Tryz.prog globs 127 0 0 [.agg (DP a1),.agg (e_Span a2),.one (ci a3)] [] (PM r) (QJ r):=by
 unfold WB at hm;refine q_E Tryz.f127 64 λE=>?_;refine s_vn [] 0 ⟨[(2,vi a3),(3,vp 0 0),(4,vp 1 0)],[(0,bx 186 (DP a1)),(1,bx 31 (e_Span a2))]⟩ ?_;refine q_sq ?_;obtain⟨v4,h5,hm⟩:=qB hm;refine s_vu [qc 3 [13,15] 2 (qGj a2 a1.length v4 h5)] 2 [] [(17,vb (!v4))] [] [] ?_;refine q_cm hm (λb6 hm=>?_) (λb6 hm=>?_)
 ·refine s_vn [] 2 ⟨[(6,vi 0),(7,vb false)],[]⟩ ?_;obtain rfl:=oi hm;refine q_rt ?_;exact q_rm
 ·refine q_sk ?_;obtain⟨v7,h8,hm⟩:=qB hm;refine s_vu [qc 7 [20,25] 2 (qHi a1.product (w64 (a2.B-a2.A)) v7 h8)] 2 [17] [(8,vi v7.1),(9,vb v7.2)] [] [] ?_;refine q_sq ?_;refine q_jn (ι:=Bool) (λp=>MW a1 a2 a3 v7 p) (λp=>XX a1 a2 a3 v7 p=some r) ?_ ?_
  ·rintro x12 hm;show H _ (MW a1 a2 a3 v7 x12) _ _;refine q_cm hm (λb13 hm=>?_) (λb13 hm=>?_)
   ·refine s_vn [] 2 ⟨[(6,vi 0),(7,vb false)],[]⟩ ?_;obtain rfl:=oi hm;refine q_rt ?_;exact q_rm
   ·refine q_sk ?_;obtain⟨v14,h15,hm⟩:=qB hm;refine s_vu [qc 2 [41,42] 2 (qAE a1 a2 v14 h15)] 2 [4,40] [(10,vp 2 0)] [1] [(2,bx 128 (ZF v14))] ?_;refine q_sq ?_;refine s_vu [] 3 [3] [(45,vc (tl qH default a1.defects)),(46,vi ((a1.defects.length:Nat):Int)),(47,vi 0)] [0] [] ?_;obtain⟨u28,h27,hm⟩:=qB hm;refine zP (nd Tryz.f127 1012) 0 (by kernel_rfl) FUEL (λo=>HA o) (λv st=>RetQ Tryz.prog Tryz.f127 (PM v) (QJ v) .ret st) u28 (q_hl (TB a1 a3 v14 v7.1 0) (qC7 E a1 a3 v14 FUEL v7.1 0 u28 h27)) ?_ ?_
    ·rintro v29 rfl st hr;obtain rfl:=oi hm;exact hr
    ·rintro o26 rfl;replace hm:_=some r:=hm;refine s_vn [] 3 ⟨[(6,vi (imax o26 0)),(7,vb true)],[]⟩ ?_;obtain rfl:=oi hm;refine q_rt ?_;exact q_rm
  ·rcases bif_c hm with⟨b9,hm⟩|⟨b9,hm⟩
   ·refine q_du [qf 2 b9] [0,1,3,7,15,7,63,7,135,391,1023,2047] 2 [9] [(40,vb true)] [] [] ?_;exact q_J (true) hm
   ·obtain⟨v10,h11,hm⟩:=qB hm;refine q_du [qf 2 b9,qk 6 [31,33,34] 2 ⟨[(31,vb false),(33,vc (tl qL default a1.zones)),(34,va (e_Span a2))],[]⟩ (qJz a1.zones a2 v10 h11)] [0,1,3,7,15,7,63,7,135,391,1023,2047] 2 [9] [(40,vb (decide (v10>a1.product.Wane)))] [] [] ?_;exact q_J (decide (v10>a1.product.Wane)) hm
def qGp (r:Span):V:=va (e_Span r)
def qGo (r:Span):List (Nat×(Nat×O)):=[]
theorem CA (a1:Int) (a2:Int) (r:Span) (hm:JN a1 a2=some r):CtX Tryz.prog globs 144 0 0 [.one (ci a1),.one (ci a2)] [] (qGp r) (qGo r):=by
 unfold JN at hm;refine q_E Tryz.f144 10 λE=>?_;refine s_vn [] 0 ⟨[(0,vi a1),(1,vi a2),(4,vp 0 0)],[(0,bx 31 [ci 0,ci 0])]⟩ ?_;refine s_vu [] 1 [0,1] [] [0] [(0,bx 31 [ci (w64 (10*a1)),ci (w64 (10*a2))])] ?_;obtain rfl:=oi hm;refine q_rt ?_;exact q_rm
def qNW (r:Int):V:=vc (.val (.int .u64 r))
def qNX (r:Int):List (Nat×(Nat×O)):=[]
theorem qMW (a1:Span) (r:Int) (hm:qCa a1=some r):CtX Tryz.prog globs 119 0 0 [.agg (e_Span a1)] [] (qNW r) (qNX r):=by
 unfold qCa at hm;refine q_E Tryz.f119 15 λE=>?_;refine s_vn [] 0 ⟨[(1,vp 0 0)],[(0,bx 31 (e_Span a1))]⟩ ?_;refine q_sq ?_;refine s_vu [] 1 [] [(7,vb (decide (a1.A≥a1.B)))] [] [] ?_;refine q_cm hm (λb2 hm=>?_) (λb2 hm=>?_)
 ·refine s_vn [] 1 ⟨[(2,vc (.val (.int .u64 0)))],[]⟩ ?_;obtain rfl:=oi hm;refine q_rt ?_;exact q_rm
 ·refine q_sk ?_;refine s_vn [] 1 ⟨[(2,vc (.val (.int .u64 (IntKind.u64.wrap ((IntKind.u64.wrap (a1.B))-(IntKind.u64.wrap (a1.A)))))))],[]⟩ ?_;obtain rfl:=oi hm;refine q_rt ?_;exact q_rm
def qKi (r:Int):V:=vi r
def qKg (r:Int):List (Nat×(Nat×O)):=[]
theorem qHV (a1:Int) (r:Int) (hm:SG a1=some r):CtX Tryz.prog globs 118 0 0 [.one (.val (.int .u64 a1))] [] (qKi r) (qKg r):=by
 unfold SG at hm;refine q_E Tryz.f118 6 λE=>?_;refine s_vn [] 0 ⟨[(0,vc (.val (.int .u64 a1)))],[]⟩ ?_;refine s_vn [] 0 ⟨[(2,vi (w64 (imin a1 9223372036854775807)))],[]⟩ ?_;obtain rfl:=oi hm;refine q_rt ?_;exact q_rm
def qPq (r:Int):V:=vi r
def qPA (r:Int):List (Nat×(Nat×O)):=[]
theorem VM (a1:Span) (r:Int) (hm:YD a1=some r):CtX Tryz.prog globs 63 0 0 [.agg (e_Span a1)] [] (qPq r) (qPA r):=by
 unfold YD at hm;refine q_E Tryz.f63 6 λE=>?_;refine s_vn [] 0 ⟨[(1,vp 0 0)],[(0,bx 31 (e_Span a1))]⟩ ?_;obtain⟨v2,h3,hm⟩:=qB hm;obtain⟨v4,h5,hm⟩:=qB hm;refine s_vn [qc 1 [3] 1 (qMW a1 v2 h3),qc 2 [4] 1 (qHV v2 v4 h5)] 1 ⟨[(2,vi v4)],[]⟩ ?_;obtain rfl:=oi hm;refine q_rt ?_;exact q_rm
def qIZ (r:qJ):V:=va (zQ r)
def qIg (r:qJ):List (Nat×(Nat×O)):=[]
theorem MJ (a1:qJ) (r:qJ) (hm:JY a1=some r):CtX Tryz.prog globs 128 0 0 [.agg (zQ a1)] [] (qIZ r) (qIg r):=by
 unfold JY at hm;refine q_E Tryz.f128 8 λE=>?_;refine s_vn [] 0 ⟨[(1,vp 0 0),(2,vp 1 0)],[(0,bx 70 (zQ a1)),(1,bx 70 [ci 0,.emp])]⟩ ?_;refine q_sq ?_;obtain⟨v2,h3,hm⟩:=qB hm;refine s_vu [qc 1 [3] 2 (qBK a1 v2 h3)] 2 [] [(5,vb (v2 !=0))] [] [] ?_;refine q_cm hm (λb4 hm=>?_) (λb4 hm=>?_)
 ·refine s_vu [] 2 [1,5] [] [0] [] ?_;refine q_fn [.ownB 1 1 2 31 2 (rf e_Span ([]:List Span))] ⟨[(2,vp 1 0)],[(1,bx 70 [ci 0,.own 2 0 2 0]),(2,ro 0 31 2 0 (rf e_Span ([]:List Span)))]⟩ o0 ?_;refine q_fn [.len 2 (([]:List Span).length),.frz 2] ⟨[(2,vp 1 0)],[(1,bx 70 [ci 0,tl e_Span default ([]:List Span)])]⟩ (o1 (And.intro (And.intro (show 0=([]:List Span).length from rfl) (show 0=([]:List Span).length from rfl)) (Nat.le_refl (([]:List Span).length)))) ?_;obtain rfl:=oi hm;refine q_rt ?_;exact q_rm
 ·refine q_sk ?_;refine s_vn [] 2 ⟨[(2,vp 1 0)],[(1,bx 70 (zQ a1))]⟩ ?_;obtain rfl:=oi hm;refine q_rt ?_;exact q_rm
def qHa (r:Int):V:=vi r
def qHL (r:Int):List (Nat×(Nat×O)):=[]
def GA (a2:Rect) (v3:qJ) (x5:Int) (x6:Int):St:=
 ⟨[(2,vp 0 0),(3,vp 1 0),(5,vi x5),(12,vc (tl e_Span default v3.Rows)),(13,vi ((v3.Rows.length:Nat):Int)),(14,vi x6)],[(0,bx 70 (zQ v3)),(1,bx 33 (qE a2))]⟩
def EK (x19:Int):St:=
 ⟨[(5,vi x19)],[]⟩
theorem qD0 (E:Env 0) (a2:Rect) (v3:qJ):∀(n:Nat) (x5:Int) (x6:Int) (res:Int),ZN a2 v3 n x5 x6=some res->HL (kx E 44 0) (nd Tryz.f169 244) (zS 0 (λo=>EK o) res) n (GA a2 v3 x5 x6):=by
 intro n
 induction n with
 |zero=>
  intro x5 x6 res hm;cases hm
 |succ n ih=>
  intro x5 x6 res hm;refine qM ?_;refine s_vu [] 2 [] [(15,vb (decide (x6<((v3.Rows.length:Nat):Int))))] [] [] ?_;refine q_sq ?_;refine q_cm hm (λb7 hm=>?_) (λb7 hm=>?_)
  ·refine q_sk ?_;refine q_sq ?_;refine q_bk 1 ?_;obtain⟨g8,hm⟩:=qI hm;refine s_vu [qd 1 (Dir.none) (inb_of g8)] 2 [15] [(6,vi x6),(7,vp 2 0)] [] [(2,bx 31 [ci ((v3.Rows.getD x6.toNat default).A),ci ((v3.Rows.getD x6.toNat default).B)])] ?_;obtain⟨v9,h10,hm⟩:=qB hm;refine s_vu [qc 9 [22,27] 3 (CA (w64 (v3.Low+x6)) (w64 ((w64 (v3.Low+x6))+1)) v9 h10)] 3 [6] [(8,vp 3 0)] [] [(3,bx 31 (e_Span v9))] ?_;obtain⟨v11,h12,hm⟩:=qB hm;obtain⟨v13,h14,hm⟩:=qB hm;obtain⟨v15,h16,hm⟩:=qB hm;obtain⟨v17,h18,hm⟩:=qB hm
   refine q_du [qc 4 [30,32] 4 (TN (v3.Rows.getD x6.toNat default) a2.X v11 h12),qc 5 [33] 4 (VM v11 v13 h14),qc 9 [35,37] 4 (TN v9 a2.Y v15 h16),qc 10 [38] 4 (VM v15 v17 h18)] [0,0,0,4,14,30,0,0,128,510,1022,2046,4095,8191] 4 [5,7,8] [(5,vi (w64 (x5+(w64 (v13*v17)))))] [2,3] [] ?_;refine q_vu [] 4 [14] [(14,vi (w64 (x6+1)))] [] [] ?_;exact q_hl (GA a2 v3 (w64 (x5+(w64 (v13*v17)))) (w64 (x6+1))) (ih (w64 (x5+(w64 (v13*v17)))) (w64 (x6+1)) _ hm)
  ·refine q_ex 0 ?_;obtain rfl:=oi hm;exact wO (by kernel_rfl) (by kernel_rfl)
theorem qAt (a1:qJ) (a2:Rect) (r:Int) (hm:XI a1 a2=some r):CtX Tryz.prog globs 169 0 0 [.agg (zQ a1),.agg (qE a2)] [] (qHa r) (qHL r):=by
 unfold XI at hm;refine q_E Tryz.f169 44 λE=>?_;refine s_vn [] 0 ⟨[(2,vp 0 0),(3,vp 1 0)],[(0,bx 70 (zQ a1)),(1,bx 33 (qE a2))]⟩ ?_;obtain⟨v3,h4,hm⟩:=qB hm;refine s_vu [qc 1 [9] 2 (MJ a1 v3 h4)] 2 [] [] [0] [(0,bx 70 (zQ v3))] ?_;refine s_vu [] 2 [] [(5,vi 0)] [] [] ?_;refine q_sq ?_;refine s_vu [] 2 [] [(12,vc (tl e_Span default v3.Rows)),(13,vi ((v3.Rows.length:Nat):Int)),(14,vi 0)] [] [] ?_;obtain⟨o20,h21,hm⟩:=qB hm;refine zL (nd Tryz.f169 244) 0 (by kernel_rfl) FUEL (λo=>EK o) o20 (q_hl (GA a2 v3 0 0) (qD0 E a2 v3 FUEL 0 0 o20 h21)) ?_;refine s_vn [] 2 ⟨[(4,vi o20)],[]⟩ ?_
 obtain rfl:=oi hm;refine q_rt ?_;exact q_rm
def qLg (r:(List Worth_zone)):V:=vo 0 0 3 r.length
def qLq (r:(List Worth_zone)):List (Nat×(Nat×O)):=[(0,ro 0 249 3 r.length (rf qL r))]
def MG (a1:List qA) (a2:Rect) (l3:List Worth_zone) (l3n:Nat) (x4:Int) (x5:Int):St:=
 ⟨[(3,vp 0 0),(5,vi (w64 ((w64 (a2.X.B-a2.X.A))*(w64 (a2.Y.B-a2.Y.A))))),(6,vo 1 0 3 l3n),(7,vi x4),(27,vc (tl qG default a1)),(28,vi ((a1.length:Nat):Int)),(29,vi x5)],[(0,bx 33 (qE a2)),(1,ro 0 249 3 l3n (rf qL l3))]⟩
def qBN (l12:List Worth_zone):St:=
 ⟨[(6,vo 1 0 3 l12.length)],[(1,ro 0 249 3 l12.length (rf qL l12))]⟩
theorem qGz (E:Env 0) (a1:List qA) (a2:Rect):∀(n:Nat) (l3:List Worth_zone) (l3n:Nat) (x4:Int) (x5:Int) (res:(List Worth_zone)),l3.length=l3n->XH a1 a2 n l3 x4 x5=some res->HL (kx E 61 0) (nd Tryz.f173 500) (zS 0 (λo=>qBN o) res) n (MG a1 a2 l3 l3n x4 x5):=by
 intro n
 induction n with
 |zero=>
  intro l3 l3n x4 x5 res hl0 hm;cases hm
 |succ n ih=>
  intro l3 l3n x4 x5 res hl0 hm;subst hl0;refine qM ?_;refine s_vu [] 2 [] [(30,vb (decide (x5<((a1.length:Nat):Int))))] [] [] ?_;refine q_sq ?_;refine q_cm hm (λb6 hm=>?_) (λb6 hm=>?_)
  ·refine q_sk ?_;refine q_sq ?_;refine q_bk 1 ?_;obtain⟨g7,hm⟩:=qI hm;refine s_vu [qd 0 (Dir.none) (inb_of g7)] 2 [30] [(9,vp 2 0)] [] [(2,bx 72 [ci ((a1.getD x5.toNat default).Len),ci (((a1.getD x5.toNat default).Sec).Low),tl e_Span default (((a1.getD x5.toNat default).Sec).Rows)])] ?_;obtain⟨v8,h9,hm⟩:=qB hm;refine s_vu [qc 4 [35,36] 3 (qAt ((a1.getD x5.toNat default).Sec) a2 v8 h9)] 3 [] [(10,vi (w64 ((w64 ((w64 (a2.X.B-a2.X.A))*(w64 (a2.Y.B-a2.Y.A))))-v8)))] [] [] ?_;refine s_vu [] 3 [7,9] [(11,vp 3 0)] [2] [(3,bx 31 [ci x4,ci (w64 (x4+((a1.getD x5.toNat default).Len)))])] ?_
   obtain⟨g10,hm⟩:=qI hm;obtain⟨g11,hm⟩:=qI hm
   refine s_du [qd 8 (Dir.none) (IL g10),qd 10 (drw 4 0 (rf qL ([(Worth_zone.mk (Span.mk x4 (w64 (x4+((a1.getD x5.toNat default).Len)))) (w64 (Int.tdiv (w64 ((w64 ((w64 (1000*(w64 ((w64 ((w64 (a2.X.B-a2.X.A))*(w64 (a2.Y.B-a2.Y.A))))-v8))))+(w64 ((w64 (a2.X.B-a2.X.A))*(w64 (a2.Y.B-a2.Y.A))))))-1)) (w64 ((w64 (a2.X.B-a2.X.A))*(w64 (a2.Y.B-a2.Y.A)))))))]:List Worth_zone))) (litP qL default 3 (λ_=>rfl) ([(Worth_zone.mk (Span.mk x4 (w64 (x4+((a1.getD x5.toNat default).Len)))) (w64 (Int.tdiv (w64 ((w64 ((w64 (1000*(w64 ((w64 ((w64 (a2.X.B-a2.X.A))*(w64 (a2.Y.B-a2.Y.A))))-v8))))+(w64 ((w64 (a2.X.B-a2.X.A))*(w64 (a2.Y.B-a2.Y.A))))))-1)) (w64 ((w64 (a2.X.B-a2.X.A))*(w64 (a2.Y.B-a2.Y.A)))))))]:List Worth_zone) 1 rfl),qd 11 (drw 1 1 (rf qL (l3++([(Worth_zone.mk (Span.mk x4 (w64 (x4+((a1.getD x5.toNat default).Len)))) (w64 (Int.tdiv (w64 ((w64 ((w64 (1000*(w64 ((w64 ((w64 (a2.X.B-a2.X.A))*(w64 (a2.Y.B-a2.Y.A))))-v8))))+(w64 ((w64 (a2.X.B-a2.X.A))*(w64 (a2.Y.B-a2.Y.A))))))-1)) (w64 ((w64 (a2.X.B-a2.X.A))*(w64 (a2.Y.B-a2.Y.A)))))))]:List Worth_zone)))) (apP qL default l3 ([(Worth_zone.mk (Span.mk x4 (w64 (x4+((a1.getD x5.toNat default).Len)))) (w64 (Int.tdiv (w64 ((w64 ((w64 (1000*(w64 ((w64 ((w64 (a2.X.B-a2.X.A))*(w64 (a2.Y.B-a2.Y.A))))-v8))))+(w64 ((w64 (a2.X.B-a2.X.A))*(w64 (a2.Y.B-a2.Y.A))))))-1)) (w64 ((w64 (a2.X.B-a2.X.A))*(w64 (a2.Y.B-a2.Y.A)))))))]:List Worth_zone) l3.length 1 3 24 (1<=1) (Nat.le_refl _) rfl rfl (λ_=>rfl) (zU g11))] [0,0,0,4,0,28,60,0,252,510,1022,2047,4095] 4 [6,10] [(6,vo 1 1 3 (l3.length+1))] [1] [(1,ro 1 249 3 (l3.length+1) (rf qL (l3++([(Worth_zone.mk (Span.mk x4 (w64 (x4+((a1.getD x5.toNat default).Len)))) (w64 (Int.tdiv (w64 ((w64 ((w64 (1000*(w64 ((w64 ((w64 (a2.X.B-a2.X.A))*(w64 (a2.Y.B-a2.Y.A))))-v8))))+(w64 ((w64 (a2.X.B-a2.X.A))*(w64 (a2.Y.B-a2.Y.A))))))-1)) (w64 ((w64 (a2.X.B-a2.X.A))*(w64 (a2.Y.B-a2.Y.A)))))))]:List Worth_zone))))] ?_
   refine q_vu [] 5 [11] [(7,vi (w64 (x4+((a1.getD x5.toNat default).Len))))] [3] [] ?_;refine q_vu [] 5 [29] [(29,vi (w64 (x5+1)))] [] [] ?_
   exact q_hl (MG a1 a2 (l3++([(Worth_zone.mk (Span.mk x4 (w64 (x4+((a1.getD x5.toNat default).Len)))) (w64 (Int.tdiv (w64 ((w64 ((w64 (1000*(w64 ((w64 ((w64 (a2.X.B-a2.X.A))*(w64 (a2.Y.B-a2.Y.A))))-v8))))+(w64 ((w64 (a2.X.B-a2.X.A))*(w64 (a2.Y.B-a2.Y.A))))))-1)) (w64 ((w64 (a2.X.B-a2.X.A))*(w64 (a2.Y.B-a2.Y.A)))))))]:List Worth_zone)) (l3.length+1) (w64 (x4+((a1.getD x5.toNat default).Len))) (w64 (x5+1))) (ih (l3++([(Worth_zone.mk (Span.mk x4 (w64 (x4+((a1.getD x5.toNat default).Len)))) (w64 (Int.tdiv (w64 ((w64 ((w64 (1000*(w64 ((w64 ((w64 (a2.X.B-a2.X.A))*(w64 (a2.Y.B-a2.Y.A))))-v8))))+(w64 ((w64 (a2.X.B-a2.X.A))*(w64 (a2.Y.B-a2.Y.A))))))-1)) (w64 ((w64 (a2.X.B-a2.X.A))*(w64 (a2.Y.B-a2.Y.A)))))))]:List Worth_zone)) (l3.length+1) (w64 (x4+((a1.getD x5.toNat default).Len))) (w64 (x5+1)) _ (len_app rfl rfl) hm)
  ·refine q_ex 0 ?_;obtain rfl:=oi hm;exact wO (by kernel_rfl) (by kernel_rfl)
theorem qJC (a1:List qA) (a2:Rect) (r:(List Worth_zone)) (hm:LE a1 a2=some r):CtX Tryz.prog globs 173 0 0 [.one (tl qG default a1),.agg (qE a2)] [] (qLg r) (qLq r):=by
 unfold LE at hm;refine q_E Tryz.f173 61 λE=>?_;refine s_vn [] 0 ⟨[(0,vc (tl qG default a1)),(3,vp 0 0)],[(0,bx 33 (qE a2))]⟩ ?_;refine s_vu [] 1 [] [(5,vi (w64 ((w64 (a2.X.B-a2.X.A))*(w64 (a2.Y.B-a2.Y.A)))))] [] [] ?_;refine s_vu [] 1 [] [(6,vc (.emp))] [] [] ?_;refine s_vu [] 1 [] [(7,vi 0)] [] [] ?_;refine q_sq ?_;refine s_vu [] 1 [0] [(27,vc (tl qG default a1)),(28,vi ((a1.length:Nat):Int)),(29,vi 0)] [] [] ?_
 refine q_fn [.own 6 1 249 3 (rf qL ([]:List Worth_zone))] ⟨[(3,vp 0 0),(5,vi (w64 ((w64 (a2.X.B-a2.X.A))*(w64 (a2.Y.B-a2.Y.A))))),(6,vo 1 0 3 0),(7,vi 0),(27,vc (tl qG default a1)),(28,vi ((a1.length:Nat):Int)),(29,vi 0)],[(0,bx 33 (qE a2)),(1,ro 0 249 3 0 (rf qL ([]:List Worth_zone)))]⟩ o0 ?_;obtain⟨o13,h14,hm⟩:=qB hm;refine zL (nd Tryz.f173 500) 0 (by kernel_rfl) FUEL (λo=>qBN o) o13 (q_hl (MG a1 a2 ([]:List Worth_zone) 0 0 0) (qGz E a1 a2 FUEL ([]:List Worth_zone) 0 0 0 o13 rfl h14)) ?_;refine s_vu [] 2 [6] [(4,vo 1 0 3 o13.length)] [] [] ?_;obtain rfl:=oi hm
 refine qW 1 0 (by kernel_rfl) ?_;refine q_rt ?_;exact q_rm
def AQ (r:Bool):V:=vb r
def AP (r:Bool):List (Nat×(Nat×O)):=[]
def qAr (a1:Rect) (x2:Int) (x7:Bool):St:=
 ⟨[(9,va (qE a1)),(10,vi x2),(27,vb x7)],[]⟩
def FL (a1:Rect) (x2:Int):St:=
 ⟨[(9,va (qE a1)),(10,vi x2)],[]⟩
def qAC :St:=
 ⟨[],[]⟩
theorem qFK (E:Env 0) (a1:Rect):∀(n:Nat) (x2:Int) (res:Bool⊕Unit),wD a1 n x2=some res->HL (kx E 29 0) (nd Tryz.f172 52) (wY 0 (λo=>qAC) (λv st=>RetQ Tryz.prog Tryz.f172 (AQ v) (AP v) .ret st) res) n (FL a1 x2):=by
 intro n
 induction n with
 |zero=>
  intro x2 res hm;cases hm
 |succ n ih=>
  intro x2 res hm;refine qM ?_;refine s_vu [] 1 [] [(11,vb (decide (x2<2)))] [] [] ?_;refine q_sq ?_;refine q_cm hm (λb3 hm=>?_) (λb3 hm=>?_)
  ·refine q_sk ?_;refine q_sq ?_;refine q_bk 1 ?_;obtain⟨g4,hm⟩:=qI hm;refine s_vu [qd 0 (Dir.none) (inb_of g4)] 1 [11] [(4,vp 1 0)] [] [(1,bx 31 [ci (([a1.X.A,a1.X.B,a1.Y.A,a1.Y.B]:List Int).getD (x2.toNat*2+0) 0),ci (([a1.X.A,a1.X.B,a1.Y.A,a1.Y.B]:List Int).getD (x2.toNat*2+1) 0)])] ?_;refine q_jn (ι:=Bool) (λp=>qAr a1 x2 p) (λp=>yQ x2 (wD a1 n) p=some res) ?_ ?_
   ·rintro x7 hm;show H _ (qAr a1 x2 x7) _ _;refine q_cm hm (λb8 hm=>?_) (λb8 hm=>?_)
    ·refine s_vn [] 2 ⟨[(2,vb false)],[]⟩ ?_;obtain rfl:=oi hm;refine q_rt ?_;refine zH false ?_;exact q_rm
    ·refine q_sk ?_;refine q_vu [] 2 [10,27] [(10,vi (w64 (x2+1)))] [] [] ?_;exact q_hl (FL a1 (w64 (x2+1))) (ih (w64 (x2+1)) _ hm)
   ·rcases bif_c hm with⟨b5,hm⟩|⟨b5,hm⟩
    ·refine q_vu [qf 3 b5] 2 [4] [(27,vb true)] [1] [] ?_;exact q_J (true) hm
    ·rcases bif_c hm with⟨b6,hm⟩|⟨b6,hm⟩
     ·refine q_vu [qf 3 b5,qf 8 b6] 2 [4] [(27,vb true)] [1] [] ?_;exact q_J (true) hm
     ·refine q_vu [qf 3 b5,qf 8 b6] 2 [4] [(27,vb (decide ((([a1.X.A,a1.X.B,a1.Y.A,a1.Y.B]:List Int).getD (x2.toNat*2+0) 0)≥(([a1.X.A,a1.X.B,a1.Y.A,a1.Y.B]:List Int).getD (x2.toNat*2+1) 0))))] [1] [] ?_;exact q_J (decide ((([a1.X.A,a1.X.B,a1.Y.A,a1.Y.B]:List Int).getD (x2.toNat*2+0) 0)≥(([a1.X.A,a1.X.B,a1.Y.A,a1.Y.B]:List Int).getD (x2.toNat*2+1) 0))) hm
  ·refine q_ex 0 ?_;obtain rfl:=oi hm;exact jI () (by kernel_rfl) (by kernel_rfl)
theorem qIp (a1:Rect) (r:Bool) (hm:DL a1=some r):CtX Tryz.prog globs 172 0 0 [.agg (qE a1)] [] (AQ r) (AP r):=by
 unfold DL at hm;refine q_E Tryz.f172 29 λE=>?_;refine s_vn [] 0 ⟨[(1,vp 0 0)],[(0,bx 33 (qE a1))]⟩ ?_;refine q_sq ?_;refine s_vn [] 1 ⟨[(9,va (qE a1)),(10,vi 0)],[]⟩ ?_;obtain⟨u11,h10,hm⟩:=qB hm;refine zP (nd Tryz.f172 52) 0 (by kernel_rfl) FUEL (λo=>qAC) (λv st=>RetQ Tryz.prog Tryz.f172 (AQ v) (AP v) .ret st) u11 (q_hl (FL a1 0) (qFK E a1 FUEL 0 u11 h10)) ?_ ?_
 ·rintro v12 rfl st hr;obtain rfl:=oi hm;exact hr
 ·rintro o9 rfl;replace hm:_=some r:=hm;refine s_vn [] 1 ⟨[(2,vb true)],[]⟩ ?_;obtain rfl:=oi hm;refine q_rt ?_;exact q_rm
def qLM (r:Worth_view×Bool):V:= .tup [.agg [cs r.1.product.Name,ci r.1.product.Thick,ci r.1.product.Width,ci r.1.product.Allow,ci r.1.product.Wane,tl e_i64 default r.1.product.Lengths,tl e_i64 default r.1.product.Prices,ci r.1.rect.X.A,ci r.1.rect.X.B,ci r.1.rect.Y.A,ci r.1.rect.Y.B,ci r.1.length,.own 0 0 3 r.1.zones.length,.own 1 0 7 r.1.defects.length],.one (cb r.2)]
def qMQ (r:Worth_view×Bool):List (Nat×(Nat×O)):=[(0,ro 0 249 3 r.1.zones.length (rf qL r.1.zones)),(1,ro 0 212 7 r.1.defects.length (rf qH r.1.defects))]
def qBY (a2:List Defect) (a3:Product) (a4:Rect) (v23:Int) (v25:(List Worth_zone)) (v27:Box) (x29:Int) (l37:List Defect) (l37n:Nat):St:=
 ⟨[(8,vp 2 0),(13,vp 6 0),(14,vp 7 0),(83,vc (tl qH default a2)),(84,vi ((a2.length:Nat):Int)),(85,vi x29)],[(2,bx 186 [cs (ByteArray.mk #[]),ci 0,ci 0,ci 0,ci 0,.emp,.emp,ci 0,ci 0,ci 0,ci 0,ci 0,.emp,.emp]),(5,ro 0 249 3 v25.length (rf qL v25)),(6,bx 186 [cs a3.Name,ci a3.Thick,ci a3.Width,ci a3.Allow,ci a3.Wane,tl e_i64 default a3.Lengths,tl e_i64 default a3.Prices,ci a4.X.A,ci a4.X.B,ci a4.Y.A,ci a4.Y.B,ci v23,.own 5 0 3 v25.length,.own 8 0 7 l37n]),(7,bx 128 (ZF v27)),(8,ro 0 212 7 l37n (rf qH l37))]⟩
def SF (a2:List Defect) (a3:Product) (a4:Rect) (v23:Int) (v25:(List Worth_zone)) (v27:Box) (x29:Int) (l30:List Defect) (l30n:Nat):St:=
 ⟨[(8,vp 2 0),(13,vp 6 0),(14,vp 7 0),(83,vc (tl qH default a2)),(84,vi ((a2.length:Nat):Int)),(85,vi x29)],[(2,bx 186 [cs (ByteArray.mk #[]),ci 0,ci 0,ci 0,ci 0,.emp,.emp,ci 0,ci 0,ci 0,ci 0,ci 0,.emp,.emp]),(5,ro 0 249 3 v25.length (rf qL v25)),(6,bx 186 [cs a3.Name,ci a3.Thick,ci a3.Width,ci a3.Allow,ci a3.Wane,tl e_i64 default a3.Lengths,tl e_i64 default a3.Prices,ci a4.X.A,ci a4.X.B,ci a4.Y.A,ci a4.Y.B,ci v23,.own 5 0 3 v25.length,.own 8 0 7 l30n]),(7,bx 128 (ZF v27)),(8,ro 0 212 7 l30n (rf qH l30))]⟩
def qCt (a3:Product) (a4:Rect) (v23:Int) (v25:(List Worth_zone)) (l38:List Defect):St:=
 ⟨[(8,vp 2 0),(13,vp 6 0)],[(2,bx 186 [cs (ByteArray.mk #[]),ci 0,ci 0,ci 0,ci 0,.emp,.emp,ci 0,ci 0,ci 0,ci 0,ci 0,.emp,.emp]),(5,ro 0 249 3 v25.length (rf qL v25)),(6,bx 186 [cs a3.Name,ci a3.Thick,ci a3.Width,ci a3.Allow,ci a3.Wane,tl e_i64 default a3.Lengths,tl e_i64 default a3.Prices,ci a4.X.A,ci a4.X.B,ci a4.Y.A,ci a4.Y.B,ci v23,.own 5 0 3 v25.length,.own 8 0 7 l38.length]),(8,ro 0 212 7 l38.length (rf qH l38))]⟩
def qCz (a1:List qA) (a2:List Defect) (a3:Product) (a4:Rect) (x21:Bool):St:=
 ⟨[(0,vc (tl qG default a1)),(1,vc (tl qH default a2)),(6,vp 0 0),(7,vp 1 0),(8,vp 2 0),(68,vb x21)],[(0,bx 54 (qC a3)),(1,bx 33 (qE a4)),(2,bx 186 [cs (ByteArray.mk #[]),ci 0,ci 0,ci 0,ci 0,.emp,.emp,ci 0,ci 0,ci 0,ci 0,ci 0,.emp,.emp])]⟩
def qCJ (a1:List qA) (a2:List Defect) (a3:Product) (a4:Rect) (x16:Bool):St:=
 ⟨[(0,vc (tl qG default a1)),(1,vc (tl qH default a2)),(6,vp 0 0),(7,vp 1 0),(8,vp 2 0),(35,vb x16)],[(0,bx 54 (qC a3)),(1,bx 33 (qE a4)),(2,bx 186 [cs (ByteArray.mk #[]),ci 0,ci 0,ci 0,ci 0,.emp,.emp,ci 0,ci 0,ci 0,ci 0,ci 0,.emp,.emp])]⟩
theorem qHs (E:Env 0) (a2:List Defect) (a3:Product) (a4:Rect) (v23:Int) (v25:(List Worth_zone)) (v27:Box):∀(n:Nat) (x29:Int) (l30:List Defect) (l30n:Nat) (res:(List Defect)),l30.length=l30n->ZT a2 v27 n x29 l30=some res->HL (kx E 100 0) (nd Tryz.f126 4084) (zS 0 (λo=>qCt a3 a4 v23 v25 o) res) n (SF a2 a3 a4 v23 v25 v27 x29 l30 l30n):=by
 intro n
 induction n with
 |zero=>
  intro x29 l30 l30n res hl0 hm;cases hm
 |succ n ih=>
  intro x29 l30 l30n res hl0 hm;subst hl0;refine qM ?_;refine s_vu [] 9 [] [(86,vb (decide (x29<((a2.length:Nat):Int))))] [] [] ?_;refine q_sq ?_;refine q_cm hm (λb31 hm=>?_) (λb31 hm=>?_)
  ·refine q_sk ?_;refine q_jn (ι:=(List Defect)×Nat) (λp=>qBY a2 a3 a4 v23 v25 v27 x29 p.1 p.2) (λp=>p.1.length=p.2/\LQ x29 (ZT a2 v27 n) p.1=some res) ?_ ?_
   ·rintro⟨l37,l37n⟩ ⟨el37,hm⟩;replace el37:l37.length=l37n:=el37;subst el37;show H _ (qBY a2 a3 a4 v23 v25 v27 x29 l37 l37.length) _ _;refine q_vu [] 11 [85] [(85,vi (w64 (x29+1)))] [] [] ?_;exact q_hl (SF a2 a3 a4 v23 v25 v27 (w64 (x29+1)) l37 l37.length) (ih (w64 (x29+1)) l37 l37.length _ rfl hm)
   ·refine q_bk 1 ?_;obtain⟨g32,hm⟩:=qI hm;refine s_vu [qd 0 (Dir.none) (inb_of g32)] 9 [86] [(16,vp 9 0)] [] [(9,bx 212 [ci ((a2.getD x29.toNat default).Kind),ci ((((a2.getD x29.toNat default).Box).X).A),ci ((((a2.getD x29.toNat default).Box).X).B),ci ((((a2.getD x29.toNat default).Box).Y).A),ci ((((a2.getD x29.toNat default).Box).Y).B),ci ((((a2.getD x29.toNat default).Box).Z).A),ci ((((a2.getD x29.toNat default).Box).Z).B)])] ?_;obtain⟨v33,h34,hm⟩:=qB hm;refine s_vu [qc 2 [89,90] 10 (qAz (a2.getD x29.toNat default) v27 v33 h34)] 10 [] [(91,vb v33)] [] [] ?_
    refine q_cm hm (λb35 hm=>?_) (λb35 hm=>?_)
    ·obtain⟨g36,hm⟩:=qI hm
     refine q_vu [qd 3 (drw 10 0 (rf qH ([(a2.getD x29.toNat default)]:List Defect))) (litP qH default 7 (λ_=>rfl) ([(a2.getD x29.toNat default)]:List Defect) 1 rfl),qd 4 (drw 8 1 (rf qH (l30++([(a2.getD x29.toNat default)]:List Defect)))) (apP qH default l30 ([(a2.getD x29.toNat default)]:List Defect) l30.length 1 7 56 (1<=1) (Nat.le_refl _) rfl rfl (λ_=>rfl) (zU g36))] 10 [16,91] [] [6,8,9] [(6,bx 186 [cs a3.Name,ci a3.Thick,ci a3.Width,ci a3.Allow,ci a3.Wane,tl e_i64 default a3.Lengths,tl e_i64 default a3.Prices,ci a4.X.A,ci a4.X.B,ci a4.Y.A,ci a4.Y.B,ci v23,.own 5 0 3 v25.length,.own 8 1 7 (l30.length+1)]),(8,ro 1 212 7 (l30.length+1) (rf qH (l30++([(a2.getD x29.toNat default)]:List Defect))))] ?_
     exact q_J ((l30++([(a2.getD x29.toNat default)]:List Defect)),(l30.length+1)) ⟨(len_app rfl rfl),hm⟩
    ·refine q_sk ?_;exact q_J (l30,l30.length) ⟨rfl,hm⟩
  ·refine q_ex 0 ?_;obtain rfl:=oi hm;exact wO (by kernel_rfl) (by kernel_rfl)
theorem qK9 (a1:List qA) (a2:List Defect) (a3:Product) (a4:Rect) (r:Worth_view×Bool) (hm:EH a1 a2 a3 a4=some r):CtX Tryz.prog globs 126 0 0 [.one (tl qG default a1),.one (tl qH default a2),.agg (qC a3),.agg (qE a4)] [] (qLM r) (qMQ r):=by
 unfold EH at hm;refine q_E Tryz.f126 100 λE=>?_;refine s_vn [] 0 ⟨[(0,vc (tl qG default a1)),(1,vc (tl qH default a2)),(6,vp 0 0),(7,vp 1 0),(8,vp 2 0)],[(0,bx 54 (qC a3)),(1,bx 33 (qE a4)),(2,bx 186 [cs (ByteArray.mk #[]),ci 0,ci 0,ci 0,ci 0,.emp,.emp,ci 0,ci 0,ci 0,ci 0,ci 0,.emp,.emp])]⟩ ?_;refine q_sq ?_;refine q_jn (ι:=Bool) (λp=>qCJ a1 a2 a3 a4 p) (λp=>KJ a1 a2 a3 a4 p=some r) ?_ ?_
 ·rintro x16 hm;show H _ (qCJ a1 a2 a3 a4 x16) _ _;refine q_cm hm (λb17 hm=>?_) (λb17 hm=>?_)
  ·refine s_vu [] 4 [0,1,6,7,35] [(9,vb false)] [0,1] [] ?_;refine q_fn [.ownB 2 5 4 3 1 (rf e_i64 ([]:List Int))] ⟨[(8,vp 2 0),(9,vb false)],[(2,bx 186 [cs (ByteArray.mk #[]),ci 0,ci 0,ci 0,ci 0,.own 4 0 1 0,.emp,ci 0,ci 0,ci 0,ci 0,ci 0,.emp,.emp]),(4,ro 0 3 1 0 (rf e_i64 ([]:List Int)))]⟩ o0 ?_;refine q_fn [.ownB 2 6 5 3 1 (rf e_i64 ([]:List Int))] ⟨[(8,vp 2 0),(9,vb false)],[(2,bx 186 [cs (ByteArray.mk #[]),ci 0,ci 0,ci 0,ci 0,.own 4 0 1 0,.own 5 0 1 0,ci 0,ci 0,ci 0,ci 0,ci 0,.emp,.emp]),(4,ro 0 3 1 0 (rf e_i64 ([]:List Int))),(5,ro 0 3 1 0 (rf e_i64 ([]:List Int)))]⟩ o0 ?_
   refine q_fn [.ownB 2 12 6 249 3 (rf qL ([]:List Worth_zone))] ⟨[(8,vp 2 0),(9,vb false)],[(2,bx 186 [cs (ByteArray.mk #[]),ci 0,ci 0,ci 0,ci 0,.own 4 0 1 0,.own 5 0 1 0,ci 0,ci 0,ci 0,ci 0,ci 0,.own 6 0 3 0,.emp]),(4,ro 0 3 1 0 (rf e_i64 ([]:List Int))),(5,ro 0 3 1 0 (rf e_i64 ([]:List Int))),(6,ro 0 249 3 0 (rf qL ([]:List Worth_zone)))]⟩ o0 ?_
   refine q_fn [.ownB 2 13 7 212 7 (rf qH ([]:List Defect))] ⟨[(8,vp 2 0),(9,vb false)],[(2,bx 186 [cs (ByteArray.mk #[]),ci 0,ci 0,ci 0,ci 0,.own 4 0 1 0,.own 5 0 1 0,ci 0,ci 0,ci 0,ci 0,ci 0,.own 6 0 3 0,.own 7 0 7 0]),(4,ro 0 3 1 0 (rf e_i64 ([]:List Int))),(5,ro 0 3 1 0 (rf e_i64 ([]:List Int))),(6,ro 0 249 3 0 (rf qL ([]:List Worth_zone))),(7,ro 0 212 7 0 (rf qH ([]:List Defect)))]⟩ o0 ?_
   refine q_fn [.len 4 (([]:List Int).length),.frz 4] ⟨[(8,vp 2 0),(9,vb false)],[(2,bx 186 [cs (ByteArray.mk #[]),ci 0,ci 0,ci 0,ci 0,tl e_i64 default ([]:List Int),.own 5 0 1 0,ci 0,ci 0,ci 0,ci 0,ci 0,.own 6 0 3 0,.own 7 0 7 0]),(5,ro 0 3 1 0 (rf e_i64 ([]:List Int))),(6,ro 0 249 3 0 (rf qL ([]:List Worth_zone))),(7,ro 0 212 7 0 (rf qH ([]:List Defect)))]⟩ (o1 (And.intro (And.intro (show 0=([]:List Int).length from rfl) (show 0=([]:List Int).length from rfl)) (Nat.le_refl (([]:List Int).length)))) ?_
   refine q_fn [.len 5 (([]:List Int).length),.frz 5] ⟨[(8,vp 2 0),(9,vb false)],[(2,bx 186 [cs (ByteArray.mk #[]),ci 0,ci 0,ci 0,ci 0,tl e_i64 default ([]:List Int),tl e_i64 default ([]:List Int),ci 0,ci 0,ci 0,ci 0,ci 0,.own 6 0 3 0,.own 7 0 7 0]),(6,ro 0 249 3 0 (rf qL ([]:List Worth_zone))),(7,ro 0 212 7 0 (rf qH ([]:List Defect)))]⟩ (o1 (And.intro (And.intro (show 0=([]:List Int).length from rfl) (show 0=([]:List Int).length from rfl)) (Nat.le_refl (([]:List Int).length)))) ?_
   refine q_fn [.len 6 (([]:List Worth_zone).length)] ⟨[(8,vp 2 0),(9,vb false)],[(2,bx 186 [cs (ByteArray.mk #[]),ci 0,ci 0,ci 0,ci 0,tl e_i64 default ([]:List Int),tl e_i64 default ([]:List Int),ci 0,ci 0,ci 0,ci 0,ci 0,.own 6 0 3 (([]:List Worth_zone).length),.own 7 0 7 0]),(6,ro 0 249 3 (([]:List Worth_zone).length) (rf qL ([]:List Worth_zone))),(7,ro 0 212 7 0 (rf qH ([]:List Defect)))]⟩ (o1 (And.intro (show 0=([]:List Worth_zone).length from rfl) (show 0=([]:List Worth_zone).length from rfl))) ?_
   refine q_fn [.len 7 (([]:List Defect).length)] ⟨[(8,vp 2 0),(9,vb false)],[(2,bx 186 [cs (ByteArray.mk #[]),ci 0,ci 0,ci 0,ci 0,tl e_i64 default ([]:List Int),tl e_i64 default ([]:List Int),ci 0,ci 0,ci 0,ci 0,ci 0,.own 6 0 3 (([]:List Worth_zone).length),.own 7 0 7 (([]:List Defect).length)]),(6,ro 0 249 3 (([]:List Worth_zone).length) (rf qL ([]:List Worth_zone))),(7,ro 0 212 7 (([]:List Defect).length) (rf qH ([]:List Defect)))]⟩ (o1 (And.intro (show 0=([]:List Defect).length from rfl) (show 0=([]:List Defect).length from rfl))) ?_;obtain rfl:=oi hm;refine qW 6 0 (by kernel_rfl) ?_
   refine qW 7 1 (by kernel_rfl) ?_;refine q_rt ?_;exact q_rm
  ·refine q_sk ?_;obtain⟨v18,h19,hm⟩:=qB hm;refine s_vu [qc 1 [38] 4 (XO a3 v18 h19)] 4 [35] [(10,vi v18.1),(11,vi v18.2)] [] [] ?_;refine s_vu [] 4 [] [(12,vp 4 0)] [] [(4,bx 227 [ci (w64 (a4.X.B-a4.X.A)),ci (w64 (a4.Y.B-a4.Y.A))])] ?_;refine q_sq ?_;refine q_jn (ι:=Bool) (λp=>qCz a1 a2 a3 a4 p) (λp=>UV a1 a2 a3 a4 p=some r) ?_ ?_
   ·rintro x21 hm;show H _ (qCz a1 a2 a3 a4 x21) _ _;refine q_cm hm (λb22 hm=>?_) (λb22 hm=>?_)
    ·refine s_vu [] 5 [0,1,6,7,68] [(9,vb false)] [0,1] [] ?_;refine q_fn [.ownB 2 5 5 3 1 (rf e_i64 ([]:List Int))] ⟨[(8,vp 2 0),(9,vb false)],[(2,bx 186 [cs (ByteArray.mk #[]),ci 0,ci 0,ci 0,ci 0,.own 5 0 1 0,.emp,ci 0,ci 0,ci 0,ci 0,ci 0,.emp,.emp]),(5,ro 0 3 1 0 (rf e_i64 ([]:List Int)))]⟩ o0 ?_;refine q_fn [.ownB 2 6 6 3 1 (rf e_i64 ([]:List Int))] ⟨[(8,vp 2 0),(9,vb false)],[(2,bx 186 [cs (ByteArray.mk #[]),ci 0,ci 0,ci 0,ci 0,.own 5 0 1 0,.own 6 0 1 0,ci 0,ci 0,ci 0,ci 0,ci 0,.emp,.emp]),(5,ro 0 3 1 0 (rf e_i64 ([]:List Int))),(6,ro 0 3 1 0 (rf e_i64 ([]:List Int)))]⟩ o0 ?_
     refine q_fn [.ownB 2 12 7 249 3 (rf qL ([]:List Worth_zone))] ⟨[(8,vp 2 0),(9,vb false)],[(2,bx 186 [cs (ByteArray.mk #[]),ci 0,ci 0,ci 0,ci 0,.own 5 0 1 0,.own 6 0 1 0,ci 0,ci 0,ci 0,ci 0,ci 0,.own 7 0 3 0,.emp]),(5,ro 0 3 1 0 (rf e_i64 ([]:List Int))),(6,ro 0 3 1 0 (rf e_i64 ([]:List Int))),(7,ro 0 249 3 0 (rf qL ([]:List Worth_zone)))]⟩ o0 ?_
     refine q_fn [.ownB 2 13 8 212 7 (rf qH ([]:List Defect))] ⟨[(8,vp 2 0),(9,vb false)],[(2,bx 186 [cs (ByteArray.mk #[]),ci 0,ci 0,ci 0,ci 0,.own 5 0 1 0,.own 6 0 1 0,ci 0,ci 0,ci 0,ci 0,ci 0,.own 7 0 3 0,.own 8 0 7 0]),(5,ro 0 3 1 0 (rf e_i64 ([]:List Int))),(6,ro 0 3 1 0 (rf e_i64 ([]:List Int))),(7,ro 0 249 3 0 (rf qL ([]:List Worth_zone))),(8,ro 0 212 7 0 (rf qH ([]:List Defect)))]⟩ o0 ?_
     refine q_fn [.len 5 (([]:List Int).length),.frz 5] ⟨[(8,vp 2 0),(9,vb false)],[(2,bx 186 [cs (ByteArray.mk #[]),ci 0,ci 0,ci 0,ci 0,tl e_i64 default ([]:List Int),.own 6 0 1 0,ci 0,ci 0,ci 0,ci 0,ci 0,.own 7 0 3 0,.own 8 0 7 0]),(6,ro 0 3 1 0 (rf e_i64 ([]:List Int))),(7,ro 0 249 3 0 (rf qL ([]:List Worth_zone))),(8,ro 0 212 7 0 (rf qH ([]:List Defect)))]⟩ (o1 (And.intro (And.intro (show 0=([]:List Int).length from rfl) (show 0=([]:List Int).length from rfl)) (Nat.le_refl (([]:List Int).length)))) ?_
     refine q_fn [.len 6 (([]:List Int).length),.frz 6] ⟨[(8,vp 2 0),(9,vb false)],[(2,bx 186 [cs (ByteArray.mk #[]),ci 0,ci 0,ci 0,ci 0,tl e_i64 default ([]:List Int),tl e_i64 default ([]:List Int),ci 0,ci 0,ci 0,ci 0,ci 0,.own 7 0 3 0,.own 8 0 7 0]),(7,ro 0 249 3 0 (rf qL ([]:List Worth_zone))),(8,ro 0 212 7 0 (rf qH ([]:List Defect)))]⟩ (o1 (And.intro (And.intro (show 0=([]:List Int).length from rfl) (show 0=([]:List Int).length from rfl)) (Nat.le_refl (([]:List Int).length)))) ?_
     refine q_fn [.len 7 (([]:List Worth_zone).length)] ⟨[(8,vp 2 0),(9,vb false)],[(2,bx 186 [cs (ByteArray.mk #[]),ci 0,ci 0,ci 0,ci 0,tl e_i64 default ([]:List Int),tl e_i64 default ([]:List Int),ci 0,ci 0,ci 0,ci 0,ci 0,.own 7 0 3 (([]:List Worth_zone).length),.own 8 0 7 0]),(7,ro 0 249 3 (([]:List Worth_zone).length) (rf qL ([]:List Worth_zone))),(8,ro 0 212 7 0 (rf qH ([]:List Defect)))]⟩ (o1 (And.intro (show 0=([]:List Worth_zone).length from rfl) (show 0=([]:List Worth_zone).length from rfl))) ?_
     refine q_fn [.len 8 (([]:List Defect).length)] ⟨[(8,vp 2 0),(9,vb false)],[(2,bx 186 [cs (ByteArray.mk #[]),ci 0,ci 0,ci 0,ci 0,tl e_i64 default ([]:List Int),tl e_i64 default ([]:List Int),ci 0,ci 0,ci 0,ci 0,ci 0,.own 7 0 3 (([]:List Worth_zone).length),.own 8 0 7 (([]:List Defect).length)]),(7,ro 0 249 3 (([]:List Worth_zone).length) (rf qL ([]:List Worth_zone))),(8,ro 0 212 7 (([]:List Defect).length) (rf qH ([]:List Defect)))]⟩ (o1 (And.intro (show 0=([]:List Defect).length from rfl) (show 0=([]:List Defect).length from rfl))) ?_;obtain rfl:=oi hm;refine qW 7 0 (by kernel_rfl) ?_
     refine qW 8 1 (by kernel_rfl) ?_;refine q_rt ?_;exact q_rm
    ·refine q_sk ?_;obtain⟨v23,h24,hm⟩:=qB hm;obtain⟨v25,h26,hm⟩:=qB hm;refine s_du [qc 3 [72] 5 (PD a1 v23 h24),qc 6 [74,75] 5 (qJC a1 a4 v25 h26)] [0,0,0,4,0,0,60,127,0,511] 5 [0,6,7,68] [(13,vp 6 0)] [0,1] [(5,ro 0 249 3 v25.length (rf qL v25)),(6,bx 186 [cs a3.Name,ci a3.Thick,ci a3.Width,ci a3.Allow,ci a3.Wane,tl e_i64 default a3.Lengths,tl e_i64 default a3.Prices,ci a4.X.A,ci a4.X.B,ci a4.Y.A,ci a4.Y.B,ci v23,.own 5 0 3 v25.length,.emp])] ?_;obtain⟨v27,h28,hm⟩:=qB hm
     refine s_vu [qd 4 (dex (cen [] [] 7 0 (qBb v27) (UE v27) [78,81] [5])) (wF (K:=(kx E 100 0)) (b:=false) ⟨[(78,va [cs a3.Name,ci a3.Thick,ci a3.Width,ci a3.Allow,ci a3.Wane,tl e_i64 default a3.Lengths,tl e_i64 default a3.Prices,ci a4.X.A,ci a4.X.B,ci a4.Y.A,ci a4.Y.B,ci v23,.own 5 0 3 v25.length,.emp]),(81,va [ci 0,ci v23])],[(5,ro 0 249 3 v25.length (rf qL v25))]⟩ (opAt (rg Tryz.f126 254) 4) [] [] 7 (o1 (Nat.le_refl v25.length)) rfl (CtX.emp (xs':=[.agg [cs a3.Name,ci a3.Thick,ci a3.Width,ci a3.Allow,ci a3.Wane,tl e_i64 default a3.Lengths,tl e_i64 default a3.Prices,ci a4.X.A,ci a4.X.B,ci a4.Y.A,ci a4.Y.B,ci v23,tl qL default v25,.emp],.agg [ci 0,ci v23]]) (qAE (Worth_view.mk a3 a4 v23 v25 ([]:List Defect)) (Span.mk 0 v23) v27 h28) (And.intro (And.intro rfl (And.intro rfl (And.intro rfl (And.intro rfl (And.intro rfl (And.intro rfl (And.intro rfl (And.intro rfl (And.intro rfl (And.intro rfl (And.intro rfl (And.intro rfl (And.intro rfl (And.intro rfl trivial)))))))))))))) (And.intro (And.intro rfl (And.intro rfl trivial)) trivial))) (.inr ⟨(by kernel_rfl),qHx v27⟩) (by kernel_rfl))] 7 [] [(14,vp 7 0)] [] [(7,bx 128 (ZF v27))] ?_
     refine q_sq ?_;refine s_vu [] 8 [1] [(83,vc (tl qH default a2)),(84,vi ((a2.length:Nat):Int)),(85,vi 0)] [] [] ?_
     refine q_fn [.ownB 6 13 8 212 7 (rf qH ([]:List Defect))] ⟨[(8,vp 2 0),(13,vp 6 0),(14,vp 7 0),(83,vc (tl qH default a2)),(84,vi ((a2.length:Nat):Int)),(85,vi 0)],[(2,bx 186 [cs (ByteArray.mk #[]),ci 0,ci 0,ci 0,ci 0,.emp,.emp,ci 0,ci 0,ci 0,ci 0,ci 0,.emp,.emp]),(5,ro 0 249 3 v25.length (rf qL v25)),(6,bx 186 [cs a3.Name,ci a3.Thick,ci a3.Width,ci a3.Allow,ci a3.Wane,tl e_i64 default a3.Lengths,tl e_i64 default a3.Prices,ci a4.X.A,ci a4.X.B,ci a4.Y.A,ci a4.Y.B,ci v23,.own 5 0 3 v25.length,.own 8 0 7 0]),(7,bx 128 (ZF v27)),(8,ro 0 212 7 0 (rf qH ([]:List Defect)))]⟩ o0 ?_
     obtain⟨o39,h40,hm⟩:=qB hm;refine zL (nd Tryz.f126 4084) 0 (by kernel_rfl) FUEL (λo=>qCt a3 a4 v23 v25 o) o39 (q_hl (SF a2 a3 a4 v23 v25 v27 0 ([]:List Defect) 0) (qHs E a2 a3 a4 v23 v25 v27 FUEL 0 ([]:List Defect) 0 o39 rfl h40)) ?_;refine s_vu [] 9 [13] [(9,vb true)] [2,6] [(2,bx 186 [cs a3.Name,ci a3.Thick,ci a3.Width,ci a3.Allow,ci a3.Wane,tl e_i64 default a3.Lengths,tl e_i64 default a3.Prices,ci a4.X.A,ci a4.X.B,ci a4.Y.A,ci a4.Y.B,ci v23,.own 5 0 3 v25.length,.own 8 0 7 o39.length])] ?_;obtain rfl:=oi hm;refine qW 5 0 (by kernel_rfl) ?_;refine qW 8 1 (by kernel_rfl) ?_
     refine q_rt ?_;exact q_rm
   ·rcases bif_c hm with⟨b20,hm⟩|⟨b20,hm⟩
    ·refine q_vu [qf 5 b20] 5 [10,11,12] [(68,vb (!(((w64 (a4.X.B-a4.X.A))==v18.2)&&(((w64 (a4.Y.B-a4.Y.A))==v18.1)&&true))))] [4] [] ?_;exact q_J (!(((w64 (a4.X.B-a4.X.A))==v18.2)&&(((w64 (a4.Y.B-a4.Y.A))==v18.1)&&true))) hm
    ·refine q_vu [qf 5 b20] 5 [10,11,12] [(68,vb false)] [4] [] ?_;exact q_J (false) hm
 ·obtain⟨v5,h6,hm⟩:=qB hm;rcases bif_c hm with⟨b7,hm⟩|⟨b7,hm⟩
  ·refine q_vu [qc 1 [17] 3 (WI a1 v5 h6),qf 3 b7] 3 [] [(35,vb true)] [] [] ?_;exact q_J (true) hm
  ·obtain⟨v8,h9,hm⟩:=qB hm;rcases bif_c hm with⟨b10,hm⟩|⟨b10,hm⟩
   ·refine q_vu [qc 1 [17] 3 (WI a1 v5 h6),qf 3 b7,qk 5 [20,21] 3 ⟨[(20,vb false),(21,vc (tl qH default a2))],[]⟩ (PS a2 v8 h9),qf 8 b10] 3 [] [(35,vb true)] [] [] ?_;exact q_J (true) hm
   ·obtain⟨v11,h12,hm⟩:=qB hm;rcases bif_c hm with⟨b13,hm⟩|⟨b13,hm⟩
    ·refine q_vu [qc 1 [17] 3 (WI a1 v5 h6),qf 3 b7,qk 5 [20,21] 3 ⟨[(20,vb false),(21,vc (tl qH default a2))],[]⟩ (PS a2 v8 h9),qf 8 b10,qd 10 (drw 3 0 (rf qC ([a3]:List Product))) (litP qC default 7 (λ_=>rfl) ([a3]:List Product) 1 rfl),qd 11 (dex (cen [] [] 4 0 (KR v11) (QX v11) [25,27] [3])) (wF (K:=(kx E 100 0)) (xs':=[.one (.lst 1 (rf qC ([a3]:List Product)))]) (b:=false) ⟨[(25,vb false),(27,vo 3 0 7 1)],[(3,ro 0 54 7 1 (rf qC ([a3]:List Product)))]⟩ (opAt (rg Tryz.f126 12) 11) [] [] 4 (o1 (Nat.le_refl 1)) (by simp only[tl,rf,show([a3]:List Product).length=1 from rfl]) (wZ ([a3]:List Product) v11 h12) (.inr ⟨(by kernel_rfl),qCg v11⟩) (by kernel_rfl)),qf 14 b13] 3 [] [(35,vb true)] [] [] ?_
     exact q_J (true) hm
    ·obtain⟨v14,h15,hm⟩:=qB hm
     refine q_vu [qc 1 [17] 3 (WI a1 v5 h6),qf 3 b7,qk 5 [20,21] 3 ⟨[(20,vb false),(21,vc (tl qH default a2))],[]⟩ (PS a2 v8 h9),qf 8 b10,qd 10 (drw 3 0 (rf qC ([a3]:List Product))) (litP qC default 7 (λ_=>rfl) ([a3]:List Product) 1 rfl),qd 11 (dex (cen [] [] 4 0 (KR v11) (QX v11) [25,27] [3])) (wF (K:=(kx E 100 0)) (xs':=[.one (.lst 1 (rf qC ([a3]:List Product)))]) (b:=false) ⟨[(25,vb false),(27,vo 3 0 7 1)],[(3,ro 0 54 7 1 (rf qC ([a3]:List Product)))]⟩ (opAt (rg Tryz.f126 12) 11) [] [] 4 (o1 (Nat.le_refl 1)) (by simp only[tl,rf,show([a3]:List Product).length=1 from rfl]) (wZ ([a3]:List Product) v11 h12) (.inr ⟨(by kernel_rfl),qCg v11⟩) (by kernel_rfl)),qf 14 b13,qk 16 [31,32] 4 ⟨[(31,vb false),(32,va (qE a4))],[]⟩ (qIp a4 v14 h15)] 3 [] [(35,vb (!v14))] [] [] ?_
     exact q_J (!v14) hm
end Saw
end Go.SL

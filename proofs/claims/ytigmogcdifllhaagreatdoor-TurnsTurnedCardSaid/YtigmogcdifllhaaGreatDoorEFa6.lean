import Derived.Test.YtigmogcdifllhaaGreatDoorEBase
import Derived.Test.YtigmogcdifllhaaGreatDoorTPm
import Derived.WalkKit
import Derived.Lib.Builder
import Derived.Test.YtigmogcdifllhaaGreatDoorEFa4
import Derived.Test.YtigmogcdifllhaaGreatDoorEFa5
import Derived.Test.YtigmogcdifllhaaGreatDoorEFa3
set_option linter.unusedVariables false
set_option linter.unusedSimpArgs false
namespace Go.SL
namespace Saw
open Go.Proofs Go.Proofs.Tryz
set_option maxHeartbeats 4000000
def qJg (r:(List qN)×(List qG)×Int):V:= .tup [.one (tl qR dd r.1),.one (tl qM dd r.2.1),.one (ci r.2.2)]
def qJj (r:(List qN)×(List qG)×Int):List (Nat×(Nat×O)):=[]
open Go.RowKit
theorem res3 (tmps:Array Value) (w:World) (b8 b9 b10:Nat) (x8 x9 x10:Value) (j8:tmps.getD 8 undef= .pointer (some ⟨b8,0,none⟩)) (j9:tmps.getD 9 undef= .pointer (some ⟨b9,0,none⟩)) (j10:tmps.getD 10 undef= .pointer (some ⟨b10,0,none⟩))
  (h8:w.cell? ⟨b8,0,none⟩=some x8) (h9:w.cell? ⟨b9,0,none⟩=some x9) (h10:w.cell? ⟨b10,0,none⟩=some x10):(results f10 tmps).run Tryz.prog w= .ok (.tuple #[x8,x9,x10]) w:=by
 have hres:f10.results= #[.cell 8 30,.cell 9 23,.cell 10 31]:=by kernel_rfl
 have a30:=Tryz.isAgg30;have a23:=Tryz.isAgg23;have a31:=Tryz.isAgg31;rw[ks] at j8 j9 j10;unfold results;rw[hres];simp[j8,j9,j10,h8,h9,h10,go_sem,a30,a23,a31]
theorem qTt {w:World} {b:Nat} {cs:Array Value} {e:TypeId} (h:w.heap[b]? =some (.cells cs e (0,0))):w.frozen? ⟨b,0,none⟩=false:=Go.Lib.frozen_of_heap h 0
theorem IN {w:World} {b:Nat} {v:Value} {e:TypeId} {z:Nat×Nat} (h:w.heap[b]? =some (.cells #[v] e z)):w.cell? ⟨b,0,none⟩=some v:=by rw[Go.Lib.cell_of_heap h];rfl
theorem qTi {w:World} {b:Nat} {x:Value} {T:TypeId} {fr:Nat×Nat} {v:Value} (hb:w.heap[b]? =some (.cells #[x] T fr)):(w.setCell ⟨b,0,none⟩ v).heap[b]? =some (.cells #[v] T fr):=by
 simp[World.setCell,uW,hb]
theorem qEh {w:World} {b c o:Nat} {v:Value} (h:c≠b):(w.setCell ⟨b,o,none⟩ v).heap[c]? =w.heap[c]? :=by
 simp[World.setCell,uW,Ne.symm h]
theorem tup3 {w:World} {M:Mem} {x y z:C} {a b c:Value} (h1:CRep w M x a) (h2:CRep w M y b) (h3:CRep w M z c):VRep w M (.tup [.one x,.one y,.one z]) (.tuple #[a,b,c]):=by
 refine⟨_,rfl,rfl,λj hj=>?_⟩
 match j,hj with
 |0,_=>exact h1
 |1,_=>exact h2
 |2,_=>exact h3
theorem qHy (a1:Scan) (a2 a3 a4:Int) (r:(List qN)×(List qG)×Int) (hm:wU a1 a2 a3 a4=some r):CtX Tryz.prog globs 10 0 0 [.agg (wE a1),.one (ci a2),.one (ci a3),.one (ci a4)] [] (qJg r) (qJj r):=by
 unfold wU at hm;obtain⟨v5,h6,hm⟩:=qC hm;obtain⟨v7,h8,hm⟩:=qC hm;obtain⟨v9,h10,hm⟩:=qC hm;refine qV2 (by kernel_rfl) λw A vs hg ha=>?_;refine qXD a1 a2 a3 a4 v5 v7 v9 h6 h8 h10 w A vs hg ha _ ?_;intro M w4 b8 b9 b10 b12 x8 x9 hb hA ⟨g8,g9,g10⟩ ⟨n1,n2,n3,n4,n5,n6⟩ ⟨o8,o9,o10⟩ m8 m9 m10 m12 r8 r9 tmps j8 j9 j10
 have entry:(invoke (.fn (.func 24) #[.pointer (some ⟨b12,0,none⟩),.pointer (some ⟨b10,0,none⟩),.pointer (some ⟨b8,0,none⟩),.pointer (some ⟨b9,0,none⟩)]) #[]).run Tryz.prog w4= .ok (.enter 24 #[.pointer (some ⟨b12,0,none⟩),.pointer (some ⟨b10,0,none⟩),.pointer (some ⟨b8,0,none⟩),.pointer (some ⟨b9,0,none⟩)]) w4:=
  enters_of Tryz.func24 (by kernel_rfl) rfl _ w4
 refine leaves_cons (f:=24) (by simp) entry ?_;by_cases he:v7.2=0
 ·refine(qYo b12 b10 b8 b9 v7.2 0 .returning w4 (IN m12) (IN m10) (qTt m10) n1 he).mono ?_;rintro e u' w' ⟨rfl,rfl,rfl⟩;have s8:(w4.setCell ⟨b10,0,none⟩ (.int .i64 0)).heap[b8]? =some (.cells #[x8] 30 (0,0)):=by rw[qEh (Ne.symm n4)];exact m8
  have s9:(w4.setCell ⟨b10,0,none⟩ (.int .i64 0)).heap[b9]? =some (.cells #[x9] 23 (0,0)):=by rw[qEh (Ne.symm n5)];exact m9
  have s10:(w4.setCell ⟨b10,0,none⟩ (.int .i64 0)).heap[b10]? =some (.cells #[.int .i64 0] 31 (0,0)):=qTi m10;refine⟨_,res3 tmps _ b8 b9 b10 x8 x9 (.int .i64 0) j8 j9 j10 (IN s8) (IN s9) (IN s10),_,rfl,hb.setCell (p:=⟨b10,0,none⟩) g10 _,?_⟩;have e0:(v7.2 !=0)=false:=by simp[he]
  rw[e0,ku] at hm;obtain rfl:=oi hm;have mv:∀{c:C} {u:Value},IRep w4 M.imm c u->IRep (w4.setCell ⟨b10,0,none⟩ (.int .i64 0)) (Mem.of λb=>A b\/w.heap.size<=b).imm c u:=λh=>h.move (λb hi _=>qEh (λe=>hi.2 (e▸o10))) λb hi _=>⟨(hA b).1 hi.1,fun⟨i,k,hv,_⟩=>(by cases hv)⟩
  exact tup3 (mv r8) (mv r9) (show IRep _ _ (ci v7.2) _ by rw[he];exact .val _ rfl)
 ·refine(qZr b12 b10 b8 b9 v7.2 0 x8 x9 .returning w4 (IN m12) (IN m10) (IN m8) (IN m9) (qTt m10) (qTt m8) (qTt m9) n1 n2 n3 n4 n5 n6 he).mono ?_;rintro e u' w' ⟨rfl,rfl,rfl⟩;have s8:(((w4.setCell ⟨b10,0,none⟩ (.int .i64 v7.2)).setCell ⟨b8,0,none⟩ (.slice none 0 0)).setCell ⟨b9,0,none⟩ (.slice none 0 0)).heap[b8]? =some (.cells #[.slice none 0 0] 30 (0,0)):=by
   rw[qEh n6];exact qTi (by rw[qEh (Ne.symm n4)];exact m8)
  have s9:(((w4.setCell ⟨b10,0,none⟩ (.int .i64 v7.2)).setCell ⟨b8,0,none⟩ (.slice none 0 0)).setCell ⟨b9,0,none⟩ (.slice none 0 0)).heap[b9]? =some (.cells #[.slice none 0 0] 23 (0,0)):=
   qTi (by rw[qEh (Ne.symm n6),qEh (Ne.symm n5)];exact m9)
  have s10:(((w4.setCell ⟨b10,0,none⟩ (.int .i64 v7.2)).setCell ⟨b8,0,none⟩ (.slice none 0 0)).setCell ⟨b9,0,none⟩ (.slice none 0 0)).heap[b10]? =some (.cells #[.int .i64 v7.2] 31 (0,0)):=by
   rw[qEh n5,qEh n4];exact qTi m10
  refine⟨_,res3 tmps _ b8 b9 b10 _ _ _ j8 j9 j10 (IN s8) (IN s9) (IN s10),_,rfl,((hb.setCell (p:=⟨b10,0,none⟩) g10 _).setCell (p:=⟨b8,0,none⟩) g8 _).setCell (p:=⟨b9,0,none⟩) g9 _,?_⟩;have e0:(v7.2 !=0)=true:=by simpa using he
  rw[e0,kp] at hm;obtain rfl:=oi hm;exact tup3 (IRep.lst0 _ _) (IRep.lst0 _ _) (show IRep _ _ (ci v7.2) _ from .val _ rfl)
open Go.Proofs Go.Proofs.Tryz
set_option maxRecDepth 100000
def qNe (r:Rect):V:=va (qT r)
def qOe (r:Rect):List (Nat×(Nat×O)):=[]
def CM (v2:qH) (x6:Int):St:=
 ⟨[(1,vp 0 0),(2,vp 1 0),(3,vp 2 0),(18,vc (tl qK dd v2.Rows)),(19,vi (v2.Rows.length:Int)),(20,vi x6)],[(0,bx 78 (qZ v2)),(1,bx 55 [ci 0,ci 0,ci 0,ci 0])]⟩
def qJD (v2:qH) (x6:Int) (x13:Span):St:=
 (CM v2 x6).up [] [] [] [(2,bx 53 (qK x13))]
def FE (v2:qH) (x6:Int) (x7:Span):St:=
 (CM v2 x6).up [] [] [] [(2,bx 53 (qK x7))]
def qBb (v2:qH) (x14:Span):St:=
 ⟨[(1,vp 0 0),(2,vp 1 0),(3,vp 2 0)],[(0,bx 78 (qZ v2)),(1,bx 55 [ci 0,ci 0,ci 0,ci 0]),(2,bx 53 (qK x14))]⟩
theorem qIG (E:Env 0) (v2:qH):∀(n:Nat) (x6:Int) (x7:Span) (res:Span),yU v2 n x6 x7=some res->HL (kx E 50 0) (nd f123 500) (zL 0 (λo=>qBb v2 o) res) n (FE v2 x6 x7):=by
 intro n
 induction n with
 |zero=>
  intro x6 x7 res hm;cases hm
 |succ n ih=>
  intro x6 x7 res hm;refine qS (s_va 3 [(21,vb (decide (x6<(v2.Rows.length:Int))))] ?_);refine q_sq (q_cq hm (λhm=>?_) (λhm=>?_))
  ·refine q_sk (q_jn (qJD v2 x6) (λp=>EX x6 (yU v2 n) p=some res) ?_ ?_)
   ·rintro x13 hm;exact q_vv [] 4 [20] [(20,vi (w64 (x6+1)))] (q_hl (FE v2 (w64 (x6+1)) x13) (ih (w64 (x6+1)) x13 _ hm))
   ·refine q_bk 1 ?_;obtain⟨g9,hm⟩:=qJ hm;refine s_vu [qi 0 g9] 3 [21] [(5,vp 3 0)] [] [(3,bx 53 (qK (v2.Rows.getD x6.toNat dd)))] ?_;obtain⟨v10,h11,hm⟩:=qC hm;refine s_vv [qc 1 [24] 4 (jZ (v2.Rows.getD x6.toNat dd) v10 h11)] 4 [] [(26,vb (!v10))] (q_cq hm (λhm=>?_) (λhm=>?_))
    ·exact q_vu [] 4 [5,26] [] [2,3] [(2,bx 53 [ci (imin x7.A ((v2.Rows.getD x6.toNat dd).A)),ci (imax x7.B ((v2.Rows.getD x6.toNat dd).B))])] (q_J ((Span.mk (imin x7.A ((v2.Rows.getD x6.toNat dd).A)) (imax x7.B ((v2.Rows.getD x6.toNat dd).B)))) hm)
    ·exact q_sk (q_J (x7) hm)
  ·refine q_ex 0 ?_;obtain rfl:=oi hm;exact q_l0
theorem qLH (a1:qH) (r:Rect) (hm:VW a1=some r):CtX Tryz.prog globs 123 0 0 [.agg (qZ a1)] [] (qNe r) (qOe r):=by
 unfold VW at hm;refine q_E f123 50 λE=>?_;refine s_vn [] 0 ⟨[(1,vp 0 0),(2,vp 1 0)],[(0,bx 78 (qZ a1)),(1,bx 55 [ci 0,ci 0,ci 0,ci 0])]⟩ ?_;obtain⟨v2,h3,hm⟩:=qC hm;refine s_vu [qc 1 [6] 2 (RM a1 v2 h3)] 2 [] [] [0] [(0,bx 78 (qZ v2))] (q_sq ?_);refine s_va 2 [(11,vb ((v2.Rows.length:Int)==0))] (q_cq hm (λhm=>?_) (λhm=>?_))
 ·refine s_vu [] 2 [1,11] [] [0] [] ?_;obtain rfl:=oi hm;exact q_rt q_rm
 ·refine q_sk ?_;obtain⟨g5,hm⟩:=qJ hm;refine s_vu [qi 2 g5] 2 [11] [(3,vp 2 0)] [] [(2,bx 53 (qK (v2.Rows.getD (0:Int).toNat dd)))] (q_sq ?_);refine s_va 3 [(18,vc (tl qK dd v2.Rows)),(19,vi (v2.Rows.length:Int)),(20,vi 0)] ?_;obtain⟨o15,h16,hm⟩:=qC hm;refine zG (nd f123 500) 0 (by kernel_rfl) FUEL (λo=>qBb v2 o) o15 (q_hl (FE v2 0 (v2.Rows.getD (0:Int).toNat dd)) (qIG E v2 FUEL 0 (v2.Rows.getD (0:Int).toNat dd) o15 h16)) ?_;obtain⟨v17,h18,hm⟩:=qC hm
  refine s_dn [qc 9 [41,47] 3 (HF v2.Low (w64 (v2.Low+(v2.Rows.length:Int))) v17 h18)] [0,0,2,0,8,0,32,96,248,510,1023,2047] 3 ⟨[(2,vp 1 0)],[(1,bx 55 [ci o15.A,ci o15.B,ci v17.A,ci v17.B])]⟩ ?_;obtain rfl:=oi hm;exact q_rt q_rm
def qDA (r:Int):V:=vi r
def qDn (r:Int):List (Nat×(Nat×O)):=[]
def qMP (a1:List qN) (x4:Int) (x5:Int) (x13:Bool):St:=
 ⟨[(3,vi x4),(5,vp 0 0),(13,vc (tl qR dd a1)),(14,vi (a1.length:Int)),(15,vi x5),(39,vb x13)],[(0,bx 80 (qR (a1.getD x5.toNat dd)))]⟩
def IW (a1:List qN) (x4:Int) (x5:Int):St:=
 ⟨[(3,vi x4),(13,vc (tl qR dd a1)),(14,vi (a1.length:Int)),(15,vi x5)],[]⟩
def qFr :St:=
 ⟨[],[]⟩
theorem qL6 (E:Env 0) (a1:List qN):∀(n:Nat) (x4:Int) (x5:Int) (res:Int⊕Unit),WF a1 n x4 x5=some res->HL (kx E 45 0) (nd f106 500) (wL 0 (λo=>qFr) (λv st=>RetQ Tryz.prog f106 (qDA v) (qDn v) .ret st) res) n (IW a1 x4 x5):=by
 intro n
 induction n with
 |zero=>
  intro x4 x5 res hm;cases hm
 |succ n ih=>
  intro x4 x5 res hm;refine qS (s_va 0 [(16,vb (decide (x5<(a1.length:Int))))] ?_);refine q_sq (q_cq hm (λhm=>?_) (λhm=>?_))
  ·refine q_sk (q_sq ?_);refine q_bk 1 ?_;obtain⟨g7,hm⟩:=qJ hm;refine s_vu [qi 0 g7] 0 [16] [(5,vp 0 0)] [] [(0,bx 80 (qR (a1.getD x5.toNat dd)))] (q_sq ?_);obtain⟨v8,h9,hm⟩:=qC hm;refine s_vv [qc 2 [20] 1 (qEJ ((a1.getD x5.toNat dd).Sec) v8 h9)] 1 [] [(6,vi v8)] (s_va 1 [(23,vb (v8 !=0))] ?_);refine q_cq hm (λhm=>?_) (λhm=>?_)
   ·refine s_vn [] 1 ⟨[(2,vi v8)],[]⟩ ?_;obtain rfl:=oi hm;refine q_rt (zJ v8 ?_);exact q_rm
   ·refine q_sk (q_sq ?_);refine s_vv [] 1 [6,23] [(29,vb ((((((a1.getD x5.toNat dd).Sec).Rows).length:Nat):Int)==0))] (q_cq hm (λhm=>?_) (λhm=>?_))
    ·refine s_vn [] 1 ⟨[(2,vi 18)],[]⟩ ?_;obtain rfl:=oi hm;refine q_rt (zJ 18 ?_);exact q_rm
    ·refine q_sk (q_sq ?_);refine q_jn (qMP a1 x4 x5) (λp=>qBi a1 x4 x5 (WF a1 n) p=some res) ?_ ?_
     ·rintro x13 hm;refine q_cq hm (λhm=>?_) (λhm=>?_)
      ·refine s_vn [] 1 ⟨[(2,vi 9)],[]⟩ ?_;obtain rfl:=oi hm;refine q_rt (zJ 9 ?_);exact q_rm
      ·refine q_sk (q_vu [] 1 [3,5,39] [(3,vi (w64 (x4+((a1.getD x5.toNat dd).Len))))] [0] [] ?_);exact q_vv [] 1 [15] [(15,vi (w64 (x5+1)))] (q_hl (IW a1 (w64 (x4+((a1.getD x5.toNat dd).Len))) (w64 (x5+1))) (ih (w64 (x4+((a1.getD x5.toNat dd).Len))) (w64 (x5+1)) _ hm))
     ·rcases bif_c hm with⟨b12,hm⟩|⟨b12,hm⟩
      ·exact q_vv [qf 3 b12] 1 [29] [(39,vb true)] (q_J (true) hm)
      ·exact q_vv [qf 3 b12] 1 [29] [(39,vb (decide (((a1.getD x5.toNat dd).Len)>(w64 (20000-x4)))))] (q_J (decide (((a1.getD x5.toNat dd).Len)>(w64 (20000-x4)))) hm)
  ·refine q_ex 0 ?_;obtain rfl:=oi hm;exact q_l1 ()
theorem YI (a1:List qN) (r:Int) (hm:PE a1=some r):CtX Tryz.prog globs 106 0 0 [.one (tl qR dd a1)] [] (qDA r) (qDn r):=by
 unfold PE at hm;refine q_E f106 45 λE=>?_;refine s_vn [] 0 ⟨[(0,vc (tl qR dd a1))],[]⟩ (q_sq ?_);refine s_va 0 [(9,vb ((a1.length:Int)==0))] (q_cq hm (λhm=>?_) (λhm=>?_))
 ·refine s_vn [] 0 ⟨[(2,vi 3)],[]⟩ ?_;obtain rfl:=oi hm;exact q_rt q_rm
 ·refine q_sk (q_sq ?_);refine s_vv [] 0 [9] [(12,vb (decide ((a1.length:Int)>24)))] (q_cq hm (λhm=>?_) (λhm=>?_))
  ·refine s_vn [] 0 ⟨[(2,vi 4)],[]⟩ ?_;obtain rfl:=oi hm;exact q_rt q_rm
  ·refine q_sk (s_vv [] 0 [12] [(3,vi 0)] ?_);refine q_sq (s_vv [] 0 [0] [(13,vc (tl qR dd a1)),(14,vi (a1.length:Int)),(15,vi 0)] ?_);obtain⟨u17,h16,hm⟩:=qC hm;refine zO (nd f106 500) 0 (by kernel_rfl) FUEL (λo=>qFr) (λv st=>RetQ Tryz.prog f106 (qDA v) (qDn v) .ret st) u17 (q_hl (IW a1 0 0) (qL6 E a1 FUEL 0 0 u17 h16)) ?_ ?_
   ·rintro v18 rfl st hr;obtain rfl:=oi hm;exact hr
   ·rintro o15 rfl;replace hm:_=some r:=hm;refine s_vn [] 0 ⟨[(2,vi 0)],[]⟩ ?_;obtain rfl:=oi hm;exact q_rt q_rm
open Go.Proofs Go.Proofs.Tryz
def qSp (r:(List qN)):V:=vc (tl qR dd r)
def qS7 (r:(List qN)):List (Nat×(Nat×O)):=[]
theorem ST (a1:List qN) (r:(List qN)) (hm:PG a1=some r):CtX Tryz.prog globs 119 0 0 [.one (tl qR dd a1)] [] (qSp r) (qS7 r):=by
 unfold PG at hm;refine q_E f119 7 λE=>?_;refine s_vn [] 0 ⟨[(0,vc (tl qR dd a1))],[]⟩ (q_sq ?_);obtain⟨v2,h3,hm⟩:=qC hm;refine s_vv [qc 1 [3] 0 (YI a1 v2 h3)] 0 [] [(5,vb (v2 !=0))] (q_cq hm (λhm=>?_) (λhm=>?_))
 ·refine s_vn [] 0 ⟨[(2,vc (.emp))],[]⟩ (q_fn [.own 2 0 80 3 (rf qR [])] ⟨[(2,vo 0 0 3 0)],[(0,ro 0 80 3 0 (rf qR []))]⟩ o0 ?_);refine q_fn [.len 0 (([]:List qN).length),.frz 0] ⟨[(2,vc (tl qR dd ([]:List qN)))],[]⟩ (o1 (And.intro (And.intro (show 0=([]:List qN).length from rfl) (show 0=([]:List qN).length from rfl)) (ke (([]:List qN).length)))) ?_;obtain rfl:=oi hm;exact q_rt q_rm
 ·refine q_sk (s_vn [] 0 ⟨[(2,vc (tl qR dd a1))],[]⟩ ?_);obtain rfl:=oi hm;exact q_rt q_rm
def qQC (r:Rect):V:=va (qT r)
def qRv (r:Rect):List (Nat×(Nat×O)):=[]
def qLC (v2:(List qN)) (x4:Int) (v8:Rect) (x11:Rect):St:=
 ⟨[(2,vp 0 0),(3,vp 1 0),(6,vp 3 0),(8,vc (tl qR dd v2)),(9,vi (v2.length:Int)),(10,vi x4)],[(0,bx 55 [ci 0,ci 0,ci 0,ci 0]),(1,bx 55 (qT x11)),(3,bx 55 (qT v8))]⟩
def ED (v2:(List qN)) (x4:Int) (x5:Rect):St:=
 ⟨[(2,vp 0 0),(3,vp 1 0),(8,vc (tl qR dd v2)),(9,vi (v2.length:Int)),(10,vi x4)],[(0,bx 55 [ci 0,ci 0,ci 0,ci 0]),(1,bx 55 (qT x5))]⟩
def qDL (x12:Rect):St:=
 ⟨[(2,vp 0 0),(3,vp 1 0)],[(0,bx 55 [ci 0,ci 0,ci 0,ci 0]),(1,bx 55 (qT x12))]⟩
theorem qK5 (E:Env 0) (v2:(List qN)):∀(n:Nat) (x4:Int) (x5:Rect) (res:Rect),ZO v2 n x4 x5=some res->HL (kx E 55 0) (nd f61 116) (zL 0 qDL res) n (ED v2 x4 x5):=by
 intro n
 induction n with
 |zero=>
  intro x4 x5 res hm;cases hm
 |succ n ih=>
  intro x4 x5 res hm;refine qS (s_va 2 [(11,vb (decide (x4<(v2.length:Int))))] ?_);refine q_sq (q_cq hm (λhm=>?_) (λhm=>?_))
  ·refine q_sk (q_sq ?_);refine q_bk 1 ?_;obtain⟨g7,hm⟩:=qJ hm;refine s_vu [qi 1 g7] 2 [11] [(4,vi x4),(5,vp 2 0)] [] [(2,bx 80 (qR (v2.getD x4.toNat dd)))] ?_;obtain⟨v8,h9,hm⟩:=qC hm;refine s_vu [qc 2 [16] 3 (qLH ((v2.getD x4.toNat dd).Sec) v8 h9)] 3 [5] [(6,vp 3 0)] [2] [(3,bx 55 (qT v8))] (q_jn (qLC v2 x4 v8) (λp=>qA6 x4 (ZO v2 n) v8 p=some res) ?_ ?_)
   ·rintro x11 hm;refine s_vu [] 4 [] [] [1] [(1,bx 55 [ci (imin x11.X.A v8.X.A),ci (imax x11.X.B v8.X.B),ci x11.Y.A,ci x11.Y.B])] (q_vu [] 4 [6] [] [1,3] [(1,bx 55 [ci (imin x11.X.A v8.X.A),ci (imax x11.X.B v8.X.B),ci (imin x11.Y.A v8.Y.A),ci (imax x11.Y.B v8.Y.B)])] ?_)
    exact q_vv [] 4 [10] [(10,vi (w64 (x4+1)))] (q_hl (ED v2 (w64 (x4+1)) (Rect.mk (Span.mk (imin x11.X.A v8.X.A) (imax x11.X.B v8.X.B)) (Span.mk (imin x11.Y.A v8.Y.A) (imax x11.Y.B v8.Y.B)))) (ih (w64 (x4+1)) (Rect.mk (Span.mk (imin x11.X.A v8.X.A) (imax x11.X.B v8.X.B)) (Span.mk (imin x11.Y.A v8.Y.A) (imax x11.Y.B v8.Y.B))) _ hm))
   ·refine s_vv [] 4 [4] [(19,vb (x4==0))] (q_cq hm (λhm=>?_) (λhm=>?_))
    ·exact q_vu [] 4 [19] [] [1] [(1,bx 55 (qT v8))] (q_J (v8) hm)
    ·exact q_sk (q_J (x5) hm)
  ·refine q_ex 0 ?_;obtain rfl:=oi hm;exact q_l0
theorem qPO (a1:List qN) (r:Rect) (hm:MM a1=some r):CtX Tryz.prog globs 61 0 0 [.one (tl qR dd a1)] [] (qQC r) (qRv r):=by
 unfold MM at hm;refine q_E f61 55 λE=>?_;refine s_vn [] 0 ⟨[(0,vc (tl qR dd a1)),(2,vp 0 0)],[(0,bx 55 [ci 0,ci 0,ci 0,ci 0])]⟩ (s_vu [] 1 [] [(3,vp 1 0)] [] [(1,bx 55 [ci 0,ci 0,ci 0,ci 0])] ?_);refine q_sq ?_;obtain⟨v2,h3,hm⟩:=qC hm;refine s_vv [qc 1 [7] 2 (ST a1 v2 h3)] 2 [0] [(8,vc (tl qR dd v2)),(9,vi (v2.length:Int)),(10,vi 0)] ?_;obtain⟨o13,h14,hm⟩:=qC hm;refine zG (nd f61 116) 0 (by kernel_rfl) FUEL qDL o13 (q_hl (ED v2 0 (Rect.mk (Span.mk 0 0) (Span.mk 0 0))) (qK5 E v2 FUEL 0 (Rect.mk (Span.mk 0 0) (Span.mk 0 0)) o13 h14)) (s_vu [] 2 [3] [] [0,1] [(0,bx 55 (qT o13))] ?_)
 obtain rfl:=oi hm;exact q_rt q_rm
def qT7 (r:Rect):V:=va (qT r)
def qTU (r:Rect):List (Nat×(Nat×O)):=[]
theorem qS1 (a1:List qN) (r:Rect) (hm:KU a1=some r):CtX Tryz.prog globs 31 0 0 [.one (tl qR dd a1)] [] (qT7 r) (qTU r):=by
 unfold KU at hm;refine q_E f31 5 λE=>?_;refine s_vn [] 0 ⟨[(0,vc (tl qR dd a1)),(2,vp 0 0)],[(0,bx 55 [ci 0,ci 0,ci 0,ci 0])]⟩ ?_;obtain⟨v2,h3,hm⟩:=qC hm;refine s_vu [qc 1 [3] 1 (qPO a1 v2 h3)] 1 [0] [] [0] [(0,bx 55 (qT v2))] ?_;obtain rfl:=oi hm;exact q_rt q_rm
open Go.Proofs Go.Proofs.Tryz
def qUu (r:Rect):V:=va (qT r)
def qVp (r:Rect):List (Nat×(Nat×O)):=[]
theorem qDF (a1:Rect) (a2:Int) (a3:Int) (r:Rect) (hm:KW a1 a2 a3=some r):CtX Tryz.prog globs 56 0 0 [.agg (qT a1),.one (ci a2),.one (ci a3)] [] (qUu r) (qVp r):=by
 unfold KW at hm;refine q_E f56 21 λE=>?_;refine s_vn [] 0 ⟨[(1,vi a2),(2,vi a3),(3,vp 0 0),(6,vp 1 0)],[(0,bx 55 (qT a1)),(1,bx 55 [ci 0,ci 0,ci 0,ci 0])]⟩ (s_vn [] 2 ⟨[(6,vp 1 0)],[(1,bx 55 [ci a1.X.A,ci a1.X.B,ci (w64 (a1.Y.A+a2)),ci (w64 (a1.Y.A+a3))])]⟩ ?_);obtain rfl:=oi hm;exact q_rt q_rm
def qDX (a1:List Node) (a2:List (List Node)) (r:(List (List Node))×(List (List Node))):V:=vo 0 0 1 r.2.length
def qD5 (a1:List Node) (a2:List (List Node)) (r:(List (List Node))×(List (List Node))):List (Nat×(Nat×O)):=[(0,ro 0 56 1 r.2.length (rf (qU qL) r.2))]
theorem qLf (a1:List Node) (a2:List (List Node)) (r:(List (List Node))×(List (List Node))) (hm:FM a1 a2=some r):CtX Tryz.prog globs 57 1 0 [.one (.own 0 0 1 a2.length),.one (tl qL dd a1)] [(0,ro 0 56 1 a2.length (rf (qU qL) a2))] (qDX a1 a2 r) (qD5 a1 a2 r):=by
 unfold FM at hm;refine q_E f57 9 λE=>?_;refine s_vn [] 1 ⟨[(0,vo 0 0 1 a2.length),(1,vc (tl qL dd a1))],[(0,ro 0 56 1 a2.length (rf (qU qL) a2))]⟩ ?_;obtain⟨g3,hm⟩:=qJ hm
 refine s_vn [qd 2 (drw 1 0 (rf (qU qL) [a1])) (litP (qU qL) dd 1 (λ_=>rfl) ([a1]:List (List Node)) 1 rfl),qd 3 (drw 0 1 (rf (qU qL) (a2++[a1]))) (apP (qU qL) dd a2 ([a1]:List (List Node)) a2.length 1 1 24 (1<=1) (ke _) rfl rfl (λ_=>rfl) (wA g3))] 1 ⟨[(4,vo 0 1 1 (a2.length+1))],[(0,ro 1 56 1 (a2.length+1) (rf (qU qL) (a2++[a1])))]⟩ (q_fn [.len 0 ((a2++[a1]).length)] ⟨[(4,vo 0 1 1 ((a2++[a1]).length))],[(0,ro 1 56 1 ((a2++[a1]).length) (rf (qU qL) (a2++[a1])))]⟩ (o1 (And.intro (Eq.symm (show(a2++[a1]).length=(a2.length+1) from(wB rfl rfl))) (Eq.symm (show(a2++[a1]).length=(a2.length+1) from(wB rfl rfl))))) ?_)
 obtain rfl:=oi hm;exact q_rt q_rm
def qOp (r:Bool):V:=vb r
def qP3 (r:Bool):List (Nat×(Nat×O)):=[]
def qKJ (x3:Bool):St:=
 ⟨[(2,vb x3)],[]⟩
theorem DU (a1:Int) (r:Bool) (hm:TF a1=some r):CtX Tryz.prog globs 210 0 0 [.one (.val (.int .u8 a1))] [] (qOp r) (qP3 r):=by
 unfold TF at hm;refine q_E f210 9 λE=>?_;refine s_vn [] 0 ⟨[(0,vc (.val (.int .u8 a1)))],[]⟩ (q_jn (qKJ) (λp=>OZ p=some r) ?_ ?_)
 ·rintro x3 hm;obtain rfl:=oi hm;exact q_rt q_rm
 ·rcases bif_c hm with⟨b2,hm⟩|⟨b2,hm⟩
  ·exact q_vn [qf 2 b2] 0 ⟨[(2,vb (decide (a1<=122)))],[]⟩ (q_J (decide (a1<=122)) hm)
  ·exact q_vn [qf 2 b2] 0 ⟨[(2,vb false)],[]⟩ (q_J (false) hm)
open Go.Proofs Go.Proofs.Tryz
def qP1 (r:Bool):V:=vb r
def qQm (r:Bool):List (Nat×(Nat×O)):=[]
def qKS (x3:Bool):St:=
 ⟨[(2,vb x3)],[]⟩
theorem qEY (a1:Int) (r:Bool) (hm:BX a1=some r):CtX Tryz.prog globs 211 0 0 [.one (.val (.int .u8 a1))] [] (qP1 r) (qQm r):=by
 unfold BX at hm;refine q_E f211 9 λE=>?_;refine s_vn [] 0 ⟨[(0,vc (.val (.int .u8 a1)))],[]⟩ (q_jn (qKS) (λp=>IX p=some r) ?_ ?_)
 ·rintro x3 hm;obtain rfl:=oi hm;exact q_rt q_rm
 ·rcases bif_c hm with⟨b2,hm⟩|⟨b2,hm⟩
  ·exact q_vn [qf 2 b2] 0 ⟨[(2,vb (decide (a1<=57)))],[]⟩ (q_J (decide (a1<=57)) hm)
  ·exact q_vn [qf 2 b2] 0 ⟨[(2,vb false)],[]⟩ (q_J (false) hm)
def qBj (r:Bool):V:=vb r
def qBH (r:Bool):List (Nat×(Nat×O)):=[]
def qLX (a1:ByteArray) (x9:Int) (x18:Bool):St:=
 ⟨[(0,vc (cs a1)),(3,vi x9),(39,vb x18)],[]⟩
def EP (a1:ByteArray) (x9:Int):St:=
 ⟨[(0,vc (cs a1)),(3,vi x9)],[]⟩
def qD1 :St:=
 ⟨[],[]⟩
def qL7 (a1:ByteArray) (x7:Bool):St:=
 ⟨[(0,vc (cs a1)),(18,vb x7)],[]⟩
theorem qKD (E:Env 0) (a1:ByteArray):∀(n:Nat) (x9:Int) (res:Bool⊕Unit),yZ a1 n x9=some res->HL (kx E 40 0) (nd f165 116) (wL 0 (λo=>qD1) (λv st=>RetQ Tryz.prog f165 (qBj v) (qBH v) .ret st) res) n (EP a1 x9):=by
 intro n
 induction n with
 |zero=>
  intro x9 res hm;cases hm
 |succ n ih=>
  intro x9 res hm;refine qS (q_sq ?_);refine s_va 0 [(22,vb (decide (x9<(a1.size:Int))))] (q_cq hm (λhm=>?_) (λhm=>?_))
  ·refine q_sk (q_sq ?_);refine q_bk 1 ?_;obtain⟨g11,hm⟩:=qJ hm;refine s_vv [qi 2 g11] 0 [22] [(4,vc (.val (.int .u8 (RW a1 x9.toNat))))] (q_jn (qLX a1 x9) (λp=>UG x9 (yZ a1 n) p=some res) ?_ ?_)
   ·rintro x18 hm;refine q_cq hm (λhm=>?_) (λhm=>?_)
    ·refine s_vn [] 0 ⟨[(2,vb false)],[]⟩ ?_;obtain rfl:=oi hm;refine q_rt (zJ false ?_);exact q_rm
    ·refine q_sk (q_vv [] 0 [3,39] [(3,vi (w64 (x9+1)))] ?_);exact q_hl (EP a1 (w64 (x9+1))) (ih (w64 (x9+1)) _ hm)
   ·obtain⟨v12,h13,hm⟩:=qC hm;rcases bif_c hm with⟨b14,hm⟩|⟨b14,hm⟩
    ·obtain⟨v15,h16,hm⟩:=qC hm;rcases bif_c hm with⟨b17,hm⟩|⟨b17,hm⟩
     ·exact q_vv [qc 1 [28] 0 (DU (RW a1 x9.toNat) v12 h13),qf 3 b14,qk 5 [31,32] 0 ⟨[(31,vb true),(32,vc (.val (.int .u8 (RW a1 x9.toNat))))],[]⟩ (qEY (RW a1 x9.toNat) v15 h16),qf 8 b17] 0 [4] [(39,vb ((RW a1 x9.toNat) !=95))] (q_J ((RW a1 x9.toNat) !=95) hm)
     ·exact q_vv [qc 1 [28] 0 (DU (RW a1 x9.toNat) v12 h13),qf 3 b14,qk 5 [31,32] 0 ⟨[(31,vb true),(32,vc (.val (.int .u8 (RW a1 x9.toNat))))],[]⟩ (qEY (RW a1 x9.toNat) v15 h16),qf 8 b17] 0 [4] [(39,vb false)] (q_J (false) hm)
    ·exact q_vv [qc 1 [28] 0 (DU (RW a1 x9.toNat) v12 h13),qf 3 b14] 0 [4] [(39,vb false)] (q_J (false) hm)
  ·refine q_ex 0 ?_;obtain rfl:=oi hm;exact q_l1 ()
theorem qOA (a1:ByteArray) (r:Bool) (hm:LC a1=some r):CtX Tryz.prog globs 165 0 0 [.one (cs a1)] [] (qBj r) (qBH r):=by
 unfold LC at hm;refine q_E f165 40 λE=>?_;refine s_vn [] 0 ⟨[(0,vc (cs a1))],[]⟩ (q_sq ?_);refine q_jn (qL7 a1) (λp=>TW a1 p=some r) ?_ ?_
 ·rintro x7 hm;refine q_cq hm (λhm=>?_) (λhm=>?_)
  ·refine s_vn [] 0 ⟨[(2,vb false)],[]⟩ ?_;obtain rfl:=oi hm;exact q_rt q_rm
  ·refine q_sk (q_sq ?_);refine s_vv [] 0 [18] [(3,vi 1)] ?_;obtain⟨u22,h21,hm⟩:=qC hm;refine zO (nd f165 116) 0 (by kernel_rfl) FUEL (λo=>qD1) (λv st=>RetQ Tryz.prog f165 (qBj v) (qBH v) .ret st) u22 (q_hl (EP a1 1) (qKD E a1 FUEL 1 u22 h21)) ?_ ?_
   ·rintro v23 rfl st hr;obtain rfl:=oi hm;exact hr
   ·rintro o20 rfl;replace hm:_=some r:=hm;refine s_vn [] 0 ⟨[(2,vb true)],[]⟩ ?_;obtain rfl:=oi hm;exact q_rt q_rm
 ·rcases bif_c hm with⟨b2,hm⟩|⟨b2,hm⟩
  ·exact q_vv [qf 3 b2] 0 [] [(18,vb true)] (q_J (true) hm)
  ·rcases bif_c hm with⟨b3,hm⟩|⟨b3,hm⟩
   ·exact q_vv [qf 3 b2,qf 8 b3] 0 [] [(18,vb true)] (q_J (true) hm)
   ·obtain⟨g4,hm⟩:=qJ hm;obtain⟨v5,h6,hm⟩:=qC hm;exact q_vv [qf 3 b2,qf 8 b3,qi 10 g4,qk 11 [13,15] 0 ⟨[(13,vb false),(15,vc (.val (.int .u8 (RW a1 ((0:Int).toNat)))))],[]⟩ (DU (RW a1 ((0:Int).toNat)) v5 h6)] 0 [] [(18,vb (!v5))] (q_J (!v5) hm)
def qBn (r:Int×Bool):V:= .tup [.one (ci r.1),.one (cb r.2)]
def qBA (r:Int×Bool):List (Nat×(Nat×O)):=[]
def EJ (a1:List qE) (a2:ByteArray) (x3:Int):St:=
 ⟨[(1,vc (cs a2)),(8,vc (tl qP dd a1)),(9,vi (a1.length:Int)),(10,vi x3)],[]⟩
def qDN :St:=
 ⟨[],[]⟩
theorem qKY (E:Env 0) (a1:List qE) (a2:ByteArray):∀(n:Nat) (x3:Int) (res:(Int×Bool)⊕Unit),XM a1 a2 n x3=some res->HL (kx E 21 0) (nd f166 52) (wL 0 (λo=>qDN) (λv st=>RetQ Tryz.prog f166 (qBn v) (qBA v) .ret st) res) n (EJ a1 a2 x3):=by
 intro n
 induction n with
 |zero=>
  intro x3 res hm;cases hm
 |succ n ih=>
  intro x3 res hm;refine qS (s_va 0 [(11,vb (decide (x3<(a1.length:Int))))] ?_);refine q_sq (q_cq hm (λhm=>?_) (λhm=>?_))
  ·refine q_sk (q_sq ?_);refine q_bk 1 ?_;obtain⟨g5,hm⟩:=qJ hm;refine s_vu [qi 1 g5] 0 [11] [(6,vi x3),(7,vp 0 0)] [] [(0,bx 74 (qP (a1.getD x3.toNat dd)))] (s_vu [] 1 [7] [(18,vb (qLr ((a1.getD x3.toNat dd).Name) a2))] [0] [] ?_);refine q_cq hm (λhm=>?_) (λhm=>?_)
   ·refine s_vn [] 1 ⟨[(4,vi x3),(5,vb true)],[]⟩ ?_;obtain rfl:=oi hm;refine q_rt (zJ (x3,true) ?_);exact q_rm
   ·refine q_sk (q_vv [] 1 [6,10,18] [(10,vi (w64 (x3+1)))] ?_);exact q_hl (EJ a1 a2 (w64 (x3+1))) (ih (w64 (x3+1)) _ hm)
  ·refine q_ex 0 ?_;obtain rfl:=oi hm;exact q_l1 ()
theorem qOM (a1:List qE) (a2:ByteArray) (r:Int×Bool) (hm:MY a1 a2=some r):CtX Tryz.prog globs 166 0 0 [.one (tl qP dd a1),.one (cs a2)] [] (qBn r) (qBA r):=by
 unfold MY at hm;refine q_E f166 21 λE=>?_;refine s_vn [] 0 ⟨[(0,vc (tl qP dd a1)),(1,vc (cs a2))],[]⟩ (q_sq ?_);refine s_vv [] 0 [0] [(8,vc (tl qP dd a1)),(9,vi (a1.length:Int)),(10,vi 0)] ?_;obtain⟨u9,h8,hm⟩:=qC hm;refine zO (nd f166 52) 0 (by kernel_rfl) FUEL (λo=>qDN) (λv st=>RetQ Tryz.prog f166 (qBn v) (qBA v) .ret st) u9 (q_hl (EJ a1 a2 0) (qKY E a1 a2 FUEL 0 u9 h8)) ?_ ?_
 ·rintro v10 rfl st hr;obtain rfl:=oi hm;exact hr
 ·rintro o7 rfl;replace hm:_=some r:=hm;refine s_vn [] 0 ⟨[(4,vi 0),(5,vb false)],[]⟩ ?_;obtain rfl:=oi hm;exact q_rt q_rm
open Go.Proofs Go.Proofs.Tryz
def qRi (r:Int):V:=vi r
def qQy (r:Int):List (Nat×(Nat×O)):=[]
theorem qGj (a1:Int) (a2:Int) (r:Int) (hm:LY a1 a2=some r):CtX Tryz.prog globs 85 0 0 [.one (ci a1),.one (ci a2)] [] (qRi r) (qQy r):=by
 unfold LY at hm;refine q_E f85 11 λE=>?_;refine s_vn [] 0 ⟨[(0,vi a1),(1,vi a2)],[]⟩ (s_vn [qd 5 dN (show(1000:Int)≠0 by decide)] 0 ⟨[(4,vi (w64 (Int.tdiv (w64 ((w64 (a1*(w64 (1000+a2))))+999)) 1000)))],[]⟩ ?_);obtain rfl:=oi hm;exact q_rt q_rm
def qND (r:Bool):V:=vb r
def qN0 (r:Bool):List (Nat×(Nat×O)):=[]
def qJG (x3:Bool):St:=
 ⟨[(2,vb x3)],[]⟩
theorem ZG (a1:Int) (r:Bool) (hm:PV a1=some r):CtX Tryz.prog globs 84 0 0 [.one (ci a1)] [] (qND r) (qN0 r):=by
 unfold PV at hm;refine q_E f84 9 λE=>?_;refine s_vn [] 0 ⟨[(0,vi a1)],[]⟩ (q_jn (qJG) (λp=>VM p=some r) ?_ ?_)
 ·rintro x3 hm;obtain rfl:=oi hm;exact q_rt q_rm
 ·rcases bif_c hm with⟨b2,hm⟩|⟨b2,hm⟩
  ·exact q_vn [qf 2 b2] 0 ⟨[(2,vb (decide (a1<=600)))],[]⟩ (q_J (decide (a1<=600)) hm)
  ·exact q_vn [qf 2 b2] 0 ⟨[(2,vb false)],[]⟩ (q_J (false) hm)
def qPN (r:Int×Int):V:= .tup [.one (ci r.1),.one (ci r.2)]
def qON (r:Int×Int):List (Nat×(Nat×O)):=[]
def qJU (a1:qE) (x9:Bool):St:=
 ⟨[(1,vp 0 0),(23,vb x9)],[(0,bx 74 (qP a1))]⟩
theorem DX (a1:qE) (r:Int×Int) (hm:yL a1=some r):CtX Tryz.prog globs 43 0 0 [.agg (qP a1)] [] (qPN r) (qON r):=by
 unfold yL at hm;refine q_E f43 34 λE=>?_;refine s_vn [] 0 ⟨[(1,vp 0 0)],[(0,bx 74 (qP a1))]⟩ (q_sq ?_);refine q_jn (qJU a1) (λp=>YA a1 p=some r) ?_ ?_
 ·rintro x9 hm;refine q_cq hm (λhm=>?_) (λhm=>?_)
  ·refine s_vn [] 1 ⟨[(2,vi 0),(3,vi 0)],[]⟩ ?_;obtain rfl:=oi hm;exact q_rt q_rm
  ·refine q_sk ?_;obtain⟨v11,h12,hm⟩:=qC hm;obtain⟨v13,h14,hm⟩:=qC hm;refine s_dn [qc 4 [25,27] 1 (qGj a1.Thick a1.Allow v11 h12),qc 9 [30,32] 1 (qGj a1.Width a1.Allow v13 h14)] [0,1,0,4,15,0,32,0,128,511,1023,2047] 1 ⟨[(2,vi v11),(3,vi v13)],[]⟩ ?_;obtain rfl:=oi hm;exact q_rt q_rm
 ·obtain⟨v2,h3,hm⟩:=qC hm;rcases bif_c hm with⟨b4,hm⟩|⟨b4,hm⟩
  ·exact q_vv [qc 2 [5] 1 (ZG a1.Thick v2 h3),qf 4 b4] 1 [] [(23,vb true)] (q_J (true) hm)
  ·obtain⟨v5,h6,hm⟩:=qC hm;rcases bif_c hm with⟨b7,hm⟩|⟨b7,hm⟩
   ·exact q_vv [qc 2 [5] 1 (ZG a1.Thick v2 h3),qf 4 b4,qk 7 [8,10] 1 ⟨[(8,vb false),(10,vi a1.Width)],[]⟩ (ZG a1.Width v5 h6),qf 10 b7] 1 [] [(23,vb true)] (q_J (true) hm)
   ·rcases bif_c hm with⟨b8,hm⟩|⟨b8,hm⟩
    ·exact q_vv [qc 2 [5] 1 (ZG a1.Thick v2 h3),qf 4 b4,qk 7 [8,10] 1 ⟨[(8,vb false),(10,vi a1.Width)],[]⟩ (ZG a1.Width v5 h6),qf 10 b7,qf 15 b8] 1 [] [(23,vb true)] (q_J (true) hm)
    ·exact q_vv [qc 2 [5] 1 (ZG a1.Thick v2 h3),qf 4 b4,qk 7 [8,10] 1 ⟨[(8,vb false),(10,vi a1.Width)],[]⟩ (ZG a1.Width v5 h6),qf 10 b7,qf 15 b8] 1 [] [(23,vb (decide (a1.Allow>200)))] (q_J (decide (a1.Allow>200)) hm)
open Go.Proofs Go.Proofs.Tryz
def ZQ (r:Int):V:=vi r
def ZR (r:Int):List (Nat×(Nat×O)):=[]
def XE (a1:qE) (x18:Int):St:=
 ⟨[(1,vp 0 0),(70,vc (tl qD dd a1.Lengths)),(71,vi (a1.Lengths.length:Int)),(72,vi x18)],[(0,bx 74 (qP a1))]⟩
def qEc (a1:qE) (x18:Int) (x26:Bool):St:=
 (XE a1 x18).up [] [(94,vb x26)] [] []
def qEs (a1:qE) (x18:Int) (x22:Bool):St:=
 (XE a1 x18).up [] [(5,vi x18),(6,vi (a1.Lengths.getD x18.toNat dd)),(82,vb x22)] [] []
def KY (a1:qE) (x18:Int):St:=
 (XE a1 x18).up [] [] [] []
def FN (a1:qE):St:=
 ⟨[(1,vp 0 0)],[(0,bx 74 (qP a1))]⟩
def qEe (a1:qE) (x32:Int) (x36:Bool):St:=
 ⟨[(97,vc (tl qD dd a1.Prices)),(98,vi (a1.Prices.length:Int)),(99,vi x32),(108,vb x36)],[]⟩
def KR (a1:qE) (x32:Int):St:=
 ⟨[(97,vc (tl qD dd a1.Prices)),(98,vi (a1.Prices.length:Int)),(99,vi x32)],[]⟩
def FW :St:=
 ⟨[],[]⟩
def qEf (a1:qE) (x10:Bool):St:=
 ⟨[(1,vp 0 0),(46,vb x10)],[(0,bx 74 (qP a1))]⟩
def qEb (a1:qE) (x5:Bool):St:=
 ⟨[(1,vp 0 0),(28,vb x5)],[(0,bx 74 (qP a1))]⟩
theorem qDp (E:Env 0) (a1:qE):∀(n:Nat) (x18:Int) (res:Int⊕Unit),wH a1 n x18=some res->HL (kx E 110 0) (nd f167 4084) (wL 0 (λo=>FN a1) (λv st=>RetQ Tryz.prog f167 (ZQ v) (ZR v) .ret st) res) n (KY a1 x18):=by
 intro n
 induction n with
 |zero=>
  intro x18 res hm;cases hm
 |succ n ih=>
  intro x18 res hm;refine qS (s_va 1 [(73,vb (decide (x18<(a1.Lengths.length:Int))))] ?_);refine q_sq (q_cq hm (λhm=>?_) (λhm=>?_))
  ·refine q_sk (q_sq ?_);refine q_bk 1 ?_;obtain⟨g20,hm⟩:=qJ hm;refine s_vv [qi 1 g20] 1 [73] [(5,vi x18),(6,vi (a1.Lengths.getD x18.toNat dd))] (q_sq ?_);refine q_jn (qEs a1 x18) (λp=>JQ a1 x18 (wH a1 n) p=some res) ?_ ?_
   ·rintro x22 hm;refine q_cq hm (λhm=>?_) (λhm=>?_)
    ·refine s_vn [] 1 ⟨[(2,vi 9)],[]⟩ ?_;obtain rfl:=oi hm;refine q_rt (zJ 9 ?_);exact q_rm
    ·refine q_sk (q_jn (qEc a1 x18) (λp=>JP x18 (wH a1 n) p=some res) ?_ ?_)
     ·rintro x26 hm;refine q_cq hm (λhm=>?_) (λhm=>?_)
      ·refine s_vn [] 1 ⟨[(2,vi 11)],[]⟩ ?_;obtain rfl:=oi hm;refine q_rt (zJ 11 ?_);exact q_rm
      ·refine q_sk (q_vv [] 1 [72,94] [(72,vi (w64 (x18+1)))] ?_);exact q_hl (KY a1 (w64 (x18+1))) (ih (w64 (x18+1)) _ hm)
     ·rcases bif_c hm with⟨b24,hm⟩|⟨b24,hm⟩
      ·obtain⟨g25,hm⟩:=qJ hm;exact q_vv [qf 2 b24,qi 8 g25] 1 [5,6,82] [(94,vb (decide ((a1.Lengths.getD x18.toNat dd)<=(a1.Lengths.getD (w64 (x18-1)).toNat dd))))] (q_J (decide ((a1.Lengths.getD x18.toNat dd)<=(a1.Lengths.getD (w64 (x18-1)).toNat dd))) hm)
      ·exact q_vv [qf 2 b24] 1 [5,6,82] [(94,vb false)] (q_J (false) hm)
   ·rcases bif_c hm with⟨b21,hm⟩|⟨b21,hm⟩
    ·exact q_vv [qf 2 b21] 1 [] [(82,vb true)] (q_J (true) hm)
    ·exact q_vv [qf 2 b21] 1 [] [(82,vb (decide ((a1.Lengths.getD x18.toNat dd)>20000)))] (q_J (decide ((a1.Lengths.getD x18.toNat dd)>20000)) hm)
  ·refine q_ex 0 ?_;obtain rfl:=oi hm;exact q_l1 ()
theorem qDi (E:Env 0) (a1:qE):∀(n:Nat) (x32:Int) (res:Int⊕Unit),wW a1 n x32=some res->HL (kx E 110 0) (nd f167 8180) (wL 2 (λo=>FW) (λv st=>RetQ Tryz.prog f167 (ZQ v) (ZR v) .ret st) res) n (KR a1 x32):=by
 intro n
 induction n with
 |zero=>
  intro x32 res hm;cases hm
 |succ n ih=>
  intro x32 res hm;refine qS (s_va 1 [(100,vb (decide (x32<(a1.Prices.length:Int))))] ?_);refine q_sq (q_cq hm (λhm=>?_) (λhm=>?_))
  ·refine q_sk (q_sq ?_);refine q_bk 3 ?_;obtain⟨g34,hm⟩:=qJ hm;refine s_vv [qi 0 g34] 1 [100] [(8,vi (a1.Prices.getD x32.toNat dd))] (q_jn (qEe a1 x32) (λp=>JO x32 (wW a1 n) p=some res) ?_ ?_)
   ·rintro x36 hm;refine q_cq hm (λhm=>?_) (λhm=>?_)
    ·refine s_vn [] 1 ⟨[(2,vi 9)],[]⟩ ?_;obtain rfl:=oi hm;refine q_rt (zJ 9 ?_);exact q_rm
    ·refine q_sk (q_vv [] 1 [99,108] [(99,vi (w64 (x32+1)))] ?_);exact q_hl (KR a1 (w64 (x32+1))) (ih (w64 (x32+1)) _ hm)
   ·rcases bif_c hm with⟨b35,hm⟩|⟨b35,hm⟩
    ·exact q_vv [qf 2 b35] 1 [8] [(108,vb true)] (q_J (true) hm)
    ·exact q_vv [qf 2 b35] 1 [8] [(108,vb (decide ((a1.Prices.getD x32.toNat dd)>1000000)))] (q_J (decide ((a1.Prices.getD x32.toNat dd)>1000000)) hm)
  ·refine q_ex 2 ?_;obtain rfl:=oi hm;exact q_l1 ()
theorem qFD (a1:qE) (r:Int) (hm:WW a1=some r):CtX Tryz.prog globs 167 0 0 [.agg (qP a1)] [] (ZQ r) (ZR r):=by
 unfold WW at hm;refine q_E f167 110 λE=>?_;refine s_vn [] 0 ⟨[(1,vp 0 0)],[(0,bx 74 (qP a1))]⟩ (q_sq ?_);refine q_jn (qEb a1) (λp=>yC a1 p=some r) ?_ ?_
 ·rintro x5 hm;refine q_cq hm (λhm=>?_) (λhm=>?_)
  ·refine s_vn [] 1 ⟨[(2,vi 9)],[]⟩ ?_;obtain rfl:=oi hm;exact q_rt q_rm
  ·refine q_sk (q_sq ?_);refine q_jn (qEf a1) (λp=>yD a1 p=some r) ?_ ?_
   ·rintro x10 hm;refine q_cq hm (λhm=>?_) (λhm=>?_)
    ·refine s_vn [] 1 ⟨[(2,vi 9)],[]⟩ ?_;obtain rfl:=oi hm;exact q_rt q_rm
    ·refine q_sk (q_sq ?_);obtain⟨v12,h13,hm⟩:=qC hm;refine s_vv [qc 1 [48] 1 (DX a1 v12 h13)] 1 [46] [(4,vi v12.2)] (s_vv [] 1 [4] [(53,vb (decide (v12.2>600)))] ?_);refine q_cq hm (λhm=>?_) (λhm=>?_)
     ·refine s_vn [] 1 ⟨[(2,vi 9)],[]⟩ ?_;obtain rfl:=oi hm;exact q_rt q_rm
     ·refine q_sk (q_sq ?_);refine s_vv [] 1 [53] [(57,vb ((a1.Lengths.length:Int)==0))] (q_cq hm (λhm=>?_) (λhm=>?_))
      ·refine s_vn [] 1 ⟨[(2,vi 3)],[]⟩ ?_;obtain rfl:=oi hm;exact q_rt q_rm
      ·refine q_sk (q_sq ?_);refine s_vv [] 1 [57] [(61,vb (decide ((a1.Lengths.length:Int)>8)))] (q_cq hm (λhm=>?_) (λhm=>?_))
       ·refine s_vn [] 1 ⟨[(2,vi 4)],[]⟩ ?_;obtain rfl:=oi hm;exact q_rt q_rm
       ·refine q_sk (q_sq ?_);refine s_vv [] 1 [61] [(68,vb ((a1.Prices.length:Int) !=(a1.Lengths.length:Int)))] (q_cq hm (λhm=>?_) (λhm=>?_))
        ·refine s_vn [] 1 ⟨[(2,vi 19)],[]⟩ ?_;obtain rfl:=oi hm;exact q_rt q_rm
        ·refine q_sk (q_sq ?_);refine s_vv [] 1 [68] [(70,vc (tl qD dd a1.Lengths)),(71,vi (a1.Lengths.length:Int)),(72,vi 0)] ?_;obtain⟨u30,h29,hm⟩:=qC hm;refine zO (nd f167 4084) 0 (by kernel_rfl) FUEL (λo=>FN a1) (λv st=>RetQ Tryz.prog f167 (ZQ v) (ZR v) .ret st) u30 (q_hl (KY a1 0) (qDp E a1 FUEL 0 u30 h29)) ?_ ?_
         ·rintro v31 rfl st hr;obtain rfl:=oi hm;exact hr
         ·rintro o28 rfl;replace hm:_=some r:=hm;refine q_sq (s_vn [] 1 ⟨[(97,vc (tl qD dd a1.Prices)),(98,vi (a1.Prices.length:Int)),(99,vi 0)],[]⟩ ?_);obtain⟨u40,h39,hm⟩:=qC hm;refine zO (nd f167 8180) 2 (by kernel_rfl) FUEL (λo=>FW) (λv st=>RetQ Tryz.prog f167 (ZQ v) (ZR v) .ret st) u40 (q_hl (KR a1 0) (qDi E a1 FUEL 0 u40 h39)) ?_ ?_
          ·rintro v41 rfl st hr;obtain rfl:=oi hm;exact hr
          ·rintro o38 rfl;replace hm:_=some r:=hm;refine s_vn [] 1 ⟨[(2,vi 0)],[]⟩ ?_;obtain rfl:=oi hm;exact q_rt q_rm
   ·rcases bif_c hm with⟨b7,hm⟩|⟨b7,hm⟩
    ·exact q_vv [qf 3 b7] 1 [28] [(46,vb true)] (q_J (true) hm)
    ·rcases bif_c hm with⟨b8,hm⟩|⟨b8,hm⟩
     ·exact q_vv [qf 3 b7,qf 8 b8] 1 [28] [(46,vb true)] (q_J (true) hm)
     ·rcases bif_c hm with⟨b9,hm⟩|⟨b9,hm⟩
      ·exact q_vv [qf 3 b7,qf 8 b8,qf 13 b9] 1 [28] [(46,vb true)] (q_J (true) hm)
      ·exact q_vv [qf 3 b7,qf 8 b8,qf 13 b9] 1 [28] [(46,vb (decide (a1.Wane>1000)))] (q_J (decide (a1.Wane>1000)) hm)
 ·rcases bif_c hm with⟨b2,hm⟩|⟨b2,hm⟩
  ·exact q_vv [qf 3 b2] 1 [] [(28,vb true)] (q_J (true) hm)
  ·rcases bif_c hm with⟨b3,hm⟩|⟨b3,hm⟩
   ·exact q_vv [qf 3 b2,qf 8 b3] 1 [] [(28,vb true)] (q_J (true) hm)
   ·rcases bif_c hm with⟨b4,hm⟩|⟨b4,hm⟩
    ·exact q_vv [qf 3 b2,qf 8 b3,qf 15 b4] 1 [] [(28,vb true)] (q_J (true) hm)
    ·exact q_vv [qf 3 b2,qf 8 b3,qf 15 b4] 1 [] [(28,vb (decide (a1.Width>600)))] (q_J (decide (a1.Width>600)) hm)
def UN (r:Int):V:=vi r
def WS (r:Int):List (Nat×(Nat×O)):=[]
theorem qGM (r:Int):ZE (WS r):=by
 intro i k o h;unfold WS at h;cases h
def MB (a1:List qE) (x3:Int):St:=
 ⟨[(0,vc (tl qP dd a1)),(11,vc (tl qP dd a1)),(12,vi (a1.length:Int)),(13,vi x3)],[]⟩
def qDh :St:=
 ⟨[],[]⟩
theorem qJE (E:Env 0) (a1:List qE):∀(n:Nat) (x3:Int) (res:Int⊕Unit),YF a1 n x3=some res->HL (kx E 38 0) (nd f107 116) (wL 0 (λo=>qDh) (λv st=>RetQ Tryz.prog f107 (UN v) (WS v) .ret st) res) n (MB a1 x3):=by
 intro n
 induction n with
 |zero=>
  intro x3 res hm;cases hm
 |succ n ih=>
  intro x3 res hm;refine qS (s_va 0 [(14,vb (decide (x3<(a1.length:Int))))] ?_);refine q_sq (q_cq hm (λhm=>?_) (λhm=>?_))
  ·refine q_sk (q_sq ?_);refine q_bk 1 ?_;obtain⟨g5,hm⟩:=qJ hm;refine s_vu [qi 1 g5] 0 [14] [(3,vi x3),(4,vp 0 0)] [] [(0,bx 74 (qP (a1.getD x3.toNat dd)))] (q_sq ?_);obtain⟨v6,h7,hm⟩:=qC hm;refine s_vv [qc 2 [19] 1 (qOA ((a1.getD x3.toNat dd).Name) v6 h7)] 1 [] [(21,vb (!v6))] (q_cq hm (λhm=>?_) (λhm=>?_))
   ·refine s_vn [] 1 ⟨[(2,vi 6)],[]⟩ ?_;obtain rfl:=oi hm;refine q_rt (zJ 6 ?_);exact q_rm
   ·refine q_sk (q_sq ?_);obtain⟨g9,hm⟩:=qJ hm;obtain⟨v10,h11,hm⟩:=qC hm;refine s_du [qd 2 (drw ((a1.take x3.toNat).length) 0 (rf qP (a1.take x3.toNat))) (slPhi qP dd a1 x3 (And.intro (zU g9).2.1 (zU g9).2.2)),qc 5 [25,27] 1 (qOM (a1.take x3.toNat) ((a1.getD x3.toNat dd).Name) v10 h11)] [0,0,3,0,8,31,63,127,127,255,1023] 1 [3,21] [(6,vb v10.2)] [] [] (s_vv [] 1 [6] [(31,vb v10.2)] ?_);refine q_cq hm (λhm=>?_) (λhm=>?_)
    ·refine s_vn [] 1 ⟨[(2,vi 7)],[]⟩ ?_;obtain rfl:=oi hm;refine q_rt (zJ 7 ?_);exact q_rm
    ·refine q_sk ?_;obtain⟨v13,h14,hm⟩:=qC hm;refine s_vu [qc 1 [32] 1 (qFD (a1.getD x3.toNat dd) v13 h14)] 1 [4,31] [(7,vi v13)] [0] [] (s_va 1 [(35,vb (v13 !=0))] ?_);refine q_cq hm (λhm=>?_) (λhm=>?_)
     ·refine s_vn [] 1 ⟨[(2,vi v13)],[]⟩ ?_;obtain rfl:=oi hm;refine q_rt (zJ v13 ?_);exact q_rm
     ·refine q_sk (q_vv [] 1 [7,13,35] [(13,vi (w64 (x3+1)))] ?_);exact q_hl (MB a1 (w64 (x3+1))) (ih (w64 (x3+1)) _ hm)
  ·refine q_ex 0 ?_;obtain rfl:=oi hm;exact q_l1 ()
theorem YE (a1:List qE) (r:Int) (hm:ZV a1=some r):CtX Tryz.prog globs 107 0 0 [.one (tl qP dd a1)] [] (UN r) (WS r):=by
 unfold ZV at hm;refine q_E f107 38 λE=>?_;refine s_vn [] 0 ⟨[(0,vc (tl qP dd a1))],[]⟩ (q_sq ?_);refine s_va 0 [(10,vb (decide ((a1.length:Int)>16)))] (q_cq hm (λhm=>?_) (λhm=>?_))
 ·refine s_vn [] 0 ⟨[(2,vi 4)],[]⟩ ?_;obtain rfl:=oi hm;exact q_rt q_rm
 ·refine q_sk (q_sq ?_);refine s_vv [] 0 [10] [(11,vc (tl qP dd a1)),(12,vi (a1.length:Int)),(13,vi 0)] ?_;obtain⟨u18,h17,hm⟩:=qC hm;refine zO (nd f107 116) 0 (by kernel_rfl) FUEL (λo=>qDh) (λv st=>RetQ Tryz.prog f107 (UN v) (WS v) .ret st) u18 (q_hl (MB a1 0) (qJE E a1 FUEL 0 u18 h17)) ?_ ?_
  ·rintro v19 rfl st hr;obtain rfl:=oi hm;exact hr
  ·rintro o16 rfl;replace hm:_=some r:=hm;refine s_vn [] 0 ⟨[(2,vi 0)],[]⟩ ?_;obtain rfl:=oi hm;exact q_rt q_rm
end Saw
end Go.SL

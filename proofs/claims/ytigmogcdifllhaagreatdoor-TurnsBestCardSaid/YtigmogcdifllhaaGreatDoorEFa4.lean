import Derived.Test.YtigmogcdifllhaaGreatDoorEBase
import Derived.Test.YtigmogcdifllhaaGreatDoorTPm
import Derived.WalkKit
import Derived.Lib.Builder
import Derived.Test.YtigmogcdifllhaaGreatDoorEFa3
import Derived.Test.YtigmogcdifllhaaGreatDoorEFa2
import Derived.Test.YtigmogcdifllhaaGreatDoorEFa1
set_option linter.unusedVariables false
set_option linter.unusedSimpArgs false
namespace Go.SL
namespace Saw
open Go.Proofs Go.Proofs.Tryz
set_option maxHeartbeats 4000000
def qJz (r:(List qO)×(List qH)×Int):V:= .tup [.one (tl qS du r.1),.one (tl qN du r.2.1),.one (ci r.2.2)]
def qJJ (r:(List qO)×(List qH)×Int):List (Nat×(Nat×O)):=[]
open Go.RowKit
theorem res3 (tmps:Array Value) (w:World) (b8 b9 b10:Nat) (x8 x9 x10:Value) (j8:tmps.getD 8 undef= .pointer (some ⟨b8,0,none⟩)) (j9:tmps.getD 9 undef= .pointer (some ⟨b9,0,none⟩)) (j10:tmps.getD 10 undef= .pointer (some ⟨b10,0,none⟩))
  (h8:w.cell? ⟨b8,0,none⟩=some x8) (h9:w.cell? ⟨b9,0,none⟩=some x9) (h10:w.cell? ⟨b10,0,none⟩=some x10):(results f10 tmps).run Tryz.prog w= .ok (.tuple #[x8,x9,x10]) w:=by
 have hres:f10.results= #[.cell 8 30,.cell 9 23,.cell 10 31]:=by kernel_rfl
 have a30:=Tryz.isAgg30;have a23:=Tryz.isAgg23;have a31:=Tryz.isAgg31;rw[ku] at j8 j9 j10;unfold results;rw[hres];simp[j8,j9,j10,h8,h9,h10,go_sem,a30,a23,a31]
theorem qTP {w:World} {b:Nat} {cs:Array Value} {e:TypeId} (h:w.heap[b]? =some (.cells cs e (0,0))):w.frozen? ⟨b,0,none⟩=false:=Go.Lib.frozen_of_heap h 0
theorem IT {w:World} {b:Nat} {v:Value} {e:TypeId} {z:Nat×Nat} (h:w.heap[b]? =some (.cells #[v] e z)):w.cell? ⟨b,0,none⟩=some v:=by rw[Go.Lib.cell_of_heap h];rfl
theorem qTI {w:World} {b:Nat} {x:Value} {T:TypeId} {fr:Nat×Nat} {v:Value} (hb:w.heap[b]? =some (.cells #[x] T fr)):(w.setCell ⟨b,0,none⟩ v).heap[b]? =some (.cells #[v] T fr):=by
 simp[World.setCell,uZ,hb]
theorem qEz {w:World} {b c o:Nat} {v:Value} (h:c≠b):(w.setCell ⟨b,o,none⟩ v).heap[c]? =w.heap[c]? :=by
 simp[World.setCell,uZ,Ne.symm h]
theorem tup3 {w:World} {M:Mem} {x y z:C} {a b c:Value} (h1:CRep w M x a) (h2:CRep w M y b) (h3:CRep w M z c):VRep w M (.tup [.one x,.one y,.one z]) (.tuple #[a,b,c]):=by
 refine⟨_,rfl,rfl,λj hj=>?_⟩
 match j,hj with
 |0,_=>exact h1
 |1,_=>exact h2
 |2,_=>exact h3
theorem qIl (a1:Scan) (a2 a3 a4:Int) (r:(List qO)×(List qH)×Int) (hm:wU a1 a2 a3 a4=some r):CtX Tryz.prog globs 10 0 0 [.agg (jG a1),.one (ci a2),.one (ci a3),.one (ci a4)] [] (qJz r) (qJJ r):=by
 unfold wU at hm;obtain⟨v5,h6,hm⟩:=qC hm;obtain⟨v7,h8,hm⟩:=qC hm;obtain⟨v9,h10,hm⟩:=qC hm;refine qWR (by kernel_rfl) λw A vs hg ha=>?_;refine qXE a1 a2 a3 a4 v5 v7 v9 h6 h8 h10 w A vs hg ha _ ?_;intro M w4 b8 b9 b10 b12 x8 x9 hb hA ⟨g8,g9,g10⟩ ⟨n1,n2,n3,n4,n5,n6⟩ ⟨o8,o9,o10⟩ m8 m9 m10 m12 r8 r9 tmps j8 j9 j10
 have entry:(invoke (.fn (.func 24) #[.pointer (some ⟨b12,0,none⟩),.pointer (some ⟨b10,0,none⟩),.pointer (some ⟨b8,0,none⟩),.pointer (some ⟨b9,0,none⟩)]) #[]).run Tryz.prog w4= .ok (.enter 24 #[.pointer (some ⟨b12,0,none⟩),.pointer (some ⟨b10,0,none⟩),.pointer (some ⟨b8,0,none⟩),.pointer (some ⟨b9,0,none⟩)]) w4:=
  enters_of Tryz.func24 (by kernel_rfl) rfl _ w4
 refine leaves_cons (f:=24) (by simp) entry ?_;by_cases he:v7.2=0
 ·refine(qYx b12 b10 b8 b9 v7.2 0 .returning w4 (IT m12) (IT m10) (qTP m10) n1 he).mono ?_;rintro e u' w' ⟨rfl,rfl,rfl⟩;have s8:(w4.setCell ⟨b10,0,none⟩ (.int .i64 0)).heap[b8]? =some (.cells #[x8] 30 (0,0)):=by rw[qEz (Ne.symm n4)];exact m8
  have s9:(w4.setCell ⟨b10,0,none⟩ (.int .i64 0)).heap[b9]? =some (.cells #[x9] 23 (0,0)):=by rw[qEz (Ne.symm n5)];exact m9
  have s10:(w4.setCell ⟨b10,0,none⟩ (.int .i64 0)).heap[b10]? =some (.cells #[.int .i64 0] 31 (0,0)):=qTI m10;refine⟨_,res3 tmps _ b8 b9 b10 x8 x9 (.int .i64 0) j8 j9 j10 (IT s8) (IT s9) (IT s10),_,rfl,hb.setCell (p:=⟨b10,0,none⟩) g10 _,?_⟩;have e0:(v7.2 !=0)=false:=by simp[he]
  rw[e0,kv] at hm;obtain rfl:=oi hm;have mv:∀{c:C} {u:Value},IRep w4 M.imm c u->IRep (w4.setCell ⟨b10,0,none⟩ (.int .i64 0)) (Mem.of λb=>A b\/w.heap.size<=b).imm c u:=λh=>h.move (λb hi _=>qEz (λe=>hi.2 (e▸o10))) λb hi _=>⟨(hA b).1 hi.1,fun⟨i,k,hv,_⟩=>(by cases hv)⟩
  exact tup3 (mv r8) (mv r9) (show IRep _ _ (ci v7.2) _ by rw[he];exact .val _ rfl)
 ·refine(q0d b12 b10 b8 b9 v7.2 0 x8 x9 .returning w4 (IT m12) (IT m10) (IT m8) (IT m9) (qTP m10) (qTP m8) (qTP m9) n1 n2 n3 n4 n5 n6 he).mono ?_;rintro e u' w' ⟨rfl,rfl,rfl⟩;have s8:(((w4.setCell ⟨b10,0,none⟩ (.int .i64 v7.2)).setCell ⟨b8,0,none⟩ (.slice none 0 0)).setCell ⟨b9,0,none⟩ (.slice none 0 0)).heap[b8]? =some (.cells #[.slice none 0 0] 30 (0,0)):=by
   rw[qEz n6];exact qTI (by rw[qEz (Ne.symm n4)];exact m8)
  have s9:(((w4.setCell ⟨b10,0,none⟩ (.int .i64 v7.2)).setCell ⟨b8,0,none⟩ (.slice none 0 0)).setCell ⟨b9,0,none⟩ (.slice none 0 0)).heap[b9]? =some (.cells #[.slice none 0 0] 23 (0,0)):=
   qTI (by rw[qEz (Ne.symm n6),qEz (Ne.symm n5)];exact m9)
  have s10:(((w4.setCell ⟨b10,0,none⟩ (.int .i64 v7.2)).setCell ⟨b8,0,none⟩ (.slice none 0 0)).setCell ⟨b9,0,none⟩ (.slice none 0 0)).heap[b10]? =some (.cells #[.int .i64 v7.2] 31 (0,0)):=by
   rw[qEz n5,qEz n4];exact qTI m10
  refine⟨_,res3 tmps _ b8 b9 b10 _ _ _ j8 j9 j10 (IT s8) (IT s9) (IT s10),_,rfl,((hb.setCell (p:=⟨b10,0,none⟩) g10 _).setCell (p:=⟨b8,0,none⟩) g8 _).setCell (p:=⟨b9,0,none⟩) g9 _,?_⟩;have e0:(v7.2 !=0)=true:=by simpa using he
  rw[e0,kp] at hm;obtain rfl:=oi hm;exact tup3 (IRep.lst0 _ _) (IRep.lst0 _ _) (show IRep _ _ (ci v7.2) _ from .val _ rfl)
set_option maxRecDepth 100000
def qOd (r:Rect):V:=va (qR r)
def qOb (r:Rect):List (Nat×(Nat×O)):=[]
def CQ (v2:qG) (x6:Int):St:=
 ⟨[(1,vp 0 0),(2,vp 1 0),(3,vp 2 0),(18,vc (tl qL du v2.Rows)),(19,vi (v2.Rows.length:Int)),(20,vi x6)],[(0,bx 78 (zA v2)),(1,bx 55 [ci 0,ci 0,ci 0,ci 0])]⟩
def qJY (v2:qG) (x6:Int) (x13:Span):St:=
 (CQ v2 x6).up [] [] [] [(2,bx 53 (qL x13))]
def LB (v2:qG) (x6:Int) (x7:Span):St:=
 (CQ v2 x6).up [] [] [] [(2,bx 53 (qL x7))]
def qBo (v2:qG) (x14:Span):St:=
 ⟨[(1,vp 0 0),(2,vp 1 0),(3,vp 2 0)],[(0,bx 78 (zA v2)),(1,bx 55 [ci 0,ci 0,ci 0,ci 0]),(2,bx 53 (qL x14))]⟩
theorem qIY (E:Env 0) (v2:qG):∀(n:Nat) (x6:Int) (x7:Span) (res:Span),yY v2 n x6 x7=some res->HL (kx E 50 0) (nd f123 500) (zN 0 (λo=>qBo v2 o) res) n (LB v2 x6 x7):=by
 intro n
 induction n with
 |zero=>
  intro x6 x7 res hm;cases hm
 |succ n ih=>
  intro x6 x7 res hm;refine qU (s_va 3 [(21,vb (decide (x6<(v2.Rows.length:Int))))] ?_);refine q_sq (q_cq hm (λhm=>?_) (λhm=>?_))
  ·refine q_sk (q_jn (qJY v2 x6) (λp=>AI x6 (yY v2 n) p=some res) ?_ ?_)
   ·rintro x13 hm;exact q_vv [] 4 [20] [(20,vi (w64 (x6+1)))] (q_hl (LB v2 (w64 (x6+1)) x13) (ih (w64 (x6+1)) x13 _ hm))
   ·refine q_bk 1 ?_;obtain⟨g9,hm⟩:=qJ hm;refine s_vu [qi 0 g9] 3 [21] [(5,vp 3 0)] [] [(3,bx 53 (qL (v2.Rows.getD x6.toNat du)))] ?_;obtain⟨v10,h11,hm⟩:=qC hm;refine s_vv [qc 1 [24] 4 (yD (v2.Rows.getD x6.toNat du) v10 h11)] 4 [] [(26,vb (!v10))] (q_cq hm (λhm=>?_) (λhm=>?_))
    ·exact q_vu [] 4 [5,26] [] [2,3] [(2,bx 53 [ci (imin x7.A ((v2.Rows.getD x6.toNat du).A)),ci (imax x7.B ((v2.Rows.getD x6.toNat du).B))])] (q_J ((Span.mk (imin x7.A ((v2.Rows.getD x6.toNat du).A)) (imax x7.B ((v2.Rows.getD x6.toNat du).B)))) hm)
    ·exact q_sk (q_J (x7) hm)
  ·refine q_ex 0 ?_;obtain rfl:=oi hm;exact q_l0
theorem qL9 (a1:qG) (r:Rect) (hm:BA a1=some r):CtX Tryz.prog globs 123 0 0 [.agg (zA a1)] [] (qOd r) (qOb r):=by
 unfold BA at hm;refine q_E f123 50 λE=>?_;refine s_vn [] 0 ⟨[(1,vp 0 0),(2,vp 1 0)],[(0,bx 78 (zA a1)),(1,bx 55 [ci 0,ci 0,ci 0,ci 0])]⟩ ?_;obtain⟨v2,h3,hm⟩:=qC hm;refine s_vu [qc 1 [6] 2 (RW a1 v2 h3)] 2 [] [] [0] [(0,bx 78 (zA v2))] (q_sq ?_);refine s_va 2 [(11,vb ((v2.Rows.length:Int)==0))] (q_cq hm (λhm=>?_) (λhm=>?_))
 ·refine s_vu [] 2 [1,11] [] [0] [] ?_;obtain rfl:=oi hm;exact q_rt q_rm
 ·refine q_sk ?_;obtain⟨g5,hm⟩:=qJ hm;refine s_vu [qi 2 g5] 2 [11] [(3,vp 2 0)] [] [(2,bx 53 (qL (v2.Rows.getD (0:Int).toNat du)))] (q_sq ?_);refine s_va 3 [(18,vc (tl qL du v2.Rows)),(19,vi (v2.Rows.length:Int)),(20,vi 0)] ?_;obtain⟨o15,h16,hm⟩:=qC hm;refine zI (nd f123 500) 0 (by kernel_rfl) FUEL (λo=>qBo v2 o) o15 (q_hl (LB v2 0 (v2.Rows.getD (0:Int).toNat du)) (qIY E v2 FUEL 0 (v2.Rows.getD (0:Int).toNat du) o15 h16)) ?_;obtain⟨v17,h18,hm⟩:=qC hm
  refine s_dn [qc 9 [41,47] 3 (SD v2.Low (w64 (v2.Low+(v2.Rows.length:Int))) v17 h18)] [0,0,2,0,8,0,32,96,248,510,1023,2047] 3 ⟨[(2,vp 1 0)],[(1,bx 55 [ci o15.A,ci o15.B,ci v17.A,ci v17.B])]⟩ ?_;obtain rfl:=oi hm;exact q_rt q_rm
def qDv (r:Int):V:=vi r
def qDK (r:Int):List (Nat×(Nat×O)):=[]
def qNW (a1:List qO) (x4:Int) (x5:Int) (x13:Bool):St:=
 ⟨[(3,vi x4),(5,vp 0 0),(13,vc (tl qS du a1)),(14,vi (a1.length:Int)),(15,vi x5),(39,vb x13)],[(0,bx 80 (qS (a1.getD x5.toNat du)))]⟩
def CD (a1:List qO) (x4:Int) (x5:Int):St:=
 ⟨[(3,vi x4),(13,vc (tl qS du a1)),(14,vi (a1.length:Int)),(15,vi x5)],[]⟩
def qEO :St:=
 ⟨[],[]⟩
theorem qL4 (E:Env 0) (a1:List qO):∀(n:Nat) (x4:Int) (x5:Int) (res:Int⊕Unit),WE a1 n x4 x5=some res->HL (kx E 45 0) (nd f106 500) (wY 0 (λo=>qEO) (λv st=>RetQ Tryz.prog f106 (qDv v) (qDK v) .ret st) res) n (CD a1 x4 x5):=by
 intro n
 induction n with
 |zero=>
  intro x4 x5 res hm;cases hm
 |succ n ih=>
  intro x4 x5 res hm;refine qU (s_va 0 [(16,vb (decide (x5<(a1.length:Int))))] ?_);refine q_sq (q_cq hm (λhm=>?_) (λhm=>?_))
  ·refine q_sk (q_sq ?_);refine q_bk 1 ?_;obtain⟨g7,hm⟩:=qJ hm;refine s_vu [qi 0 g7] 0 [16] [(5,vp 0 0)] [] [(0,bx 80 (qS (a1.getD x5.toNat du)))] (q_sq ?_);obtain⟨v8,h9,hm⟩:=qC hm;refine s_vv [qc 2 [20] 1 (qFI ((a1.getD x5.toNat du).Sec) v8 h9)] 1 [] [(6,vi v8)] (s_va 1 [(23,vb (v8 !=0))] ?_);refine q_cq hm (λhm=>?_) (λhm=>?_)
   ·refine s_vn [] 1 ⟨[(2,vi v8)],[]⟩ ?_;obtain rfl:=oi hm;refine q_rt (zQ v8 ?_);exact q_rm
   ·refine q_sk (q_sq ?_);refine s_vv [] 1 [6,23] [(29,vb ((((((a1.getD x5.toNat du).Sec).Rows).length:Nat):Int)==0))] (q_cq hm (λhm=>?_) (λhm=>?_))
    ·refine s_vn [] 1 ⟨[(2,vi 18)],[]⟩ ?_;obtain rfl:=oi hm;refine q_rt (zQ 18 ?_);exact q_rm
    ·refine q_sk (q_sq ?_);refine q_jn (qNW a1 x4 x5) (λp=>qBZ a1 x4 x5 (WE a1 n) p=some res) ?_ ?_
     ·rintro x13 hm;refine q_cq hm (λhm=>?_) (λhm=>?_)
      ·refine s_vn [] 1 ⟨[(2,vi 9)],[]⟩ ?_;obtain rfl:=oi hm;refine q_rt (zQ 9 ?_);exact q_rm
      ·refine q_sk (q_vu [] 1 [3,5,39] [(3,vi (w64 (x4+((a1.getD x5.toNat du).Len))))] [0] [] ?_);exact q_vv [] 1 [15] [(15,vi (w64 (x5+1)))] (q_hl (CD a1 (w64 (x4+((a1.getD x5.toNat du).Len))) (w64 (x5+1))) (ih (w64 (x4+((a1.getD x5.toNat du).Len))) (w64 (x5+1)) _ hm))
     ·rcases bif_c hm with⟨b12,hm⟩|⟨b12,hm⟩
      ·exact q_vv [qf 3 b12] 1 [29] [(39,vb true)] (q_J (true) hm)
      ·exact q_vv [qf 3 b12] 1 [29] [(39,vb (decide (((a1.getD x5.toNat du).Len)>(w64 (20000-x4)))))] (q_J (decide (((a1.getD x5.toNat du).Len)>(w64 (20000-x4)))) hm)
  ·refine q_ex 0 ?_;obtain rfl:=oi hm;exact q_l1 ()
theorem YL (a1:List qO) (r:Int) (hm:PT a1=some r):CtX Tryz.prog globs 106 0 0 [.one (tl qS du a1)] [] (qDv r) (qDK r):=by
 unfold PT at hm;refine q_E f106 45 λE=>?_;refine s_vn [] 0 ⟨[(0,vc (tl qS du a1))],[]⟩ (q_sq ?_);refine s_va 0 [(9,vb ((a1.length:Int)==0))] (q_cq hm (λhm=>?_) (λhm=>?_))
 ·refine s_vn [] 0 ⟨[(2,vi 3)],[]⟩ ?_;obtain rfl:=oi hm;exact q_rt q_rm
 ·refine q_sk (q_sq ?_);refine s_vv [] 0 [9] [(12,vb (decide ((a1.length:Int)>24)))] (q_cq hm (λhm=>?_) (λhm=>?_))
  ·refine s_vn [] 0 ⟨[(2,vi 4)],[]⟩ ?_;obtain rfl:=oi hm;exact q_rt q_rm
  ·refine q_sk (s_vv [] 0 [12] [(3,vi 0)] ?_);refine q_sq (s_vv [] 0 [0] [(13,vc (tl qS du a1)),(14,vi (a1.length:Int)),(15,vi 0)] ?_);obtain⟨u17,h16,hm⟩:=qC hm;refine zY (nd f106 500) 0 (by kernel_rfl) FUEL (λo=>qEO) (λv st=>RetQ Tryz.prog f106 (qDv v) (qDK v) .ret st) u17 (q_hl (CD a1 0 0) (qL4 E a1 FUEL 0 0 u17 h16)) ?_ ?_
   ·rintro v18 rfl st hr;obtain rfl:=oi hm;exact hr
   ·rintro o15 rfl;replace hm:_=some r:=hm;refine s_vn [] 0 ⟨[(2,vi 0)],[]⟩ ?_;obtain rfl:=oi hm;exact q_rt q_rm
def qSY (r:(List qO)):V:=vc (tl qS du r)
def qTj (r:(List qO)):List (Nat×(Nat×O)):=[]
theorem SZ (a1:List qO) (r:(List qO)) (hm:PS a1=some r):CtX Tryz.prog globs 119 0 0 [.one (tl qS du a1)] [] (qSY r) (qTj r):=by
 unfold PS at hm;refine q_E f119 7 λE=>?_;refine s_vn [] 0 ⟨[(0,vc (tl qS du a1))],[]⟩ (q_sq ?_);obtain⟨v2,h3,hm⟩:=qC hm;refine s_vv [qc 1 [3] 0 (YL a1 v2 h3)] 0 [] [(5,vb (v2 !=0))] (q_cq hm (λhm=>?_) (λhm=>?_))
 ·refine s_vn [] 0 ⟨[(2,vc (.emp))],[]⟩ (q_fn [.own 2 0 80 3 (rf qS [])] ⟨[(2,vo 0 0 3 0)],[(0,ro 0 80 3 0 (rf qS []))]⟩ o0 ?_);refine q_fn [.len 0 (([]:List qO).length),.frz 0] ⟨[(2,vc (tl qS du ([]:List qO)))],[]⟩ (o1 (And.intro (And.intro (show 0=([]:List qO).length from rfl) (show 0=([]:List qO).length from rfl)) (ke (([]:List qO).length)))) ?_;obtain rfl:=oi hm;exact q_rt q_rm
 ·refine q_sk (s_vn [] 0 ⟨[(2,vc (tl qS du a1))],[]⟩ ?_);obtain rfl:=oi hm;exact q_rt q_rm
def qRo (r:Rect):V:=va (qR r)
def qRH (r:Rect):List (Nat×(Nat×O)):=[]
def qMc (v2:(List qO)) (x4:Int) (v8:Rect) (x11:Rect):St:=
 ⟨[(2,vp 0 0),(3,vp 1 0),(6,vp 3 0),(8,vc (tl qS du v2)),(9,vi (v2.length:Int)),(10,vi x4)],[(0,bx 55 [ci 0,ci 0,ci 0,ci 0]),(1,bx 55 (qR x11)),(3,bx 55 (qR v8))]⟩
def AN (v2:(List qO)) (x4:Int) (x5:Rect):St:=
 ⟨[(2,vp 0 0),(3,vp 1 0),(8,vc (tl qS du v2)),(9,vi (v2.length:Int)),(10,vi x4)],[(0,bx 55 [ci 0,ci 0,ci 0,ci 0]),(1,bx 55 (qR x5))]⟩
def qDW (x12:Rect):St:=
 ⟨[(2,vp 0 0),(3,vp 1 0)],[(0,bx 55 [ci 0,ci 0,ci 0,ci 0]),(1,bx 55 (qR x12))]⟩
theorem qKo (E:Env 0) (v2:(List qO)):∀(n:Nat) (x4:Int) (x5:Rect) (res:Rect),ZN v2 n x4 x5=some res->HL (kx E 55 0) (nd f61 116) (zN 0 qDW res) n (AN v2 x4 x5):=by
 intro n
 induction n with
 |zero=>
  intro x4 x5 res hm;cases hm
 |succ n ih=>
  intro x4 x5 res hm;refine qU (s_va 2 [(11,vb (decide (x4<(v2.length:Int))))] ?_);refine q_sq (q_cq hm (λhm=>?_) (λhm=>?_))
  ·refine q_sk (q_sq ?_);refine q_bk 1 ?_;obtain⟨g7,hm⟩:=qJ hm;refine s_vu [qi 1 g7] 2 [11] [(4,vi x4),(5,vp 2 0)] [] [(2,bx 80 (qS (v2.getD x4.toNat du)))] ?_;obtain⟨v8,h9,hm⟩:=qC hm;refine s_vu [qc 2 [16] 3 (qL9 ((v2.getD x4.toNat du).Sec) v8 h9)] 3 [5] [(6,vp 3 0)] [2] [(3,bx 55 (qR v8))] (q_jn (qMc v2 x4 v8) (λp=>qAi x4 (ZN v2 n) v8 p=some res) ?_ ?_)
   ·rintro x11 hm;refine s_vu [] 4 [] [] [1] [(1,bx 55 [ci (imin x11.X.A v8.X.A),ci (imax x11.X.B v8.X.B),ci x11.Y.A,ci x11.Y.B])] (q_vu [] 4 [6] [] [1,3] [(1,bx 55 [ci (imin x11.X.A v8.X.A),ci (imax x11.X.B v8.X.B),ci (imin x11.Y.A v8.Y.A),ci (imax x11.Y.B v8.Y.B)])] ?_)
    exact q_vv [] 4 [10] [(10,vi (w64 (x4+1)))] (q_hl (AN v2 (w64 (x4+1)) (Rect.mk (Span.mk (imin x11.X.A v8.X.A) (imax x11.X.B v8.X.B)) (Span.mk (imin x11.Y.A v8.Y.A) (imax x11.Y.B v8.Y.B)))) (ih (w64 (x4+1)) (Rect.mk (Span.mk (imin x11.X.A v8.X.A) (imax x11.X.B v8.X.B)) (Span.mk (imin x11.Y.A v8.Y.A) (imax x11.Y.B v8.Y.B))) _ hm))
   ·refine s_vv [] 4 [4] [(19,vb (x4==0))] (q_cq hm (λhm=>?_) (λhm=>?_))
    ·exact q_vu [] 4 [19] [] [1] [(1,bx 55 (qR v8))] (q_J (v8) hm)
    ·exact q_sk (q_J (x5) hm)
  ·refine q_ex 0 ?_;obtain rfl:=oi hm;exact q_l0
theorem qQs (a1:List qO) (r:Rect) (hm:HI a1=some r):CtX Tryz.prog globs 61 0 0 [.one (tl qS du a1)] [] (qRo r) (qRH r):=by
 unfold HI at hm;refine q_E f61 55 λE=>?_;refine s_vn [] 0 ⟨[(0,vc (tl qS du a1)),(2,vp 0 0)],[(0,bx 55 [ci 0,ci 0,ci 0,ci 0])]⟩ (s_vu [] 1 [] [(3,vp 1 0)] [] [(1,bx 55 [ci 0,ci 0,ci 0,ci 0])] ?_);refine q_sq ?_;obtain⟨v2,h3,hm⟩:=qC hm;refine s_vv [qc 1 [7] 2 (SZ a1 v2 h3)] 2 [0] [(8,vc (tl qS du v2)),(9,vi (v2.length:Int)),(10,vi 0)] ?_;obtain⟨o13,h14,hm⟩:=qC hm;refine zI (nd f61 116) 0 (by kernel_rfl) FUEL qDW o13 (q_hl (AN v2 0 (Rect.mk (Span.mk 0 0) (Span.mk 0 0))) (qKo E v2 FUEL 0 (Rect.mk (Span.mk 0 0) (Span.mk 0 0)) o13 h14)) (s_vu [] 2 [3] [] [0,1] [(0,bx 55 (qR o13))] ?_)
 obtain rfl:=oi hm;exact q_rt q_rm
def qWa (r:Rect):V:=va (qR r)
def qVs (r:Rect):List (Nat×(Nat×O)):=[]
theorem qTp (a1:List qO) (r:Rect) (hm:PK a1=some r):CtX Tryz.prog globs 31 0 0 [.one (tl qS du a1)] [] (qWa r) (qVs r):=by
 unfold PK at hm;refine q_E f31 5 λE=>?_;refine s_vn [] 0 ⟨[(0,vc (tl qS du a1)),(2,vp 0 0)],[(0,bx 55 [ci 0,ci 0,ci 0,ci 0])]⟩ ?_;obtain⟨v2,h3,hm⟩:=qC hm;refine s_vu [qc 1 [3] 1 (qQs a1 v2 h3)] 1 [0] [] [0] [(0,bx 55 (qR v2))] ?_;obtain rfl:=oi hm;exact q_rt q_rm
def qV6 (r:Rect):V:=va (qR r)
def qTU (r:Rect):List (Nat×(Nat×O)):=[]
theorem qDx (a1:Rect) (a2:Int) (a3:Int) (r:Rect) (hm:PH a1 a2 a3=some r):CtX Tryz.prog globs 56 0 0 [.agg (qR a1),.one (ci a2),.one (ci a3)] [] (qV6 r) (qTU r):=by
 unfold PH at hm;refine q_E f56 21 λE=>?_;refine s_vn [] 0 ⟨[(1,vi a2),(2,vi a3),(3,vp 0 0),(6,vp 1 0)],[(0,bx 55 (qR a1)),(1,bx 55 [ci 0,ci 0,ci 0,ci 0])]⟩ (s_vn [] 2 ⟨[(6,vp 1 0)],[(1,bx 55 [ci a1.X.A,ci a1.X.B,ci (w64 (a1.Y.A+a2)),ci (w64 (a1.Y.A+a3))])]⟩ ?_);obtain rfl:=oi hm;exact q_rt q_rm
def qEk (a1:List Node) (a2:List (List Node)) (r:(List (List Node))×(List (List Node))):V:=vo 0 0 1 r.2.length
def qEc (a1:List Node) (a2:List (List Node)) (r:(List (List Node))×(List (List Node))):List (Nat×(Nat×O)):=[(0,ro 0 56 1 r.2.length (rf (qW qK) r.2))]
theorem qK6 (a1:List Node) (a2:List (List Node)) (r:(List (List Node))×(List (List Node))) (hm:LQ a1 a2=some r):CtX Tryz.prog globs 57 1 0 [.one (.own 0 0 1 a2.length),.one (tl qK du a1)] [(0,ro 0 56 1 a2.length (rf (qW qK) a2))] (qEk a1 a2 r) (qEc a1 a2 r):=by
 unfold LQ at hm;refine q_E f57 9 λE=>?_;refine s_vn [] 1 ⟨[(0,vo 0 0 1 a2.length),(1,vc (tl qK du a1))],[(0,ro 0 56 1 a2.length (rf (qW qK) a2))]⟩ ?_;obtain⟨g3,hm⟩:=qJ hm
 refine s_vn [qd 2 (drw 1 0 (rf (qW qK) [a1])) (litP (qW qK) du 1 (λ_=>rfl) ([a1]:List (List Node)) 1 rfl),qd 3 (drw 0 1 (rf (qW qK) (a2++[a1]))) (apP (qW qK) du a2 ([a1]:List (List Node)) a2.length 1 1 24 (1<=1) (ke _) rfl rfl (λ_=>rfl) (wB g3))] 1 ⟨[(4,vo 0 1 1 (a2.length+1))],[(0,ro 1 56 1 (a2.length+1) (rf (qW qK) (a2++[a1])))]⟩ (q_fn [.len 0 ((a2++[a1]).length)] ⟨[(4,vo 0 1 1 ((a2++[a1]).length))],[(0,ro 1 56 1 ((a2++[a1]).length) (rf (qW qK) (a2++[a1])))]⟩ (o1 (And.intro (Eq.symm (show(a2++[a1]).length=(a2.length+1) from(wC rfl rfl))) (Eq.symm (show(a2++[a1]).length=(a2.length+1) from(wC rfl rfl))))) ?_)
 obtain rfl:=oi hm;exact q_rt q_rm
def qP1 (r:Bool):V:=vb r
def qQX (r:Bool):List (Nat×(Nat×O)):=[]
def qKr (x3:Bool):St:=
 ⟨[(2,vb x3)],[]⟩
theorem BG (a1:Int) (r:Bool) (hm:TP a1=some r):CtX Tryz.prog globs 210 0 0 [.one (.val (.int .u8 a1))] [] (qP1 r) (qQX r):=by
 unfold TP at hm;refine q_E f210 9 λE=>?_;refine s_vn [] 0 ⟨[(0,vc (.val (.int .u8 a1)))],[]⟩ (q_jn (qKr) (λp=>OP p=some r) ?_ ?_)
 ·rintro x3 hm;obtain rfl:=oi hm;exact q_rt q_rm
 ·rcases bif_c hm with⟨b2,hm⟩|⟨b2,hm⟩
  ·exact q_vn [qf 2 b2] 0 ⟨[(2,vb (decide (a1<=122)))],[]⟩ (q_J (decide (a1<=122)) hm)
  ·exact q_vn [qf 2 b2] 0 ⟨[(2,vb false)],[]⟩ (q_J (false) hm)
def qQu (r:Bool):V:=vb r
def qPQ (r:Bool):List (Nat×(Nat×O)):=[]
def qKU (x3:Bool):St:=
 ⟨[(2,vb x3)],[]⟩
theorem qFq (a1:Int) (r:Bool) (hm:NS a1=some r):CtX Tryz.prog globs 211 0 0 [.one (.val (.int .u8 a1))] [] (qQu r) (qPQ r):=by
 unfold NS at hm;refine q_E f211 9 λE=>?_;refine s_vn [] 0 ⟨[(0,vc (.val (.int .u8 a1)))],[]⟩ (q_jn (qKU) (λp=>CE p=some r) ?_ ?_)
 ·rintro x3 hm;obtain rfl:=oi hm;exact q_rt q_rm
 ·rcases bif_c hm with⟨b2,hm⟩|⟨b2,hm⟩
  ·exact q_vn [qf 2 b2] 0 ⟨[(2,vb (decide (a1<=57)))],[]⟩ (q_J (decide (a1<=57)) hm)
  ·exact q_vn [qf 2 b2] 0 ⟨[(2,vb false)],[]⟩ (q_J (false) hm)
def qBW (r:Bool):V:=vb r
def qCq (r:Bool):List (Nat×(Nat×O)):=[]
def qMC (a1:ByteArray) (x9:Int) (x18:Bool):St:=
 ⟨[(0,vc (cs a1)),(3,vi x9),(39,vb x18)],[]⟩
def AD (a1:ByteArray) (x9:Int):St:=
 ⟨[(0,vc (cs a1)),(3,vi x9)],[]⟩
def qEg :St:=
 ⟨[],[]⟩
def qMa (a1:ByteArray) (x7:Bool):St:=
 ⟨[(0,vc (cs a1)),(18,vb x7)],[]⟩
theorem qK1 (E:Env 0) (a1:ByteArray):∀(n:Nat) (x9:Int) (res:Bool⊕Unit),QA a1 n x9=some res->HL (kx E 40 0) (nd f165 116) (wY 0 (λo=>qEg) (λv st=>RetQ Tryz.prog f165 (qBW v) (qCq v) .ret st) res) n (AD a1 x9):=by
 intro n
 induction n with
 |zero=>
  intro x9 res hm;cases hm
 |succ n ih=>
  intro x9 res hm;refine qU (q_sq ?_);refine s_va 0 [(22,vb (decide (x9<(a1.size:Int))))] (q_cq hm (λhm=>?_) (λhm=>?_))
  ·refine q_sk (q_sq ?_);refine q_bk 1 ?_;obtain⟨g11,hm⟩:=qJ hm;refine s_vv [qi 2 g11] 0 [22] [(4,vc (.val (.int .u8 (TI a1 x9.toNat))))] (q_jn (qMC a1 x9) (λp=>UI x9 (QA a1 n) p=some res) ?_ ?_)
   ·rintro x18 hm;refine q_cq hm (λhm=>?_) (λhm=>?_)
    ·refine s_vn [] 0 ⟨[(2,vb false)],[]⟩ ?_;obtain rfl:=oi hm;refine q_rt (zQ false ?_);exact q_rm
    ·refine q_sk (q_vv [] 0 [3,39] [(3,vi (w64 (x9+1)))] ?_);exact q_hl (AD a1 (w64 (x9+1))) (ih (w64 (x9+1)) _ hm)
   ·obtain⟨v12,h13,hm⟩:=qC hm;rcases bif_c hm with⟨b14,hm⟩|⟨b14,hm⟩
    ·obtain⟨v15,h16,hm⟩:=qC hm;rcases bif_c hm with⟨b17,hm⟩|⟨b17,hm⟩
     ·exact q_vv [qc 1 [28] 0 (BG (TI a1 x9.toNat) v12 h13),qf 3 b14,qk 5 [31,32] 0 ⟨[(31,vb true),(32,vc (.val (.int .u8 (TI a1 x9.toNat))))],[]⟩ (qFq (TI a1 x9.toNat) v15 h16),qf 8 b17] 0 [4] [(39,vb ((TI a1 x9.toNat) !=95))] (q_J ((TI a1 x9.toNat) !=95) hm)
     ·exact q_vv [qc 1 [28] 0 (BG (TI a1 x9.toNat) v12 h13),qf 3 b14,qk 5 [31,32] 0 ⟨[(31,vb true),(32,vc (.val (.int .u8 (TI a1 x9.toNat))))],[]⟩ (qFq (TI a1 x9.toNat) v15 h16),qf 8 b17] 0 [4] [(39,vb false)] (q_J (false) hm)
    ·exact q_vv [qc 1 [28] 0 (BG (TI a1 x9.toNat) v12 h13),qf 3 b14] 0 [4] [(39,vb false)] (q_J (false) hm)
  ·refine q_ex 0 ?_;obtain rfl:=oi hm;exact q_l1 ()
theorem qQc (a1:ByteArray) (r:Bool) (hm:ME a1=some r):CtX Tryz.prog globs 165 0 0 [.one (cs a1)] [] (qBW r) (qCq r):=by
 unfold ME at hm;refine q_E f165 40 λE=>?_;refine s_vn [] 0 ⟨[(0,vc (cs a1))],[]⟩ (q_sq ?_);refine q_jn (qMa a1) (λp=>UX a1 p=some r) ?_ ?_
 ·rintro x7 hm;refine q_cq hm (λhm=>?_) (λhm=>?_)
  ·refine s_vn [] 0 ⟨[(2,vb false)],[]⟩ ?_;obtain rfl:=oi hm;exact q_rt q_rm
  ·refine q_sk (q_sq ?_);refine s_vv [] 0 [18] [(3,vi 1)] ?_;obtain⟨u22,h21,hm⟩:=qC hm;refine zY (nd f165 116) 0 (by kernel_rfl) FUEL (λo=>qEg) (λv st=>RetQ Tryz.prog f165 (qBW v) (qCq v) .ret st) u22 (q_hl (AD a1 1) (qK1 E a1 FUEL 1 u22 h21)) ?_ ?_
   ·rintro v23 rfl st hr;obtain rfl:=oi hm;exact hr
   ·rintro o20 rfl;replace hm:_=some r:=hm;refine s_vn [] 0 ⟨[(2,vb true)],[]⟩ ?_;obtain rfl:=oi hm;exact q_rt q_rm
 ·rcases bif_c hm with⟨b2,hm⟩|⟨b2,hm⟩
  ·exact q_vv [qf 3 b2] 0 [] [(18,vb true)] (q_J (true) hm)
  ·rcases bif_c hm with⟨b3,hm⟩|⟨b3,hm⟩
   ·exact q_vv [qf 3 b2,qf 8 b3] 0 [] [(18,vb true)] (q_J (true) hm)
   ·obtain⟨g4,hm⟩:=qJ hm;obtain⟨v5,h6,hm⟩:=qC hm;exact q_vv [qf 3 b2,qf 8 b3,qi 10 g4,qk 11 [13,15] 0 ⟨[(13,vb false),(15,vc (.val (.int .u8 (TI a1 ((0:Int).toNat)))))],[]⟩ (BG (TI a1 ((0:Int).toNat)) v5 h6)] 0 [] [(18,vb (!v5))] (q_J (!v5) hm)
def qCo (r:Int×Bool):V:= .tup [.one (ci r.1),.one (cb r.2)]
def qBs (r:Int×Bool):List (Nat×(Nat×O)):=[]
def AH (a1:List qD) (a2:ByteArray) (x3:Int):St:=
 ⟨[(1,vc (cs a2)),(8,vc (tl qM du a1)),(9,vi (a1.length:Int)),(10,vi x3)],[]⟩
def qD4 :St:=
 ⟨[],[]⟩
theorem qLw (E:Env 0) (a1:List qD) (a2:ByteArray):∀(n:Nat) (x3:Int) (res:(Int×Bool)⊕Unit),KB a1 a2 n x3=some res->HL (kx E 21 0) (nd f166 52) (wY 0 (λo=>qD4) (λv st=>RetQ Tryz.prog f166 (qCo v) (qBs v) .ret st) res) n (AH a1 a2 x3):=by
 intro n
 induction n with
 |zero=>
  intro x3 res hm;cases hm
 |succ n ih=>
  intro x3 res hm;refine qU (s_va 0 [(11,vb (decide (x3<(a1.length:Int))))] ?_);refine q_sq (q_cq hm (λhm=>?_) (λhm=>?_))
  ·refine q_sk (q_sq ?_);refine q_bk 1 ?_;obtain⟨g5,hm⟩:=qJ hm;refine s_vu [qi 1 g5] 0 [11] [(6,vi x3),(7,vp 0 0)] [] [(0,bx 74 (qM (a1.getD x3.toNat du)))] (s_vu [] 1 [7] [(18,vb (qLH ((a1.getD x3.toNat du).Name) a2))] [0] [] ?_);refine q_cq hm (λhm=>?_) (λhm=>?_)
   ·refine s_vn [] 1 ⟨[(4,vi x3),(5,vb true)],[]⟩ ?_;obtain rfl:=oi hm;refine q_rt (zQ (x3,true) ?_);exact q_rm
   ·refine q_sk (q_vv [] 1 [6,10,18] [(10,vi (w64 (x3+1)))] ?_);exact q_hl (AH a1 a2 (w64 (x3+1))) (ih (w64 (x3+1)) _ hm)
  ·refine q_ex 0 ?_;obtain rfl:=oi hm;exact q_l1 ()
theorem qPr (a1:List qD) (a2:ByteArray) (r:Int×Bool) (hm:HB a1 a2=some r):CtX Tryz.prog globs 166 0 0 [.one (tl qM du a1),.one (cs a2)] [] (qCo r) (qBs r):=by
 unfold HB at hm;refine q_E f166 21 λE=>?_;refine s_vn [] 0 ⟨[(0,vc (tl qM du a1)),(1,vc (cs a2))],[]⟩ (q_sq ?_);refine s_vv [] 0 [0] [(8,vc (tl qM du a1)),(9,vi (a1.length:Int)),(10,vi 0)] ?_;obtain⟨u9,h8,hm⟩:=qC hm;refine zY (nd f166 52) 0 (by kernel_rfl) FUEL (λo=>qD4) (λv st=>RetQ Tryz.prog f166 (qCo v) (qBs v) .ret st) u9 (q_hl (AH a1 a2 0) (qLw E a1 a2 FUEL 0 u9 h8)) ?_ ?_
 ·rintro v10 rfl st hr;obtain rfl:=oi hm;exact hr
 ·rintro o7 rfl;replace hm:_=some r:=hm;refine s_vn [] 0 ⟨[(4,vi 0),(5,vb false)],[]⟩ ?_;obtain rfl:=oi hm;exact q_rt q_rm
def ZP (r:Int):V:=vi r
def ZS (r:Int):List (Nat×(Nat×O)):=[]
def XG (a1:qD) (x18:Int):St:=
 ⟨[(1,vp 0 0),(70,vc (tl qE du a1.Lengths)),(71,vi (a1.Lengths.length:Int)),(72,vi x18)],[(0,bx 74 (qM a1))]⟩
def qEl (a1:qD) (x18:Int) (x26:Bool):St:=
 (XG a1 x18).up [] [(94,vb x26)] [] []
def qEu (a1:qD) (x18:Int) (x22:Bool):St:=
 (XG a1 x18).up [] [(5,vi x18),(6,vi (a1.Lengths.getD x18.toNat du)),(82,vb x22)] [] []
def PN (a1:qD) (x18:Int):St:=
 (XG a1 x18).up [] [] [] []
def MC (a1:qD):St:=
 ⟨[(1,vp 0 0)],[(0,bx 74 (qM a1))]⟩
def qEp (a1:qD) (x32:Int) (x36:Bool):St:=
 ⟨[(97,vc (tl qE du a1.Prices)),(98,vi (a1.Prices.length:Int)),(99,vi x32),(108,vb x36)],[]⟩
def PG (a1:qD) (x32:Int):St:=
 ⟨[(97,vc (tl qE du a1.Prices)),(98,vi (a1.Prices.length:Int)),(99,vi x32)],[]⟩
def LH :St:=
 ⟨[],[]⟩
def qEs (a1:qD) (x10:Bool):St:=
 ⟨[(1,vp 0 0),(46,vb x10)],[(0,bx 74 (qM a1))]⟩
def qEv (a1:qD) (x5:Bool):St:=
 ⟨[(1,vp 0 0),(28,vb x5)],[(0,bx 74 (qM a1))]⟩
theorem qDy (E:Env 0) (a1:qD):∀(n:Nat) (x18:Int) (res:Int⊕Unit),wM a1 n x18=some res->HL (kx E 110 0) (nd f167 4084) (wY 0 (λo=>MC a1) (λv st=>RetQ Tryz.prog f167 (ZP v) (ZS v) .ret st) res) n (PN a1 x18):=by
 intro n
 induction n with
 |zero=>
  intro x18 res hm;cases hm
 |succ n ih=>
  intro x18 res hm;refine qU (s_va 1 [(73,vb (decide (x18<(a1.Lengths.length:Int))))] ?_);refine q_sq (q_cq hm (λhm=>?_) (λhm=>?_))
  ·refine q_sk (q_sq ?_);refine q_bk 1 ?_;obtain⟨g20,hm⟩:=qJ hm;refine s_vv [qi 1 g20] 1 [73] [(5,vi x18),(6,vi (a1.Lengths.getD x18.toNat du))] (q_sq ?_);refine q_jn (qEu a1 x18) (λp=>JX a1 x18 (wM a1 n) p=some res) ?_ ?_
   ·rintro x22 hm;refine q_cq hm (λhm=>?_) (λhm=>?_)
    ·refine s_vn [] 1 ⟨[(2,vi 9)],[]⟩ ?_;obtain rfl:=oi hm;refine q_rt (zQ 9 ?_);exact q_rm
    ·refine q_sk (q_jn (qEl a1 x18) (λp=>JU x18 (wM a1 n) p=some res) ?_ ?_)
     ·rintro x26 hm;refine q_cq hm (λhm=>?_) (λhm=>?_)
      ·refine s_vn [] 1 ⟨[(2,vi 11)],[]⟩ ?_;obtain rfl:=oi hm;refine q_rt (zQ 11 ?_);exact q_rm
      ·refine q_sk (q_vv [] 1 [72,94] [(72,vi (w64 (x18+1)))] ?_);exact q_hl (PN a1 (w64 (x18+1))) (ih (w64 (x18+1)) _ hm)
     ·rcases bif_c hm with⟨b24,hm⟩|⟨b24,hm⟩
      ·obtain⟨g25,hm⟩:=qJ hm;exact q_vv [qf 2 b24,qi 8 g25] 1 [5,6,82] [(94,vb (decide ((a1.Lengths.getD x18.toNat du)<=(a1.Lengths.getD (w64 (x18-1)).toNat du))))] (q_J (decide ((a1.Lengths.getD x18.toNat du)<=(a1.Lengths.getD (w64 (x18-1)).toNat du))) hm)
      ·exact q_vv [qf 2 b24] 1 [5,6,82] [(94,vb false)] (q_J (false) hm)
   ·rcases bif_c hm with⟨b21,hm⟩|⟨b21,hm⟩
    ·exact q_vv [qf 2 b21] 1 [] [(82,vb true)] (q_J (true) hm)
    ·exact q_vv [qf 2 b21] 1 [] [(82,vb (decide ((a1.Lengths.getD x18.toNat du)>20000)))] (q_J (decide ((a1.Lengths.getD x18.toNat du)>20000)) hm)
  ·refine q_ex 0 ?_;obtain rfl:=oi hm;exact q_l1 ()
theorem qDC (E:Env 0) (a1:qD):∀(n:Nat) (x32:Int) (res:Int⊕Unit),wX a1 n x32=some res->HL (kx E 110 0) (nd f167 8180) (wY 2 (λo=>LH) (λv st=>RetQ Tryz.prog f167 (ZP v) (ZS v) .ret st) res) n (PG a1 x32):=by
 intro n
 induction n with
 |zero=>
  intro x32 res hm;cases hm
 |succ n ih=>
  intro x32 res hm;refine qU (s_va 1 [(100,vb (decide (x32<(a1.Prices.length:Int))))] ?_);refine q_sq (q_cq hm (λhm=>?_) (λhm=>?_))
  ·refine q_sk (q_sq ?_);refine q_bk 3 ?_;obtain⟨g34,hm⟩:=qJ hm;refine s_vv [qi 0 g34] 1 [100] [(8,vi (a1.Prices.getD x32.toNat du))] (q_jn (qEp a1 x32) (λp=>JY x32 (wX a1 n) p=some res) ?_ ?_)
   ·rintro x36 hm;refine q_cq hm (λhm=>?_) (λhm=>?_)
    ·refine s_vn [] 1 ⟨[(2,vi 9)],[]⟩ ?_;obtain rfl:=oi hm;refine q_rt (zQ 9 ?_);exact q_rm
    ·refine q_sk (q_vv [] 1 [99,108] [(99,vi (w64 (x32+1)))] ?_);exact q_hl (PG a1 (w64 (x32+1))) (ih (w64 (x32+1)) _ hm)
   ·rcases bif_c hm with⟨b35,hm⟩|⟨b35,hm⟩
    ·exact q_vv [qf 2 b35] 1 [8] [(108,vb true)] (q_J (true) hm)
    ·exact q_vv [qf 2 b35] 1 [8] [(108,vb (decide ((a1.Prices.getD x32.toNat du)>1000000)))] (q_J (decide ((a1.Prices.getD x32.toNat du)>1000000)) hm)
  ·refine q_ex 2 ?_;obtain rfl:=oi hm;exact q_l1 ()
theorem qFK (a1:qD) (r:Int) (hm:JG a1=some r):CtX Tryz.prog globs 167 0 0 [.agg (qM a1)] [] (ZP r) (ZS r):=by
 unfold JG at hm;refine q_E f167 110 λE=>?_;refine s_vn [] 0 ⟨[(1,vp 0 0)],[(0,bx 74 (qM a1))]⟩ (q_sq ?_);refine q_jn (qEv a1) (λp=>yE a1 p=some r) ?_ ?_
 ·rintro x5 hm;refine q_cq hm (λhm=>?_) (λhm=>?_)
  ·refine s_vn [] 1 ⟨[(2,vi 9)],[]⟩ ?_;obtain rfl:=oi hm;exact q_rt q_rm
  ·refine q_sk (q_sq ?_);refine q_jn (qEs a1) (λp=>yF a1 p=some r) ?_ ?_
   ·rintro x10 hm;refine q_cq hm (λhm=>?_) (λhm=>?_)
    ·refine s_vn [] 1 ⟨[(2,vi 9)],[]⟩ ?_;obtain rfl:=oi hm;exact q_rt q_rm
    ·refine q_sk (q_sq ?_);obtain⟨v12,h13,hm⟩:=qC hm;refine s_vv [qc 1 [48] 1 (RS a1 v12 h13)] 1 [46] [(4,vi v12.2)] (s_vv [] 1 [4] [(53,vb (decide (v12.2>600)))] ?_);refine q_cq hm (λhm=>?_) (λhm=>?_)
     ·refine s_vn [] 1 ⟨[(2,vi 9)],[]⟩ ?_;obtain rfl:=oi hm;exact q_rt q_rm
     ·refine q_sk (q_sq ?_);refine s_vv [] 1 [53] [(57,vb ((a1.Lengths.length:Int)==0))] (q_cq hm (λhm=>?_) (λhm=>?_))
      ·refine s_vn [] 1 ⟨[(2,vi 3)],[]⟩ ?_;obtain rfl:=oi hm;exact q_rt q_rm
      ·refine q_sk (q_sq ?_);refine s_vv [] 1 [57] [(61,vb (decide ((a1.Lengths.length:Int)>8)))] (q_cq hm (λhm=>?_) (λhm=>?_))
       ·refine s_vn [] 1 ⟨[(2,vi 4)],[]⟩ ?_;obtain rfl:=oi hm;exact q_rt q_rm
       ·refine q_sk (q_sq ?_);refine s_vv [] 1 [61] [(68,vb ((a1.Prices.length:Int) !=(a1.Lengths.length:Int)))] (q_cq hm (λhm=>?_) (λhm=>?_))
        ·refine s_vn [] 1 ⟨[(2,vi 19)],[]⟩ ?_;obtain rfl:=oi hm;exact q_rt q_rm
        ·refine q_sk (q_sq ?_);refine s_vv [] 1 [68] [(70,vc (tl qE du a1.Lengths)),(71,vi (a1.Lengths.length:Int)),(72,vi 0)] ?_;obtain⟨u30,h29,hm⟩:=qC hm;refine zY (nd f167 4084) 0 (by kernel_rfl) FUEL (λo=>MC a1) (λv st=>RetQ Tryz.prog f167 (ZP v) (ZS v) .ret st) u30 (q_hl (PN a1 0) (qDy E a1 FUEL 0 u30 h29)) ?_ ?_
         ·rintro v31 rfl st hr;obtain rfl:=oi hm;exact hr
         ·rintro o28 rfl;replace hm:_=some r:=hm;refine q_sq (s_vn [] 1 ⟨[(97,vc (tl qE du a1.Prices)),(98,vi (a1.Prices.length:Int)),(99,vi 0)],[]⟩ ?_);obtain⟨u40,h39,hm⟩:=qC hm;refine zY (nd f167 8180) 2 (by kernel_rfl) FUEL (λo=>LH) (λv st=>RetQ Tryz.prog f167 (ZP v) (ZS v) .ret st) u40 (q_hl (PG a1 0) (qDC E a1 FUEL 0 u40 h39)) ?_ ?_
          ·rintro v41 rfl st hr;obtain rfl:=oi hm;exact hr
          ·rintro o38 rfl;replace hm:_=some r:=hm;refine s_vn [] 1 ⟨[(2,vi 0)],[]⟩ ?_;obtain rfl:=oi hm;exact q_rt q_rm
   ·rcases bif_c hm with⟨b7,hm⟩|⟨b7,hm⟩
    ·exact q_vv [qf 3 b7] 1 [28] [(46,vb true)] (q_J (true) hm)
    ·rcases bif_c hm with⟨b8,hm⟩|⟨b8,hm⟩
     ·exact q_vv [qf 3 b7,qf 8 b8] 1 [28] [(46,vb true)] (q_J (true) hm)
     ·rcases bif_c hm with⟨b9,hm⟩|⟨b9,hm⟩
      ·exact q_vv [qf 3 b7,qf 8 b8,qf 13 b9] 1 [28] [(46,vb true)] (q_J (true) hm)
      ·exact q_vv [qf 3 b7,qf 8 b8,qf 13 b9] 1 [28] [(46,vb (decide (a1.Wane>1000)))] (q_J (decide (a1.Wane>1000)) hm)
 ·rcases bif_c hm with⟨b2,hm⟩|⟨b2,hm⟩
  ·exact q_vv [qf 3 b2] 1 [] [(28,vb true)] (q_J (true) hm)
  ·rcases bif_c hm with⟨b3,hm⟩|⟨b3,hm⟩
   ·exact q_vv [qf 3 b2,qf 8 b3] 1 [] [(28,vb true)] (q_J (true) hm)
   ·rcases bif_c hm with⟨b4,hm⟩|⟨b4,hm⟩
    ·exact q_vv [qf 3 b2,qf 8 b3,qf 15 b4] 1 [] [(28,vb true)] (q_J (true) hm)
    ·exact q_vv [qf 3 b2,qf 8 b3,qf 15 b4] 1 [] [(28,vb (decide (a1.Width>600)))] (q_J (decide (a1.Width>600)) hm)
def VN (r:Int):V:=vi r
def WW (r:Int):List (Nat×(Nat×O)):=[]
theorem qGq (r:Int):QQ (WW r):=by
 intro i k o h;unfold WW at h;cases h
def HS (a1:List qD) (x3:Int):St:=
 ⟨[(0,vc (tl qM du a1)),(11,vc (tl qM du a1)),(12,vi (a1.length:Int)),(13,vi x3)],[]⟩
def qDq :St:=
 ⟨[],[]⟩
theorem qJ1 (E:Env 0) (a1:List qD):∀(n:Nat) (x3:Int) (res:Int⊕Unit),YK a1 n x3=some res->HL (kx E 38 0) (nd f107 116) (wY 0 (λo=>qDq) (λv st=>RetQ Tryz.prog f107 (VN v) (WW v) .ret st) res) n (HS a1 x3):=by
 intro n
 induction n with
 |zero=>
  intro x3 res hm;cases hm
 |succ n ih=>
  intro x3 res hm;refine qU (s_va 0 [(14,vb (decide (x3<(a1.length:Int))))] ?_);refine q_sq (q_cq hm (λhm=>?_) (λhm=>?_))
  ·refine q_sk (q_sq ?_);refine q_bk 1 ?_;obtain⟨g5,hm⟩:=qJ hm;refine s_vu [qi 1 g5] 0 [14] [(3,vi x3),(4,vp 0 0)] [] [(0,bx 74 (qM (a1.getD x3.toNat du)))] (q_sq ?_);obtain⟨v6,h7,hm⟩:=qC hm;refine s_vv [qc 2 [19] 1 (qQc ((a1.getD x3.toNat du).Name) v6 h7)] 1 [] [(21,vb (!v6))] (q_cq hm (λhm=>?_) (λhm=>?_))
   ·refine s_vn [] 1 ⟨[(2,vi 6)],[]⟩ ?_;obtain rfl:=oi hm;refine q_rt (zQ 6 ?_);exact q_rm
   ·refine q_sk (q_sq ?_);obtain⟨g9,hm⟩:=qJ hm;obtain⟨v10,h11,hm⟩:=qC hm;refine s_du [qd 2 (drw ((a1.take x3.toNat).length) 0 (rf qM (a1.take x3.toNat))) (slPhi qM du a1 x3 (And.intro (zP g9).2.1 (zP g9).2.2)),qc 5 [25,27] 1 (qPr (a1.take x3.toNat) ((a1.getD x3.toNat du).Name) v10 h11)] [0,0,3,0,8,31,63,127,127,255,1023] 1 [3,21] [(6,vb v10.2)] [] [] (s_vv [] 1 [6] [(31,vb v10.2)] ?_);refine q_cq hm (λhm=>?_) (λhm=>?_)
    ·refine s_vn [] 1 ⟨[(2,vi 7)],[]⟩ ?_;obtain rfl:=oi hm;refine q_rt (zQ 7 ?_);exact q_rm
    ·refine q_sk ?_;obtain⟨v13,h14,hm⟩:=qC hm;refine s_vu [qc 1 [32] 1 (qFK (a1.getD x3.toNat du) v13 h14)] 1 [4,31] [(7,vi v13)] [0] [] (s_va 1 [(35,vb (v13 !=0))] ?_);refine q_cq hm (λhm=>?_) (λhm=>?_)
     ·refine s_vn [] 1 ⟨[(2,vi v13)],[]⟩ ?_;obtain rfl:=oi hm;refine q_rt (zQ v13 ?_);exact q_rm
     ·refine q_sk (q_vv [] 1 [7,13,35] [(13,vi (w64 (x3+1)))] ?_);exact q_hl (HS a1 (w64 (x3+1))) (ih (w64 (x3+1)) _ hm)
  ·refine q_ex 0 ?_;obtain rfl:=oi hm;exact q_l1 ()
theorem YU (a1:List qD) (r:Int) (hm:ZW a1=some r):CtX Tryz.prog globs 107 0 0 [.one (tl qM du a1)] [] (VN r) (WW r):=by
 unfold ZW at hm;refine q_E f107 38 λE=>?_;refine s_vn [] 0 ⟨[(0,vc (tl qM du a1))],[]⟩ (q_sq ?_);refine s_va 0 [(10,vb (decide ((a1.length:Int)>16)))] (q_cq hm (λhm=>?_) (λhm=>?_))
 ·refine s_vn [] 0 ⟨[(2,vi 4)],[]⟩ ?_;obtain rfl:=oi hm;exact q_rt q_rm
 ·refine q_sk (q_sq ?_);refine s_vv [] 0 [10] [(11,vc (tl qM du a1)),(12,vi (a1.length:Int)),(13,vi 0)] ?_;obtain⟨u18,h17,hm⟩:=qC hm;refine zY (nd f107 116) 0 (by kernel_rfl) FUEL (λo=>qDq) (λv st=>RetQ Tryz.prog f107 (VN v) (WW v) .ret st) u18 (q_hl (HS a1 0) (qJ1 E a1 FUEL 0 u18 h17)) ?_ ?_
  ·rintro v19 rfl st hr;obtain rfl:=oi hm;exact hr
  ·rintro o16 rfl;replace hm:_=some r:=hm;refine s_vn [] 0 ⟨[(2,vi 0)],[]⟩ ?_;obtain rfl:=oi hm;exact q_rt q_rm
def qQ3 (r:Bool):V:=vb r
def qR2 (r:Bool):List (Nat×(Nat×O)):=[]
def qMA (x3:Bool):St:=
 ⟨[(2,vb x3)],[]⟩
theorem qGw (a1:Int) (r:Bool) (hm:GJ a1=some r):CtX Tryz.prog globs 169 0 0 [.one (ci a1)] [] (qQ3 r) (qR2 r):=by
 unfold GJ at hm;refine q_E f169 9 λE=>?_;refine s_vn [] 0 ⟨[(0,vi a1)],[]⟩ (q_jn (qMA) (λp=>qBl p=some r) ?_ ?_)
 ·rintro x3 hm;obtain rfl:=oi hm;exact q_rt q_rm
 ·rcases bif_c hm with⟨b2,hm⟩|⟨b2,hm⟩
  ·exact q_vn [qf 2 b2] 0 ⟨[(2,vb (decide (a1<=1000000)))],[]⟩ (q_J (decide (a1<=1000000)) hm)
  ·exact q_vn [qf 2 b2] 0 ⟨[(2,vb false)],[]⟩ (q_J (false) hm)
def qRS (r:Bool):V:=vb r
def qRY (r:Bool):List (Nat×(Nat×O)):=[]
def qMp (x3:Bool):St:=
 ⟨[(2,vb x3)],[]⟩
theorem qAJ (a1:Int) (r:Bool) (hm:GN a1=some r):CtX Tryz.prog globs 168 0 0 [.one (ci a1)] [] (qRS r) (qRY r):=by
 unfold GN at hm;refine q_E f168 9 λE=>?_;refine s_vn [] 0 ⟨[(0,vi a1)],[]⟩ (q_jn (qMp) (λp=>LS p=some r) ?_ ?_)
 ·rintro x3 hm;obtain rfl:=oi hm;exact q_rt q_rm
 ·rcases bif_c hm with⟨b2,hm⟩|⟨b2,hm⟩
  ·exact q_vn [qf 2 b2] 0 ⟨[(2,vb (decide (a1<=20000)))],[]⟩ (q_J (decide (a1<=20000)) hm)
  ·exact q_vn [qf 2 b2] 0 ⟨[(2,vb false)],[]⟩ (q_J (false) hm)
def qTr (r:Int):V:=vi r
def qSV (r:Int):List (Nat×(Nat×O)):=[]
def qNT (x20:Bool):St:=
 ⟨[(60,vb x20)],[]⟩
def qOD (a2:Rates) (x12:Bool):St:=
 ⟨[(3,vp 1 0),(36,vb x12)],[(1,bx 41 (wI a2))]⟩
def qNE (a1:Saw) (a2:Rates) (x6:Bool):St:=
 ⟨[(2,vp 0 0),(3,vp 1 0),(22,vb x6)],[(0,bx 39 (yK a1)),(1,bx 41 (wI a2))]⟩
theorem qH6 (a1:Saw) (a2:Rates) (r:Int) (hm:FX a1 a2=some r):CtX Tryz.prog globs 108 0 0 [.agg (yK a1),.agg (wI a2)] [] (qTr r) (qSV r):=by
 unfold FX at hm;refine q_E f108 61 λE=>?_;refine s_vn [] 0 ⟨[(2,vp 0 0),(3,vp 1 0)],[(0,bx 39 (yK a1)),(1,bx 41 (wI a2))]⟩ (q_sq ?_);refine q_jn (qNE a1 a2) (λp=>PU a1 a2 p=some r) ?_ ?_
 ·rintro x6 hm;refine q_cq hm (λhm=>?_) (λhm=>?_)
  ·refine s_vn [] 2 ⟨[(4,vi 9)],[]⟩ ?_;obtain rfl:=oi hm;exact q_rt q_rm
  ·refine q_sk (q_sq ?_);refine q_jn (qOD a2) (λp=>GC a2 p=some r) ?_ ?_
   ·rintro x12 hm;refine q_cq hm (λhm=>?_) (λhm=>?_)
    ·refine s_vn [] 2 ⟨[(4,vi 9)],[]⟩ ?_;obtain rfl:=oi hm;exact q_rt q_rm
    ·refine q_sk (q_sq ?_);refine q_jn (qNT) (λp=>YI p=some r) ?_ ?_
     ·rintro x20 hm;refine q_cq hm (λhm=>?_) (λhm=>?_)
      ·refine s_vn [] 2 ⟨[(4,vi 9)],[]⟩ ?_;obtain rfl:=oi hm;exact q_rt q_rm
      ·refine q_sk (s_vn [] 2 ⟨[(4,vi 0)],[]⟩ ?_);obtain rfl:=oi hm;exact q_rt q_rm
     ·rcases bif_c hm with⟨b14,hm⟩|⟨b14,hm⟩
      ·exact q_vn [qf 3 b14] 2 ⟨[(60,vb true)],[]⟩ (q_J (true) hm)
      ·rcases bif_c hm with⟨b15,hm⟩|⟨b15,hm⟩
       ·exact q_vn [qf 3 b14,qf 8 b15] 2 ⟨[(60,vb true)],[]⟩ (q_J (true) hm)
       ·rcases bif_c hm with⟨b16,hm⟩|⟨b16,hm⟩
        ·exact q_vn [qf 3 b14,qf 8 b15,qf 13 b16] 2 ⟨[(60,vb true)],[]⟩ (q_J (true) hm)
        ·rcases bif_c hm with⟨b17,hm⟩|⟨b17,hm⟩
         ·exact q_vn [qf 3 b14,qf 8 b15,qf 13 b16,qf 18 b17] 2 ⟨[(60,vb true)],[]⟩ (q_J (true) hm)
         ·obtain⟨v18,h19,hm⟩:=qC hm;exact q_vn [qf 3 b14,qf 8 b15,qf 13 b16,qf 18 b17,qk 21 [55,57] 2 ⟨[(55,vb false),(57,vi a2.Fine)],[]⟩ (qGw a2.Fine v18 h19)] 2 ⟨[(60,vb (!v18))],[]⟩ (q_J (!v18) hm)
   ·rcases bif_c hm with⟨b8,hm⟩|⟨b8,hm⟩
    ·exact q_vu [qf 3 b8] 2 [2,22] [(36,vb true)] [0] [] (q_J (true) hm)
    ·rcases bif_c hm with⟨b9,hm⟩|⟨b9,hm⟩
     ·exact q_vu [qf 3 b8,qf 8 b9] 2 [2,22] [(36,vb true)] [0] [] (q_J (true) hm)
     ·obtain⟨v10,h11,hm⟩:=qC hm;exact q_vu [qf 3 b8,qf 8 b9,qk 11 [31,33] 2 ⟨[(31,vb false),(33,vi a1.Step)],[]⟩ (qAJ a1.Step v10 h11)] 2 [2,22] [(36,vb (!v10))] [0] [] (q_J (!v10) hm)
 ·rcases bif_c hm with⟨b3,hm⟩|⟨b3,hm⟩
  ·exact q_vv [qf 3 b3] 2 [] [(22,vb true)] (q_J (true) hm)
  ·rcases bif_c hm with⟨b4,hm⟩|⟨b4,hm⟩
   ·exact q_vv [qf 3 b3,qf 8 b4] 2 [] [(22,vb true)] (q_J (true) hm)
   ·rcases bif_c hm with⟨b5,hm⟩|⟨b5,hm⟩
    ·exact q_vv [qf 3 b3,qf 8 b4,qf 13 b5] 2 [] [(22,vb true)] (q_J (true) hm)
    ·exact q_vv [qf 3 b3,qf 8 b4,qf 13 b5] 2 [] [(22,vb (decide (a1.Trim>20)))] (q_J (decide (a1.Trim>20)) hm)
def AP (r:Int):V:=vi r
def AS (r:Int):List (Nat×(Nat×O)):=[]
def qJc (a1:Rect) (x5:Int) (x9:Bool):St:=
 ⟨[(33,va (qR a1)),(34,vi x5),(42,vb x9)],[]⟩
def BT (a1:Rect) (x5:Int):St:=
 ⟨[(33,va (qR a1)),(34,vi x5)],[]⟩
def qBd :St:=
 ⟨[],[]⟩
def qIQ (a1:Rect) (x3:Bool):St:=
 ⟨[(1,vp 0 0),(20,vb x3)],[(0,bx 55 (qR a1))]⟩
theorem qH3 (E:Env 0) (a1:Rect):∀(n:Nat) (x5:Int) (res:Int⊕Unit),yB a1 n x5=some res->HL (kx E 44 0) (nd f109 116) (wY 0 (λo=>qBd) (λv st=>RetQ Tryz.prog f109 (AP v) (AS v) .ret st) res) n (BT a1 x5):=by
 intro n
 induction n with
 |zero=>
  intro x5 res hm;cases hm
 |succ n ih=>
  intro x5 res hm;refine qU (s_va 1 [(35,vb (decide (x5<4)))] ?_);refine q_sq (q_cq hm (λhm=>?_) (λhm=>?_))
  ·refine q_sk (q_sq ?_);refine q_bk 1 ?_;obtain⟨g7,hm⟩:=qJ hm;refine s_vv [qi 0 g7] 1 [35] [(4,vi (([a1.X.A,a1.X.B,a1.Y.A,a1.Y.B]:List Int).getD x5.toNat 0))] (q_jn (qJc a1 x5) (λp=>VE x5 (yB a1 n) p=some res) ?_ ?_)
   ·rintro x9 hm;refine q_cq hm (λhm=>?_) (λhm=>?_)
    ·refine s_vn [] 1 ⟨[(2,vi 9)],[]⟩ ?_;obtain rfl:=oi hm;refine q_rt (zQ 9 ?_);exact q_rm
    ·refine q_sk (q_vv [] 1 [34,42] [(34,vi (w64 (x5+1)))] ?_);exact q_hl (BT a1 (w64 (x5+1))) (ih (w64 (x5+1)) _ hm)
   ·rcases bif_c hm with⟨b8,hm⟩|⟨b8,hm⟩
    ·exact q_vv [qf 2 b8] 1 [4] [(42,vb true)] (q_J (true) hm)
    ·exact q_vv [qf 2 b8] 1 [4] [(42,vb (decide ((([a1.X.A,a1.X.B,a1.Y.A,a1.Y.B]:List Int).getD x5.toNat 0)>600)))] (q_J (decide ((([a1.X.A,a1.X.B,a1.Y.A,a1.Y.B]:List Int).getD x5.toNat 0)>600)) hm)
  ·refine q_ex 0 ?_;obtain rfl:=oi hm;exact q_l1 ()
theorem qLa (a1:Rect) (r:Int) (hm:LX a1=some r):CtX Tryz.prog globs 109 0 0 [.agg (qR a1)] [] (AP r) (AS r):=by
 unfold LX at hm;refine q_E f109 44 λE=>?_;refine s_vn [] 0 ⟨[(1,vp 0 0)],[(0,bx 55 (qR a1))]⟩ (q_sq ?_);refine q_jn (qIQ a1) (λp=>VG a1 p=some r) ?_ ?_
 ·rintro x3 hm;refine q_cq hm (λhm=>?_) (λhm=>?_)
  ·refine s_vn [] 1 ⟨[(2,vi 19)],[]⟩ ?_;obtain rfl:=oi hm;exact q_rt q_rm
  ·refine q_sk (q_sq ?_);refine s_vn [] 1 ⟨[(33,va (qR a1)),(34,vi 0)],[]⟩ ?_;obtain⟨u13,h12,hm⟩:=qC hm;refine zY (nd f109 116) 0 (by kernel_rfl) FUEL (λo=>qBd) (λv st=>RetQ Tryz.prog f109 (AP v) (AS v) .ret st) u13 (q_hl (BT a1 0) (qH3 E a1 FUEL 0 u13 h12)) ?_ ?_
   ·rintro v14 rfl st hr;obtain rfl:=oi hm;exact hr
   ·rintro o11 rfl;replace hm:_=some r:=hm;refine s_vn [] 1 ⟨[(2,vi 0)],[]⟩ ?_;obtain rfl:=oi hm;exact q_rt q_rm
 ·rcases bif_c hm with⟨b2,hm⟩|⟨b2,hm⟩
  ·exact q_vv [qf 7 b2] 1 [] [(20,vb true)] (q_J (true) hm)
  ·exact q_vv [qf 7 b2] 1 [] [(20,vb (decide (a1.Y.A≥a1.Y.B)))] (q_J (decide (a1.Y.A≥a1.Y.B)) hm)
def qUa (r:Int):V:=vi r
def qV9 (r:Int):List (Nat×(Nat×O)):=[]
theorem qTc (a1:List qO) (a2:List qH) (a3:List qD) (a4:Rect) (a5:Saw) (a6:Rates) (r:Int) (hm:UH a1 a2 a3 a4 a5 a6=some r):CtX Tryz.prog globs 53 0 0 [.one (tl qS du a1),.one (tl qN du a2),.one (tl qM du a3),.agg (qR a4),.agg (yK a5),.agg (wI a6)] [] (qUa r) (qV9 r):=by
 unfold UH at hm;refine q_E f53 40 λE=>?_;refine s_vn [] 0 ⟨[(0,vc (tl qS du a1)),(1,vc (tl qN du a2)),(2,vc (tl qM du a3)),(9,vp 0 0),(10,vp 1 0),(11,vp 2 0)],[(0,bx 55 (qR a4)),(1,bx 39 (yK a5)),(2,bx 41 (wI a6))]⟩ (q_sq ?_);obtain⟨v7,h8,hm⟩:=qC hm;refine s_vv [qc 1 [17] 3 (YL a1 v7 h8)] 3 [0] [(13,vi v7)] (s_va 3 [(20,vb (v7 !=0))] ?_);refine q_cq hm (λhm=>?_) (λhm=>?_)
 ·refine s_vn [] 3 ⟨[(12,vi v7)],[]⟩ ?_;obtain rfl:=oi hm;exact q_rt q_rm
 ·refine q_sk (q_sq ?_);obtain⟨v10,h11,hm⟩:=qC hm;refine s_vv [qc 1 [22] 3 (JF a2 v10 h11)] 3 [1,13,20] [(14,vi v10)] (s_va 3 [(25,vb (v10 !=0))] ?_);refine q_cq hm (λhm=>?_) (λhm=>?_)
  ·refine s_vn [] 3 ⟨[(12,vi v10)],[]⟩ ?_;obtain rfl:=oi hm;exact q_rt q_rm
  ·refine q_sk (q_sq ?_);obtain⟨v13,h14,hm⟩:=qC hm;refine s_vv [qc 1 [27] 3 (YU a3 v13 h14)] 3 [2,14,25] [(15,vi v13)] (s_va 3 [(30,vb (v13 !=0))] ?_);refine q_cq hm (λhm=>?_) (λhm=>?_)
   ·refine s_vn [] 3 ⟨[(12,vi v13)],[]⟩ ?_;obtain rfl:=oi hm;exact q_rt q_rm
   ·refine q_sk (q_sq ?_);obtain⟨v16,h17,hm⟩:=qC hm;refine s_vu [qc 2 [32,33] 3 (qH6 a5 a6 v16 h17)] 3 [10,11,15,30] [(16,vi v16)] [1,2] [] (s_va 3 [(36,vb (v16 !=0))] ?_);refine q_cq hm (λhm=>?_) (λhm=>?_)
    ·refine s_vn [] 3 ⟨[(12,vi v16)],[]⟩ ?_;obtain rfl:=oi hm;exact q_rt q_rm
    ·refine q_sk ?_;obtain⟨v19,h20,hm⟩:=qC hm;refine s_vn [qc 1 [38] 3 (qLa a4 v19 h20)] 3 ⟨[(12,vi v19)],[]⟩ ?_;obtain rfl:=oi hm;exact q_rt q_rm
def qWH (r:Rect):V:=va (qR r)
def qWY (r:Rect):List (Nat×(Nat×O)):=[]
theorem qFc (a1:Rect) (a2:Int) (a3:Int) (r:Rect) (hm:BC a1 a2 a3=some r):CtX Tryz.prog globs 174 0 0 [.agg (qR a1),.one (ci a2),.one (ci a3)] [] (qWH r) (qWY r):=by
 unfold BC at hm;refine q_E f174 21 λE=>?_;refine s_vn [] 0 ⟨[(1,vi a2),(2,vi a3),(3,vp 0 0),(6,vp 1 0)],[(0,bx 55 (qR a1)),(1,bx 55 [ci 0,ci 0,ci 0,ci 0])]⟩ (s_vn [] 2 ⟨[(6,vp 1 0)],[(1,bx 55 [ci (w64 (a1.X.A+a2)),ci (w64 (a1.X.A+a3)),ci a1.Y.A,ci a1.Y.B])]⟩ ?_);obtain rfl:=oi hm;exact q_rt q_rm
def qAr (r:List Node):V:=vo 0 0 2 r.length
def PI (r:List Node):List (Nat×(Nat×O)):=[(0,ro 0 156 2 r.length (rf qK r))]
theorem qJa (r:List Node):QQ (PI r):=by
 intro i k o h;unfold PI at h;rw[look_cons] at h;split at h
 ·cases h;exact λ_ _=>rfl
 ·cases h
theorem qHC (a1:List Node) (r:List Node) (hm:VO a1=some r):CtX Tryz.prog globs 217 0 0 [.one (tl qK du a1)] [] (qAr r) (PI r):=by
 unfold VO at hm;obtain⟨g1,hm⟩:=qJ hm;obtain rfl:=kE hm;refine qBM (fn:=f217) (c:=nd f217 1) (nt:=8) (by kernel_rfl) (by kernel_rfl) (by kernel_rfl) (by kernel_rfl) λE=>?_;refine R_sq f217 2 3 (by kernel_rfl) (R_rn f217 2 0 [] [] 0 ⟨[(0,vc (tl qK du a1))],[]⟩ o0 (by kernel_rfl) (by kernel_rfl) ?_);refine R_sq f217 6 7 (by kernel_rfl) (R_sq f217 12 13 (by kernel_rfl) ?_);refine qO2 f217 12 1 1 ⟨[(0,vc (tl qK du a1)),(3,vc (tl qK du a1))],[]⟩ 56 56 156 4 (.tmp 3) a1.length (rf qK a1) (by kernel_rfl) (by kernel_rfl) (by kernel_rfl) (λb hb=>?_)
 refine R_cn f217 (.tmp 4) 26 27 (by kernel_rfl) b (by kernel_rfl) (λb6=>?_) (λb6=>?_)
 ·obtain rfl:a1=[]:=ui (hb b6);refine R_sq f217 52 53 (by kernel_rfl) (R_rn f217 52 2 [] [.own 2 0 156 2 (rf qK [])] 0 ⟨[(2,vo 0 0 2 0)],[(0,ro 0 156 2 0 (rf qK []))]⟩ o0 (by kernel_rfl) (by kernel_rfl) ?_);exact qAW (by kernel_rfl) (HR (by kernel_rfl) (by kernel_rfl))
 ·refine qHO (by kernel_rfl) (R_sq f217 14 15 (by kernel_rfl) ?_);refine R_rn f217 14 3 [(0,drw 0 0 (rf qK [])),(2,drw 0 1 (rf qK ([]++a1)))] [.len 0 a1.length] 0 ⟨[(2,vo 0 1 2 a1.length)],[(0,ro 1 156 2 a1.length (rf qK ([]++a1)))]⟩ (o1 (And.intro (And.intro (litP qK du 2 (λ_=>rfl) ([]:List Node) 0 rfl) (apP qK du ([]:List Node) a1 0 a1.length 2 16 True trivial rfl rfl (λ_=>rfl) (by have:=wB g1;rw[kB];exact this))) (And.intro (And.intro (kB a1.length) (kB a1.length)) (kB a1.length)))) (by kernel_rfl) (by kernel_rfl) (qAW (by kernel_rfl) ?_);exact HR (by kernel_rfl) (by kernel_rfl)
def qDS (a1:List (List Node)) (a2:List Node) (r:(List (List Node))×(List (List Node))):V:=vo 0 0 1 r.2.length
def qEd (a1:List (List Node)) (a2:List Node) (r:(List (List Node))×(List (List Node))):List (Nat×(Nat×O)):=[(0,ro 0 56 1 r.2.length (rf (qW qK) r.2)),(1,ro 0 156 2 a2.length (rf qK a2))]
theorem qKp (a1:List (List Node)) (a2:List Node) (r:(List (List Node))×(List (List Node))) (hm:LU a1 a2=some r):CtX Tryz.prog globs 175 2 0 [.one (.own 0 0 1 a1.length),.one (.own 1 0 2 a2.length)] [(0,ro 0 56 1 a1.length (rf (qW qK) a1)),(1,ro 0 156 2 a2.length (rf qK a2))] (qDS a1 a2 r) (qEd a1 a2 r):=by
 unfold LU at hm;refine q_E f175 10 λE=>?_;refine s_vn [] 2 ⟨[(0,vo 0 0 1 a1.length),(1,vo 1 0 2 a2.length)],[(0,ro 0 56 1 a1.length (rf (qW qK) a1)),(1,ro 0 156 2 a2.length (rf qK a2))]⟩ ?_;obtain⟨v3,h4,hm⟩:=qC hm;obtain⟨g5,hm⟩:=qJ hm
 refine s_vu [qd 2 (dex (cen [] [] 2 0 (qAr v3) (PI v3) [6] [1])) (wO (K:=(kx E 10 0)) (b:=false) ⟨[(6,vo 1 0 2 a2.length)],[(1,ro 0 156 2 a2.length (rf qK a2))]⟩ (opAt (rg f175 6) 2) [] [] 2 (o1 (ke a2.length)) rfl (qHC a2 v3 h4) (.inr ⟨(by kernel_rfl),qJa v3⟩) (by kernel_rfl)),qd 3 (dpr [.frz 2] (drw 3 0 (rf (qW qK) [v3]))) (ke v3.length),qd 3 dN (litP (qW qK) du 1 (λ_=>rfl) ([v3]:List (List Node)) 1 rfl),qd 4 (drw 0 1 (rf (qW qK) (a1++[v3]))) (apP (qW qK) du a1 ([v3]:List (List Node)) a1.length 1 1 24 (1<=1) (ke _) rfl rfl (λ_=>rfl) (wB g5))] 2 [0,1] [(4,vo 0 1 1 (a1.length+1))] [0] [(0,ro 1 56 1 (a1.length+1) (rf (qW qK) (a1++[v3])))] ?_
 refine q_fu [.len 0 ((a1++[v3]).length)] [4] [(4,vo 0 1 1 ((a1++[v3]).length))] [0] [(0,ro 1 56 1 ((a1++[v3]).length) (rf (qW qK) (a1++[v3])))] (o1 (And.intro (Eq.symm (show(a1++[v3]).length=(a1.length+1) from(wC rfl rfl))) (Eq.symm (show(a1++[v3]).length=(a1.length+1) from(wC rfl rfl))))) ?_;obtain rfl:=oi hm;exact q_rt q_rm
def qSX (r:Box×Bool):V:= .tup [.agg (JW r.1),.one (cb r.2)]
def qTo (r:Box×Bool):List (Nat×(Nat×O)):=[]
def qOx (v3:Span) (v5:Span) (v7:Span) (x17:Bool):St:=
 ⟨[(4,vp 2 0),(6,vp 3 0),(35,vb x17)],[(2,bx 85 [ci 0,ci 0,ci 0,ci 0,ci 0,ci 0]),(3,bx 85 [ci v3.A,ci v3.B,ci v5.A,ci v5.B,ci v7.A,ci v7.B])]⟩
theorem qRT (a1:Box) (a2:Box) (r:Box×Bool) (hm:qCB a1 a2=some r):CtX Tryz.prog globs 291 0 0 [.agg (JW a1),.agg (JW a2)] [] (qSX r) (qTo r):=by
 unfold qCB at hm;refine q_E f291 38 λE=>?_;refine s_vn [] 0 ⟨[(2,vp 0 0),(3,vp 1 0),(4,vp 2 0)],[(0,bx 85 (JW a1)),(1,bx 85 (JW a2)),(2,bx 85 [ci 0,ci 0,ci 0,ci 0,ci 0,ci 0])]⟩ ?_;obtain⟨v3,h4,hm⟩:=qC hm;obtain⟨v5,h6,hm⟩:=qC hm;obtain⟨v7,h8,hm⟩:=qC hm;refine s_du [qc 4 [8,10] 3 (RZ a1.X a2.X v3 h4),qc 9 [13,15] 3 (RZ a1.Y a2.Y v5 h6),qc 14 [18,20] 3 (RZ a1.Z a2.Z v7 h8)] [0,1,0,4,15,0,32,0,128,511,0,1024,0,4096,16383,32767,0,131071] 3 [2,3] [(6,vp 3 0)] [0,1] [(3,bx 85 [ci v3.A,ci v3.B,ci v5.A,ci v5.B,ci v7.A,ci v7.B])] (q_sq ?_)
 refine q_jn (qOx v3 v5 v7) (λp=>DE v3 v5 v7 p=some r) ?_ ?_
 ·rintro x17 hm;refine q_cq hm (λhm=>?_) (λhm=>?_)
  ·refine s_vu [] 4 [6,35] [(5,vb false)] [3] [] ?_;obtain rfl:=oi hm;exact q_rt q_rm
  ·refine q_sk (s_vu [] 4 [6,35] [(5,vb true)] [2,3] [(2,bx 85 [ci v3.A,ci v3.B,ci v5.A,ci v5.B,ci v7.A,ci v7.B])] ?_);obtain rfl:=oi hm;exact q_rt q_rm
 ·obtain⟨v9,h10,hm⟩:=qC hm;rcases bif_c hm with⟨b11,hm⟩|⟨b11,hm⟩
  ·exact q_vv [qc 2 [24] 4 (wP v3 v9 h10),qf 3 b11] 4 [] [(35,vb true)] (q_J (true) hm)
  ·obtain⟨v12,h13,hm⟩:=qC hm;rcases bif_c hm with⟨b14,hm⟩|⟨b14,hm⟩
   ·exact q_vv [qc 2 [24] 4 (wP v3 v9 h10),qf 3 b11,qk 6 [26,28] 4 ⟨[(26,vb false),(28,va (qL v5))],[]⟩ (wP v5 v12 h13),qf 8 b14] 4 [] [(35,vb true)] (q_J (true) hm)
   ·obtain⟨v15,h16,hm⟩:=qC hm;exact q_vv [qc 2 [24] 4 (wP v3 v9 h10),qf 3 b11,qk 6 [26,28] 4 ⟨[(26,vb false),(28,va (qL v5))],[]⟩ (wP v5 v12 h13),qf 8 b14,qk 11 [31,33] 4 ⟨[(31,vb false),(33,va (qL v7))],[]⟩ (wP v7 v15 h16)] 4 [] [(35,vb v15)] (q_J (v15) hm)
def qNh (r:Bool):V:=vb r
def qM7 (r:Bool):List (Nat×(Nat×O)):=[]
theorem qDT (a1:qH) (a2:Box) (r:Bool) (hm:RA a1 a2=some r):CtX Tryz.prog globs 281 0 0 [.agg (qN a1),.agg (JW a2)] [] (qNh r) (qM7 r):=by
 unfold RA at hm;refine q_E f281 15 λE=>?_;refine s_vn [] 0 ⟨[(2,vp 0 0),(3,vp 1 0)],[(0,bx 87 (qN a1)),(1,bx 85 (JW a2))]⟩ ?_;obtain⟨v3,h4,hm⟩:=qC hm;refine s_vn [qc 3 [9,10] 2 (qRT a1.Box a2 v3 h4)] 2 ⟨[(6,vb v3.2)],[]⟩ (s_vn [] 3 ⟨[(4,vb v3.2)],[]⟩ ?_);obtain rfl:=oi hm;exact q_rt q_rm
def qNX (r:Bool):V:=vb r
def qOg (r:Bool):List (Nat×(Nat×O)):=[]
def qJQ (x5:Bool):St:=
 ⟨[(4,vb x5)],[]⟩
theorem qMy (a1:Span) (a2:Int) (r:Bool) (hm:EC a1 a2=some r):CtX Tryz.prog globs 282 0 0 [.agg (qL a1),.one (ci a2)] [] (qNX r) (qOg r):=by
 unfold EC at hm;refine q_E f282 21 λE=>?_;refine s_vn [] 0 ⟨[(1,vi a2),(2,vp 0 0)],[(0,bx 53 (qL a1))]⟩ (q_jn (qJQ) (λp=>VZ p=some r) ?_ ?_)
 ·rintro x5 hm;obtain rfl:=oi hm;exact q_rt q_rm
 ·rcases bif_c hm with⟨b3,hm⟩|⟨b3,hm⟩
  ·rcases bif_c hm with⟨b4,hm⟩|⟨b4,hm⟩
   ·exact q_vn [qf 3 b3,qf 10 b4] 1 ⟨[(4,vb (decide (a1.B<=a2)))],[]⟩ (q_J (decide (a1.B<=a2)) hm)
   ·exact q_vn [qf 3 b3,qf 10 b4] 1 ⟨[(4,vb false)],[]⟩ (q_J (false) hm)
  ·exact q_vn [qf 3 b3] 1 ⟨[(4,vb false)],[]⟩ (q_J (false) hm)
def qAL (r:Int×Bool):V:= .tup [.one (ci r.1),.one (cb r.2)]
def qAp (r:Int×Bool):List (Nat×(Nat×O)):=[]
def HA (a1:qD) (a2:Int) (x3:Int):St:=
 ⟨[(1,vi a2),(2,vp 0 0),(9,vc (tl qE du a1.Lengths)),(10,vi (a1.Lengths.length:Int)),(11,vi x3)],[(0,bx 74 (qM a1))]⟩
def qCX :St:=
 ⟨[],[]⟩
theorem qJW (E:Env 0) (a1:qD) (a2:Int):∀(n:Nat) (x3:Int) (res:(Int×Bool)⊕Unit),YQ a1 a2 n x3=some res->HL (kx E 30 0) (nd f283 52) (wY 0 (λo=>qCX) (λv st=>RetQ Tryz.prog f283 (qAL v) (qAp v) .ret st) res) n (HA a1 a2 x3):=by
 intro n
 induction n with
 |zero=>
  intro x3 res hm;cases hm
 |succ n ih=>
  intro x3 res hm;refine qU (s_va 1 [(12,vb (decide (x3<(a1.Lengths.length:Int))))] ?_);refine q_sq (q_cq hm (λhm=>?_) (λhm=>?_))
  ·refine q_sk (q_sq ?_);refine q_bk 1 ?_;obtain⟨g5,hm⟩:=qJ hm;refine s_vv [qi 1 g5] 1 [12] [(6,vi x3),(7,vi (a1.Lengths.getD x3.toNat du))] (q_sq ?_);refine s_vv [] 1 [7] [(18,vb ((a1.Lengths.getD x3.toNat du) !=a2))] (q_cq hm (λhm=>?_) (λhm=>?_))
   ·refine q_ex 1 (q_vv [] 1 [6,11,18] [(11,vi (w64 (x3+1)))] ?_);exact q_hl (HA a1 a2 (w64 (x3+1))) (ih (w64 (x3+1)) _ hm)
   ·refine q_sk (q_sq ?_);refine s_vv [] 1 [1,9,10,11,18] [(23,vb (decide (x3≥(a1.Prices.length:Int))))] (q_cq hm (λhm=>?_) (λhm=>?_))
    ·refine s_vn [] 1 ⟨[(4,vi 0),(5,vb false)],[]⟩ ?_;obtain rfl:=oi hm;refine q_rt (zQ (0,false) ?_);exact q_rm
    ·refine q_sk ?_;obtain⟨g8,hm⟩:=qJ hm;refine s_vn [qi 3 g8] 1 ⟨[(4,vi (a1.Prices.getD x3.toNat du)),(5,vb true)],[]⟩ ?_;obtain rfl:=oi hm;refine q_rt (zQ ((a1.Prices.getD x3.toNat du),true) ?_);exact q_rm
  ·refine q_ex 0 ?_;obtain rfl:=oi hm;exact q_l1 ()
theorem qOt (a1:qD) (a2:Int) (r:Int×Bool) (hm:FD a1 a2=some r):CtX Tryz.prog globs 283 0 0 [.agg (qM a1),.one (ci a2)] [] (qAL r) (qAp r):=by
 unfold FD at hm;refine q_E f283 30 λE=>?_;refine s_vn [] 0 ⟨[(1,vi a2),(2,vp 0 0)],[(0,bx 74 (qM a1))]⟩ (q_sq ?_);refine s_va 1 [(9,vc (tl qE du a1.Lengths)),(10,vi (a1.Lengths.length:Int)),(11,vi 0)] ?_;obtain⟨u11,h10,hm⟩:=qC hm;refine zY (nd f283 52) 0 (by kernel_rfl) FUEL (λo=>qCX) (λv st=>RetQ Tryz.prog f283 (qAL v) (qAp v) .ret st) u11 (q_hl (HA a1 a2 0) (qJW E a1 a2 FUEL 0 u11 h10)) ?_ ?_
 ·rintro v12 rfl st hr;obtain rfl:=oi hm;exact hr
 ·rintro o9 rfl;replace hm:_=some r:=hm;refine s_vn [] 1 ⟨[(4,vi 0),(5,vb false)],[]⟩ ?_;obtain rfl:=oi hm;exact q_rt q_rm
def qE4 (r:Box):V:=va (JW r)
def NP (r:Box):List (Nat×(Nat×O)):=[]
theorem qNB (r:Box):QQ (NP r):=by
 intro i k o h;unfold NP at h;cases h
theorem qD0 (a1:zG) (a2:Span) (r:Box) (hm:SM a1 a2=some r):CtX Tryz.prog globs 280 0 0 [.agg (MG a1),.agg (qL a2)] [] (qE4 r) (NP r):=by
 unfold SM at hm;refine q_E f280 13 λE=>?_;refine s_vn [] 0 ⟨[(2,vp 0 0),(3,vp 1 0),(4,vp 2 0)],[(0,bx 282 (MG a1)),(1,bx 53 (qL a2)),(2,bx 85 [ci 0,ci 0,ci 0,ci 0,ci 0,ci 0])]⟩ (s_vn [] 3 ⟨[(4,vp 2 0)],[(2,bx 85 [ci a1.rect.X.A,ci a1.rect.X.B,ci a1.rect.Y.A,ci a1.rect.Y.B,ci a2.A,ci a2.B])]⟩ ?_);obtain rfl:=oi hm;exact q_rt q_rm
def qTs (r:Int):V:=vi r
def qSZ (r:Int):List (Nat×(Nat×O)):=[]
def MR (a1:List qY) (a2:Span) (x4:Int):St:=
 ⟨[(3,vp 0 0),(8,vc (tl zJ du a1)),(9,vi (a1.length:Int)),(10,vi x4)],[(0,bx 53 (qL a2))]⟩
def qOf (a1:List qY) (a2:Span) (x4:Int) (x10:Int):St:=
 (MR a1 a2 x4).up [] [(5,vi x10)] [] []
def qM9 (a1:List qY) (a2:Span) (x3:Int) (x4:Int) (x8:Bool):St:=
 (MR a1 a2 x4).up [] [(5,vi x3),(7,vp 1 0),(27,vb x8)] [] [(1,bx 305 (zJ (a1.getD x4.toNat du)))]
def CA (a1:List qY) (a2:Span) (x3:Int) (x4:Int):St:=
 (MR a1 a2 x4).up [] [(5,vi x3)] [] []
def qFe (x11:Int):St:=
 ⟨[(5,vi x11)],[]⟩
theorem qMj (E:Env 0) (a1:List qY) (a2:Span):∀(n:Nat) (x3:Int) (x4:Int) (res:Int),ZF a1 a2 n x3 x4=some res->HL (kx E 34 0) (nd f284 116) (zN 0 qFe res) n (CA a1 a2 x3 x4):=by
 intro n
 induction n with
 |zero=>
  intro x3 x4 res hm;cases hm
 |succ n ih=>
  intro x3 x4 res hm;refine qU (s_va 1 [(11,vb (decide (x4<(a1.length:Int))))] ?_);refine q_sq (q_cq hm (λhm=>?_) (λhm=>?_))
  ·refine q_sk (q_jn (qOf a1 a2 x4) (λp=>qB2 x4 (ZF a1 a2 n) p=some res) ?_ ?_)
   ·rintro x10 hm;exact q_vv [] 2 [10] [(10,vi (w64 (x4+1)))] (q_hl (CA a1 a2 x10 (w64 (x4+1))) (ih x10 (w64 (x4+1)) _ hm))
   ·refine q_bk 1 ?_;obtain⟨g6,hm⟩:=qJ hm;refine s_vu [qi 0 g6] 1 [11] [(7,vp 1 0)] [] [(1,bx 305 (zJ (a1.getD x4.toNat du)))] (q_jn (qM9 a1 a2 x3 x4) (λp=>qCh a1 x3 x4 (ZF a1 a2 n) p=some res) ?_ ?_)
    ·rintro x8 hm;refine q_cq hm (λhm=>?_) (λhm=>?_)
     ·exact q_vu [] 2 [5,7,27] [(5,vi (imax x3 ((a1.getD x4.toNat du).lack)))] [1] [] (q_J (imax x3 ((a1.getD x4.toNat du).lack)) hm)
     ·exact q_sk (q_J (x3) hm)
    ·rcases bif_c hm with⟨b7,hm⟩|⟨b7,hm⟩
     ·exact q_vv [qf 6 b7] 2 [] [(27,vb (decide (a2.A<(((a1.getD x4.toNat du).z).B))))] (q_J (decide (a2.A<(((a1.getD x4.toNat du).z).B))) hm)
     ·exact q_vv [qf 6 b7] 2 [] [(27,vb false)] (q_J (false) hm)
  ·refine q_ex 0 ?_;obtain rfl:=oi hm;exact q_l0
theorem qR1 (a1:List qY) (a2:Span) (r:Int) (hm:IF a1 a2=some r):CtX Tryz.prog globs 284 0 0 [.one (tl zJ du a1),.agg (qL a2)] [] (qTs r) (qSZ r):=by
 unfold IF at hm;refine q_E f284 34 λE=>?_;refine s_vn [] 0 ⟨[(0,vc (tl zJ du a1)),(3,vp 0 0)],[(0,bx 53 (qL a2))]⟩ (s_va 1 [(5,vi 0)] ?_);refine q_sq (s_vv [] 1 [0] [(8,vc (tl zJ du a1)),(9,vi (a1.length:Int)),(10,vi 0)] ?_);obtain⟨o12,h13,hm⟩:=qC hm;refine zI (nd f284 116) 0 (by kernel_rfl) FUEL qFe o12 (q_hl (CA a1 a2 0 0) (qMj E a1 a2 FUEL 0 0 o12 h13)) (s_vn [] 1 ⟨[(4,vi o12)],[]⟩ ?_);obtain rfl:=oi hm;exact q_rt q_rm
def UN (r:Int×Bool):V:= .tup [.one (ci r.1),.one (cb r.2)]
def WC (r:Int×Bool):List (Nat×(Nat×O)):=[]
theorem qKh (r:Int×Bool):QQ (WC r):=by
 intro i k o h;unfold WC at h;cases h
def qHD (a1:zG) (a3:Int) (v14:Box) (x17:Int) (x24:Int):St:=
 ⟨[(2,vi a3),(8,vi x24),(10,vp 2 0),(45,vc (tl qN du a1.defects)),(46,vi (a1.defects.length:Int)),(47,vi x17)],[(2,bx 85 (JW v14))]⟩
def GE (a1:zG) (a3:Int) (v14:Box) (x16:Int) (x17:Int):St:=
 ⟨[(2,vi a3),(8,vi x16),(10,vp 2 0),(45,vc (tl qN du a1.defects)),(46,vi (a1.defects.length:Int)),(47,vi x17)],[(2,bx 85 (JW v14))]⟩
def CS (x25:Int):St:=
 ⟨[(8,vi x25)],[]⟩
def qIo (a1:zG) (a2:Span) (a3:Int) (v7:Int×Bool) (x12:Bool):St:=
 ⟨[(2,vi a3),(3,vp 0 0),(4,vp 1 0),(8,vi v7.1),(40,vb x12)],[(0,bx 282 (MG a1)),(1,bx 53 (qL a2))]⟩
theorem qGZ (E:Env 0) (a1:zG) (a3:Int) (v14:Box):∀(n:Nat) (x16:Int) (x17:Int) (res:(Int×Bool)⊕Int),jR a1 a3 v14 n x16 x17=some res->HL (kx E 64 0) (nd f264 1012) (wY 0 CS (λv st=>RetQ Tryz.prog f264 (UN v) (WC v) .ret st) res) n (GE a1 a3 v14 x16 x17):=by
 intro n
 induction n with
 |zero=>
  intro x16 x17 res hm;cases hm
 |succ n ih=>
  intro x16 x17 res hm;refine qU (s_va 3 [(48,vb (decide (x17<(a1.defects.length:Int))))] ?_);refine q_sq (q_cq hm (λhm=>?_) (λhm=>?_))
  ·refine q_sk (q_jn (qHD a1 a3 v14 x17) (λp=>LA x17 (jR a1 a3 v14 n) p=some res) ?_ ?_)
   ·rintro x24 hm;exact q_vv [] 4 [47] [(47,vi (w64 (x17+1)))] (q_hl (GE a1 a3 v14 x24 (w64 (x17+1))) (ih x24 (w64 (x17+1)) _ hm))
   ·refine q_bk 1 ?_;obtain⟨g19,hm⟩:=qJ hm;refine s_vu [qi 0 g19] 3 [48] [(12,vp 3 0)] [] [(3,bx 87 (qN (a1.defects.getD x17.toNat du)))] (q_sq ?_);obtain⟨v20,h21,hm⟩:=qC hm;refine s_vv [qc 2 [51,52] 4 (qDT (a1.defects.getD x17.toNat du) v14 v20 h21)] 4 [] [(54,vb (!v20))] (q_cq hm (λhm=>?_) (λhm=>?_))
    ·exact q_ex 1 (q_J (x16) hm)
    ·refine q_sk (q_sq ?_);refine s_vu [] 4 [12,54] [(57,vb (((a1.defects.getD x17.toNat du).Kind)==3))] [3] [] (q_cq hm (λhm=>?_) (λhm=>?_))
     ·refine s_vn [] 4 ⟨[(6,vi 0),(7,vb false)],[]⟩ ?_;obtain rfl:=oi hm;refine q_rt (zQ (0,false) ?_);exact q_rm
     ·refine q_sk (q_vv [] 4 [8,57] [(8,vi (w64 (x16-a3)))] ?_);exact q_J (w64 (x16-a3)) hm
  ·refine q_ex 0 ?_;obtain rfl:=oi hm;exact q_l1 x16
theorem qJ0 (a1:zG) (a2:Span) (a3:Int) (r:Int×Bool) (hm:RQ a1 a2 a3=some r):CtX Tryz.prog globs 264 0 0 [.agg (MG a1),.agg (qL a2),.one (ci a3)] [] (UN r) (WC r):=by
 unfold RQ at hm;refine q_E f264 64 λE=>?_;refine s_vn [] 0 ⟨[(2,vi a3),(3,vp 0 0),(4,vp 1 0)],[(0,bx 282 (MG a1)),(1,bx 53 (qL a2))]⟩ (q_sq ?_);obtain⟨v4,h5,hm⟩:=qC hm;refine s_vv [qc 3 [13,15] 2 (qMy a2 a1.length v4 h5)] 2 [] [(17,vb (!v4))] (q_cq hm (λhm=>?_) (λhm=>?_))
 ·refine s_vn [] 2 ⟨[(6,vi 0),(7,vb false)],[]⟩ ?_;obtain rfl:=oi hm;exact q_rt q_rm
 ·refine q_sk ?_;obtain⟨v7,h8,hm⟩:=qC hm;refine s_vv [qc 7 [20,25] 2 (qOt a1.product (w64 (a2.B-a2.A)) v7 h8)] 2 [17] [(8,vi v7.1),(9,vb v7.2)] (q_sq ?_);refine q_jn (qIo a1 a2 a3 v7) (λp=>TK a1 a2 a3 v7 p=some r) ?_ ?_
  ·rintro x12 hm;refine q_cq hm (λhm=>?_) (λhm=>?_)
   ·refine s_vn [] 2 ⟨[(6,vi 0),(7,vb false)],[]⟩ ?_;obtain rfl:=oi hm;exact q_rt q_rm
   ·refine q_sk ?_;obtain⟨v14,h15,hm⟩:=qC hm;refine s_vu [qc 2 [41,42] 2 (qD0 a1 a2 v14 h15)] 2 [4,40] [(10,vp 2 0)] [1] [(2,bx 85 (JW v14))] (q_sq ?_);refine s_vu [] 3 [3] [(45,vc (tl qN du a1.defects)),(46,vi (a1.defects.length:Int)),(47,vi 0)] [0] [] ?_;obtain⟨u28,h27,hm⟩:=qC hm;refine zY (nd f264 1012) 0 (by kernel_rfl) FUEL CS (λv st=>RetQ Tryz.prog f264 (UN v) (WC v) .ret st) u28 (q_hl (GE a1 a3 v14 v7.1 0) (qGZ E a1 a3 v14 FUEL v7.1 0 u28 h27)) ?_ ?_
    ·rintro v29 rfl st hr;obtain rfl:=oi hm;exact hr
    ·rintro o26 rfl;replace hm:_=some r:=hm;refine s_vn [] 3 ⟨[(6,vi (imax o26 0)),(7,vb true)],[]⟩ ?_;obtain rfl:=oi hm;exact q_rt q_rm
  ·rcases bif_c hm with⟨b9,hm⟩|⟨b9,hm⟩
   ·exact q_du [qf 2 b9] [0,1,3,7,15,7,63,7,135,391,1023,2047] 2 [9] [(40,vb true)] [] [] (q_J (true) hm)
   ·obtain⟨v10,h11,hm⟩:=qC hm;exact q_du [qf 2 b9,qk 6 [31,33,34] 2 ⟨[(31,vb false),(33,vc (tl zJ du a1.zones)),(34,va (qL a2))],[]⟩ (qR1 a1.zones a2 v10 h11)] [0,1,3,7,15,7,63,7,135,391,1023,2047] 2 [9] [(40,vb (decide (v10>a1.product.Wane)))] [] [] (q_J (decide (v10>a1.product.Wane)) hm)
def qQ6 (r:Int):V:=vi r
def qRj (r:Int):List (Nat×(Nat×O)):=[]
def AA (v2:(List qO)) (x4:Int) (x5:Int):St:=
 ⟨[(3,vi x4),(7,vc (tl qS du v2)),(8,vi (v2.length:Int)),(9,vi x5)],[]⟩
def qD2 (x8:Int):St:=
 ⟨[(3,vi x8)],[]⟩
theorem qKH (E:Env 0) (v2:(List qO)):∀(n:Nat) (x4:Int) (x5:Int) (res:Int),KJ v2 n x4 x5=some res->HL (kx E 19 0) (nd f122 116) (zN 0 qD2 res) n (AA v2 x4 x5):=by
 intro n
 induction n with
 |zero=>
  intro x4 x5 res hm;cases hm
 |succ n ih=>
  intro x4 x5 res hm;refine qU (s_va 0 [(10,vb (decide (x5<(v2.length:Int))))] ?_);refine q_sq (q_cq hm (λhm=>?_) (λhm=>?_))
  ·refine q_sk (q_sq ?_);refine q_bk 1 ?_;obtain⟨g7,hm⟩:=qJ hm;refine s_vu [qi 0 g7] 0 [10] [(5,vp 0 0)] [] [(0,bx 80 (qS (v2.getD x5.toNat du)))] (q_vu [] 1 [3,5] [(3,vi (w64 (x4+((v2.getD x5.toNat du).Len))))] [0] [] ?_);exact q_vv [] 1 [9] [(9,vi (w64 (x5+1)))] (q_hl (AA v2 (w64 (x4+((v2.getD x5.toNat du).Len))) (w64 (x5+1))) (ih (w64 (x4+((v2.getD x5.toNat du).Len))) (w64 (x5+1)) _ hm))
  ·refine q_ex 0 ?_;obtain rfl:=oi hm;exact q_l0
theorem LZ (a1:List qO) (r:Int) (hm:XK a1=some r):CtX Tryz.prog globs 122 0 0 [.one (tl qS du a1)] [] (qQ6 r) (qRj r):=by
 unfold XK at hm;refine q_E f122 19 λE=>?_;refine s_vn [] 0 ⟨[(0,vc (tl qS du a1))],[]⟩ (s_va 0 [(3,vi 0)] ?_);refine q_sq ?_;obtain⟨v2,h3,hm⟩:=qC hm;refine s_vv [qc 1 [6] 0 (SZ a1 v2 h3)] 0 [0] [(7,vc (tl qS du v2)),(8,vi (v2.length:Int)),(9,vi 0)] ?_;obtain⟨o9,h10,hm⟩:=qC hm;refine zI (nd f122 116) 0 (by kernel_rfl) FUEL qD2 o9 (q_hl (AA v2 0 0) (qKH E v2 FUEL 0 0 o9 h10)) (s_vn [] 0 ⟨[(2,vi o9)],[]⟩ ?_);obtain rfl:=oi hm;exact q_rt q_rm
def qNe (r:Int):V:=vi r
def qNQ (r:Int):List (Nat×(Nat×O)):=[]
def FZ (a2:Rect) (v3:qG) (x5:Int) (x6:Int):St:=
 ⟨[(2,vp 0 0),(3,vp 1 0),(5,vi x5),(12,vc (tl qL du v3.Rows)),(13,vi (v3.Rows.length:Int)),(14,vi x6)],[(0,bx 78 (zA v3)),(1,bx 55 (qR a2))]⟩
def qBp (x19:Int):St:=
 ⟨[(5,vi x19)],[]⟩
theorem qI5 (E:Env 0) (a2:Rect) (v3:qG):∀(n:Nat) (x5:Int) (x6:Int) (res:Int),JJ a2 v3 n x5 x6=some res->HL (kx E 44 0) (nd f184 244) (zN 0 qBp res) n (FZ a2 v3 x5 x6):=by
 intro n
 induction n with
 |zero=>
  intro x5 x6 res hm;cases hm
 |succ n ih=>
  intro x5 x6 res hm;refine qU (s_va 2 [(15,vb (decide (x6<(v3.Rows.length:Int))))] ?_);refine q_sq (q_cq hm (λhm=>?_) (λhm=>?_))
  ·refine q_sk (q_sq ?_);refine q_bk 1 ?_;obtain⟨g8,hm⟩:=qJ hm;refine s_vu [qi 1 g8] 2 [15] [(6,vi x6),(7,vp 2 0)] [] [(2,bx 53 (qL (v3.Rows.getD x6.toNat du)))] ?_;obtain⟨v9,h10,hm⟩:=qC hm;refine s_vu [qc 9 [22,27] 3 (SD (w64 (v3.Low+x6)) (w64 ((w64 (v3.Low+x6))+1)) v9 h10)] 3 [6] [(8,vp 3 0)] [] [(3,bx 53 (qL v9))] ?_;obtain⟨v11,h12,hm⟩:=qC hm;obtain⟨v13,h14,hm⟩:=qC hm;obtain⟨v15,h16,hm⟩:=qC hm;obtain⟨v17,h18,hm⟩:=qC hm
   refine q_du [qc 4 [30,32] 4 (RZ (v3.Rows.getD x6.toNat du) a2.X v11 h12),qc 5 [33] 4 (FU v11 v13 h14),qc 9 [35,37] 4 (RZ v9 a2.Y v15 h16),qc 10 [38] 4 (FU v15 v17 h18)] [0,0,0,4,14,30,0,0,128,510,1022,2046,4095,8191] 4 [5,7,8] [(5,vi (w64 (x5+(w64 (v13*v17)))))] [2,3] [] (q_vv [] 4 [14] [(14,vi (w64 (x6+1)))] ?_);exact q_hl (FZ a2 v3 (w64 (x5+(w64 (v13*v17)))) (w64 (x6+1))) (ih (w64 (x5+(w64 (v13*v17)))) (w64 (x6+1)) _ hm)
  ·refine q_ex 0 ?_;obtain rfl:=oi hm;exact q_l0
theorem qEf (a1:qG) (a2:Rect) (r:Int) (hm:RB a1 a2=some r):CtX Tryz.prog globs 184 0 0 [.agg (zA a1),.agg (qR a2)] [] (qNe r) (qNQ r):=by
 unfold RB at hm;refine q_E f184 44 λE=>?_;refine s_vn [] 0 ⟨[(2,vp 0 0),(3,vp 1 0)],[(0,bx 78 (zA a1)),(1,bx 55 (qR a2))]⟩ ?_;obtain⟨v3,h4,hm⟩:=qC hm;refine s_vu [qc 1 [9] 2 (RW a1 v3 h4)] 2 [] [] [0] [(0,bx 78 (zA v3))] (s_va 2 [(5,vi 0)] ?_);refine q_sq (s_va 2 [(12,vc (tl qL du v3.Rows)),(13,vi (v3.Rows.length:Int)),(14,vi 0)] ?_);obtain⟨o20,h21,hm⟩:=qC hm;refine zI (nd f184 244) 0 (by kernel_rfl) FUEL qBp o20 (q_hl (FZ a2 v3 0 0) (qI5 E a2 v3 FUEL 0 0 o20 h21)) (s_vn [] 2 ⟨[(4,vi o20)],[]⟩ ?_);obtain rfl:=oi hm;exact q_rt q_rm
def qTt (r:(List qY)):V:=vo 0 0 3 r.length
def qTi (r:(List qY)):List (Nat×(Nat×O)):=[(0,ro 0 305 3 r.length (rf zJ r))]
def OQ (a1:List qO) (a2:Rect) (l3:List qY) (l3n:Nat) (x4:Int) (x5:Int):St:=
 ⟨[(3,vp 0 0),(5,vi (w64 ((w64 (a2.X.B-a2.X.A))*(w64 (a2.Y.B-a2.Y.A))))),(6,vo 1 0 3 l3n),(7,vi x4),(27,vc (tl qS du a1)),(28,vi (a1.length:Int)),(29,vi x5)],[(0,bx 55 (qR a2)),(1,ro 0 305 3 l3n (rf zJ l3))]⟩
def qEV (l12:List qY):St:=
 ⟨[(6,vo 1 0 3 l12.length)],[(1,ro 0 305 3 l12.length (rf zJ l12))]⟩
theorem qMz (E:Env 0) (a1:List qO) (a2:Rect):∀(n:Nat) (l3:List qY) (l3n:Nat) (x4:Int) (x5:Int) (res:(List qY)),l3.length=l3n->PX a1 a2 n l3 x4 x5=some res->HL (kx E 61 0) (nd f279 500) (zN 0 qEV res) n (OQ a1 a2 l3 l3n x4 x5):=by
 intro n
 induction n with
 |zero=>
  intro l3 l3n x4 x5 res hl0 hm;cases hm
 |succ n ih=>
  intro l3 l3n x4 x5 res hl0 hm;subst hl0;refine qU (s_va 2 [(30,vb (decide (x5<(a1.length:Int))))] ?_);refine q_sq (q_cq hm (λhm=>?_) (λhm=>?_))
  ·refine q_sk (q_sq ?_);refine q_bk 1 ?_;obtain⟨g7,hm⟩:=qJ hm;refine s_vu [qi 0 g7] 2 [30] [(9,vp 2 0)] [] [(2,bx 80 (qS (a1.getD x5.toNat du)))] ?_;obtain⟨v8,h9,hm⟩:=qC hm;refine s_vv [qc 4 [35,36] 3 (qEf ((a1.getD x5.toNat du).Sec) a2 v8 h9)] 3 [] [(10,vi (w64 ((w64 ((w64 (a2.X.B-a2.X.A))*(w64 (a2.Y.B-a2.Y.A))))-v8)))] (s_vu [] 3 [7,9] [(11,vp 3 0)] [2] [(3,bx 53 [ci x4,ci (w64 (x4+((a1.getD x5.toNat du).Len)))])] ?_);obtain⟨g10,hm⟩:=qJ hm;obtain⟨g11,hm⟩:=qJ hm
   refine s_du [qd 8 dN (OA g10),qd 10 (drw 4 0 (rf zJ [(qY.mk (Span.mk x4 (w64 (x4+((a1.getD x5.toNat du).Len)))) (w64 (Int.tdiv (w64 ((w64 ((w64 (1000*(w64 ((w64 ((w64 (a2.X.B-a2.X.A))*(w64 (a2.Y.B-a2.Y.A))))-v8))))+(w64 ((w64 (a2.X.B-a2.X.A))*(w64 (a2.Y.B-a2.Y.A))))))-1)) (w64 ((w64 (a2.X.B-a2.X.A))*(w64 (a2.Y.B-a2.Y.A)))))))])) (litP zJ du 3 (λ_=>rfl) ([(qY.mk (Span.mk x4 (w64 (x4+((a1.getD x5.toNat du).Len)))) (w64 (Int.tdiv (w64 ((w64 ((w64 (1000*(w64 ((w64 ((w64 (a2.X.B-a2.X.A))*(w64 (a2.Y.B-a2.Y.A))))-v8))))+(w64 ((w64 (a2.X.B-a2.X.A))*(w64 (a2.Y.B-a2.Y.A))))))-1)) (w64 ((w64 (a2.X.B-a2.X.A))*(w64 (a2.Y.B-a2.Y.A)))))))]:List qY) 1 rfl),qd 11 (drw 1 1 (rf zJ (l3++[(qY.mk (Span.mk x4 (w64 (x4+((a1.getD x5.toNat du).Len)))) (w64 (Int.tdiv (w64 ((w64 ((w64 (1000*(w64 ((w64 ((w64 (a2.X.B-a2.X.A))*(w64 (a2.Y.B-a2.Y.A))))-v8))))+(w64 ((w64 (a2.X.B-a2.X.A))*(w64 (a2.Y.B-a2.Y.A))))))-1)) (w64 ((w64 (a2.X.B-a2.X.A))*(w64 (a2.Y.B-a2.Y.A)))))))]))) (apP zJ du l3 ([(qY.mk (Span.mk x4 (w64 (x4+((a1.getD x5.toNat du).Len)))) (w64 (Int.tdiv (w64 ((w64 ((w64 (1000*(w64 ((w64 ((w64 (a2.X.B-a2.X.A))*(w64 (a2.Y.B-a2.Y.A))))-v8))))+(w64 ((w64 (a2.X.B-a2.X.A))*(w64 (a2.Y.B-a2.Y.A))))))-1)) (w64 ((w64 (a2.X.B-a2.X.A))*(w64 (a2.Y.B-a2.Y.A)))))))]:List qY) l3.length 1 3 24 (1<=1) (ke _) rfl rfl (λ_=>rfl) (wB g11))] [0,0,0,4,0,28,60,0,252,510,1022,2047,4095] 4 [6,10] [(6,vo 1 1 3 (l3.length+1))] [1] [(1,ro 1 305 3 (l3.length+1) (rf zJ (l3++[(qY.mk (Span.mk x4 (w64 (x4+((a1.getD x5.toNat du).Len)))) (w64 (Int.tdiv (w64 ((w64 ((w64 (1000*(w64 ((w64 ((w64 (a2.X.B-a2.X.A))*(w64 (a2.Y.B-a2.Y.A))))-v8))))+(w64 ((w64 (a2.X.B-a2.X.A))*(w64 (a2.Y.B-a2.Y.A))))))-1)) (w64 ((w64 (a2.X.B-a2.X.A))*(w64 (a2.Y.B-a2.Y.A)))))))])))] ?_
   refine q_vu [] 5 [11] [(7,vi (w64 (x4+((a1.getD x5.toNat du).Len))))] [3] [] (q_vv [] 5 [29] [(29,vi (w64 (x5+1)))] ?_)
   exact q_hl (OQ a1 a2 (l3++[(qY.mk (Span.mk x4 (w64 (x4+((a1.getD x5.toNat du).Len)))) (w64 (Int.tdiv (w64 ((w64 ((w64 (1000*(w64 ((w64 ((w64 (a2.X.B-a2.X.A))*(w64 (a2.Y.B-a2.Y.A))))-v8))))+(w64 ((w64 (a2.X.B-a2.X.A))*(w64 (a2.Y.B-a2.Y.A))))))-1)) (w64 ((w64 (a2.X.B-a2.X.A))*(w64 (a2.Y.B-a2.Y.A)))))))]) (l3.length+1) (w64 (x4+((a1.getD x5.toNat du).Len))) (w64 (x5+1))) (ih (l3++[(qY.mk (Span.mk x4 (w64 (x4+((a1.getD x5.toNat du).Len)))) (w64 (Int.tdiv (w64 ((w64 ((w64 (1000*(w64 ((w64 ((w64 (a2.X.B-a2.X.A))*(w64 (a2.Y.B-a2.Y.A))))-v8))))+(w64 ((w64 (a2.X.B-a2.X.A))*(w64 (a2.Y.B-a2.Y.A))))))-1)) (w64 ((w64 (a2.X.B-a2.X.A))*(w64 (a2.Y.B-a2.Y.A)))))))]) (l3.length+1) (w64 (x4+((a1.getD x5.toNat du).Len))) (w64 (x5+1)) _ (wC rfl rfl) hm)
  ·refine q_ex 0 ?_;obtain rfl:=oi hm;exact q_l0
theorem qQ7 (a1:List qO) (a2:Rect) (r:(List qY)) (hm:AW a1 a2=some r):CtX Tryz.prog globs 279 0 0 [.one (tl qS du a1),.agg (qR a2)] [] (qTt r) (qTi r):=by
 unfold AW at hm;refine q_E f279 61 λE=>?_;refine s_vn [] 0 ⟨[(0,vc (tl qS du a1)),(3,vp 0 0)],[(0,bx 55 (qR a2))]⟩ (s_va 1 [(5,vi (w64 ((w64 (a2.X.B-a2.X.A))*(w64 (a2.Y.B-a2.Y.A)))))] ?_);refine s_va 1 [(6,vc (.emp))] (s_va 1 [(7,vi 0)] ?_);refine q_sq (s_vv [] 1 [0] [(27,vc (tl qS du a1)),(28,vi (a1.length:Int)),(29,vi 0)] ?_);refine q_fo 6 1 305 3 zJ ?_;obtain⟨o13,h14,hm⟩:=qC hm;refine zI (nd f279 500) 0 (by kernel_rfl) FUEL qEV o13 (q_hl (OQ a1 a2 ([]:List qY) 0 0 0) (qMz E a1 a2 FUEL ([]:List qY) 0 0 0 o13 rfl h14)) (s_vv [] 2 [6] [(4,vo 1 0 3 o13.length)] ?_);obtain rfl:=oi hm
 exact q_sw 1 0 (q_rt q_rm)
end Saw
end Go.SL

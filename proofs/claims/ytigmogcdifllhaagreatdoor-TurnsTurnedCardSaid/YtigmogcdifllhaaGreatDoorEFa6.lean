import Derived.Test.YtigmogcdifllhaaGreatDoorEBase
import Derived.Test.YtigmogcdifllhaaGreatDoorTPm
import Derived.WalkKit
import Derived.Lib.Builder
import Derived.Test.YtigmogcdifllhaaGreatDoorEFa4
import Derived.Test.YtigmogcdifllhaaGreatDoorEFa5
import Derived.Test.YtigmogcdifllhaaGreatDoorEFa3
set_option linter.unusedVariables false
set_option linter.unusedSimpArgs false
namespace Go.SL
namespace Saw
open Go.Proofs Go.Proofs.Tryz
set_option maxHeartbeats 4000000
def qIR (r:(List qN)×(List qG)×Int):V:= .tup [.one (tl qR dd r.1),.one (tl qM dd r.2.1),.one (ci r.2.2)]
def qIS (r:(List qN)×(List qG)×Int):List (Nat×(Nat×O)):=[]
open Go.RowKit
theorem res3 (tmps:Array Value) (w:World) (b8 b9 b10:Nat) (x8 x9 x10:Value) (j8:tmps.getD 8 undef= .pointer (some ⟨b8,0,none⟩)) (j9:tmps.getD 9 undef= .pointer (some ⟨b9,0,none⟩)) (j10:tmps.getD 10 undef= .pointer (some ⟨b10,0,none⟩))
  (h8:w.cell? ⟨b8,0,none⟩=some x8) (h9:w.cell? ⟨b9,0,none⟩=some x9) (h10:w.cell? ⟨b10,0,none⟩=some x10):(results f10 tmps).run Tryz.prog w= .ok (.tuple #[x8,x9,x10]) w:=by
 have hres:f10.results= #[.cell 8 30,.cell 9 23,.cell 10 31]:=by kernel_rfl
 have a30:=Tryz.isAgg30;have a23:=Tryz.isAgg23;have a31:=Tryz.isAgg31;rw[ks] at j8 j9 j10;unfold results;rw[hres];simp[j8,j9,j10,h8,h9,h10,go_sem,a30,a23,a31]
theorem qS3 {w:World} {b:Nat} {cs:Array Value} {e:TypeId} (h:w.heap[b]? =some (.cells cs e (0,0))):w.frozen? ⟨b,0,none⟩=false:=Go.Lib.frozen_of_heap h 0
theorem ID {w:World} {b:Nat} {v:Value} {e:TypeId} {z:Nat×Nat} (h:w.heap[b]? =some (.cells #[v] e z)):w.cell? ⟨b,0,none⟩=some v:=by rw[Go.Lib.cell_of_heap h];rfl
theorem qS0 {w:World} {b:Nat} {x:Value} {T:TypeId} {fr:Nat×Nat} {v:Value} (hb:w.heap[b]? =some (.cells #[x] T fr)):(w.setCell ⟨b,0,none⟩ v).heap[b]? =some (.cells #[v] T fr):=by
 simp[World.setCell,uV,hb]
theorem qDW {w:World} {b c o:Nat} {v:Value} (h:c≠b):(w.setCell ⟨b,o,none⟩ v).heap[c]? =w.heap[c]? :=by
 simp[World.setCell,uV,Ne.symm h]
theorem tup3 {w:World} {M:Mem} {x y z:C} {a b c:Value} (h1:CRep w M x a) (h2:CRep w M y b) (h3:CRep w M z c):VRep w M (.tup [.one x,.one y,.one z]) (.tuple #[a,b,c]):=by
 refine⟨_,rfl,rfl,λj hj=>?_⟩
 match j,hj with
 |0,_=>exact h1
 |1,_=>exact h2
 |2,_=>exact h3
theorem qHQ (a1:Scan) (a2 a3 a4:Int) (r:(List qN)×(List qG)×Int) (hm:wS a1 a2 a3 a4=some r):CtX Tryz.prog globs 10 0 0 [.agg (wF a1),.one (ci a2),.one (ci a3),.one (ci a4)] [] (qIR r) (qIS r):=by
 unfold wS at hm;obtain⟨v5,h6,hm⟩:=qC hm;obtain⟨v7,h8,hm⟩:=qC hm;obtain⟨v9,h10,hm⟩:=qC hm;refine qVR (by kernel_rfl) λw A vs hg ha=>?_;refine qW4 a1 a2 a3 a4 v5 v7 v9 h6 h8 h10 w A vs hg ha _ ?_;intro M w4 b8 b9 b10 b12 x8 x9 hb hA ⟨g8,g9,g10⟩ ⟨n1,n2,n3,n4,n5,n6⟩ ⟨o8,o9,o10⟩ m8 m9 m10 m12 r8 r9 tmps j8 j9 j10
 have entry:(invoke (.fn (.func 24) #[.pointer (some ⟨b12,0,none⟩),.pointer (some ⟨b10,0,none⟩),.pointer (some ⟨b8,0,none⟩),.pointer (some ⟨b9,0,none⟩)]) #[]).run Tryz.prog w4= .ok (.enter 24 #[.pointer (some ⟨b12,0,none⟩),.pointer (some ⟨b10,0,none⟩),.pointer (some ⟨b8,0,none⟩),.pointer (some ⟨b9,0,none⟩)]) w4:=
  enters_of Tryz.func24 (by kernel_rfl) rfl _ w4
 refine leaves_cons (f:=24) (by simp) entry ?_;by_cases he:v7.2=0
 ·refine(qYI b12 b10 b8 b9 v7.2 0 .returning w4 (ID m12) (ID m10) (qS3 m10) n1 he).mono ?_;rintro e u' w' ⟨rfl,rfl,rfl⟩;have s8:(w4.setCell ⟨b10,0,none⟩ (.int .i64 0)).heap[b8]? =some (.cells #[x8] 30 (0,0)):=by rw[qDW (Ne.symm n4)];exact m8
  have s9:(w4.setCell ⟨b10,0,none⟩ (.int .i64 0)).heap[b9]? =some (.cells #[x9] 23 (0,0)):=by rw[qDW (Ne.symm n5)];exact m9
  have s10:(w4.setCell ⟨b10,0,none⟩ (.int .i64 0)).heap[b10]? =some (.cells #[.int .i64 0] 31 (0,0)):=qS0 m10;refine⟨_,res3 tmps _ b8 b9 b10 x8 x9 (.int .i64 0) j8 j9 j10 (ID s8) (ID s9) (ID s10),_,rfl,hb.setCell (p:=⟨b10,0,none⟩) g10 _,?_⟩;have e0:(v7.2 !=0)=false:=by simp[he]
  rw[e0,ku] at hm;obtain rfl:=oi hm;have mv:∀{c:C} {u:Value},IRep w4 M.imm c u->IRep (w4.setCell ⟨b10,0,none⟩ (.int .i64 0)) (Mem.of λb=>A b\/w.heap.size<=b).imm c u:=λh=>h.move (λb hi _=>qDW (λe=>hi.2 (e▸o10))) λb hi _=>⟨(hA b).1 hi.1,fun⟨i,k,hv,_⟩=>(by cases hv)⟩
  exact tup3 (mv r8) (mv r9) (show IRep _ _ (ci v7.2) _ by rw[he];exact .val _ rfl)
 ·refine(qYY b12 b10 b8 b9 v7.2 0 x8 x9 .returning w4 (ID m12) (ID m10) (ID m8) (ID m9) (qS3 m10) (qS3 m8) (qS3 m9) n1 n2 n3 n4 n5 n6 he).mono ?_;rintro e u' w' ⟨rfl,rfl,rfl⟩;have s8:(((w4.setCell ⟨b10,0,none⟩ (.int .i64 v7.2)).setCell ⟨b8,0,none⟩ (.slice none 0 0)).setCell ⟨b9,0,none⟩ (.slice none 0 0)).heap[b8]? =some (.cells #[.slice none 0 0] 30 (0,0)):=by
   rw[qDW n6];exact qS0 (by rw[qDW (Ne.symm n4)];exact m8)
  have s9:(((w4.setCell ⟨b10,0,none⟩ (.int .i64 v7.2)).setCell ⟨b8,0,none⟩ (.slice none 0 0)).setCell ⟨b9,0,none⟩ (.slice none 0 0)).heap[b9]? =some (.cells #[.slice none 0 0] 23 (0,0)):=
   qS0 (by rw[qDW (Ne.symm n6),qDW (Ne.symm n5)];exact m9)
  have s10:(((w4.setCell ⟨b10,0,none⟩ (.int .i64 v7.2)).setCell ⟨b8,0,none⟩ (.slice none 0 0)).setCell ⟨b9,0,none⟩ (.slice none 0 0)).heap[b10]? =some (.cells #[.int .i64 v7.2] 31 (0,0)):=by
   rw[qDW n5,qDW n4];exact qS0 m10
  refine⟨_,res3 tmps _ b8 b9 b10 _ _ _ j8 j9 j10 (ID s8) (ID s9) (ID s10),_,rfl,((hb.setCell (p:=⟨b10,0,none⟩) g10 _).setCell (p:=⟨b8,0,none⟩) g8 _).setCell (p:=⟨b9,0,none⟩) g9 _,?_⟩;have e0:(v7.2 !=0)=true:=by simpa using he
  rw[e0,kp] at hm;obtain rfl:=oi hm;exact tup3 (IRep.lst0 _ _) (IRep.lst0 _ _) (show IRep _ _ (ci v7.2) _ from .val _ rfl)
open Go.Proofs Go.Proofs.Tryz
set_option maxRecDepth 100000
def qMW (r:Rect):V:=va (qT r)
def qND (r:Rect):List (Nat×(Nat×O)):=[]
def OT (v2:qH) (x6:Int):St:=
 ⟨[(1,vp 0 0),(2,vp 1 0),(3,vp 2 0),(18,vc (tl qK dd v2.Rows)),(19,vi (v2.Rows.length:Int)),(20,vi x6)],[(0,bx 78 (zA v2)),(1,bx 55 [ci 0,ci 0,ci 0,ci 0])]⟩
def qJh (v2:qH) (x6:Int) (x13:Span):St:=
 (OT v2 x6).up [] [] [] [(2,bx 53 (qK x13))]
def NQ (v2:qH) (x6:Int) (x7:Span):St:=
 (OT v2 x6).up [] [] [] [(2,bx 53 (qK x7))]
def qAU (v2:qH) (x14:Span):St:=
 ⟨[(1,vp 0 0),(2,vp 1 0),(3,vp 2 0)],[(0,bx 78 (zA v2)),(1,bx 55 [ci 0,ci 0,ci 0,ci 0]),(2,bx 53 (qK x14))]⟩
theorem qH5 (E:Env 0) (v2:qH):∀(n:Nat) (x6:Int) (x7:Span) (res:Span),yQ v2 n x6 x7=some res->HL (kx E 50 0) (nd f123 500) (zM 0 (λo=>qAU v2 o) res) n (NQ v2 x6 x7):=by
 intro n
 induction n with
 |zero=>
  intro x6 x7 res hm;cases hm
 |succ n ih=>
  intro x6 x7 res hm;refine qS (s_va 3 [(21,vb (decide (x6<(v2.Rows.length:Int))))] ?_);refine q_sq (q_cq hm (λhm=>?_) (λhm=>?_))
  ·refine q_sk (q_jn (qJh v2 x6) (λp=>SK x6 (yQ v2 n) p=some res) ?_ ?_)
   ·rintro x13 hm;exact q_vv [] 4 [20] [(20,vi (w64 (x6+1)))] (q_hl (NQ v2 (w64 (x6+1)) x13) (ih (w64 (x6+1)) x13 _ hm))
   ·refine q_bk 1 ?_;obtain⟨g9,hm⟩:=qJ hm;refine s_vu [qi 0 g9] 3 [21] [(5,vp 3 0)] [] [(3,bx 53 (qK (v2.Rows.getD x6.toNat dd)))] ?_;obtain⟨v10,h11,hm⟩:=qC hm;refine s_vv [qc 1 [24] 4 (jZ (v2.Rows.getD x6.toNat dd) v10 h11)] 4 [] [(26,vb (!v10))] (q_cq hm (λhm=>?_) (λhm=>?_))
    ·exact q_vu [] 4 [5,26] [] [2,3] [(2,bx 53 [ci (imin x7.A ((v2.Rows.getD x6.toNat dd).A)),ci (imax x7.B ((v2.Rows.getD x6.toNat dd).B))])] (q_J ((Span.mk (imin x7.A ((v2.Rows.getD x6.toNat dd).A)) (imax x7.B ((v2.Rows.getD x6.toNat dd).B)))) hm)
    ·exact q_sk (q_J (x7) hm)
  ·refine q_ex 0 ?_;obtain rfl:=oi hm;exact q_l0
theorem qLN (a1:qH) (r:Rect) (hm:GM a1=some r):CtX Tryz.prog globs 123 0 0 [.agg (zA a1)] [] (qMW r) (qND r):=by
 unfold GM at hm;refine q_E f123 50 λE=>?_;refine s_vn [] 0 ⟨[(1,vp 0 0),(2,vp 1 0)],[(0,bx 78 (zA a1)),(1,bx 55 [ci 0,ci 0,ci 0,ci 0])]⟩ ?_;obtain⟨v2,h3,hm⟩:=qC hm;refine s_vu [qc 1 [6] 2 (PQ a1 v2 h3)] 2 [] [] [0] [(0,bx 78 (zA v2))] (q_sq ?_);refine s_va 2 [(11,vb ((v2.Rows.length:Int)==0))] (q_cq hm (λhm=>?_) (λhm=>?_))
 ·refine s_vu [] 2 [1,11] [] [0] [] ?_;obtain rfl:=oi hm;exact q_rt q_rm
 ·refine q_sk ?_;obtain⟨g5,hm⟩:=qJ hm;refine s_vu [qi 2 g5] 2 [11] [(3,vp 2 0)] [] [(2,bx 53 (qK (v2.Rows.getD (0:Int).toNat dd)))] (q_sq ?_);refine s_va 3 [(18,vc (tl qK dd v2.Rows)),(19,vi (v2.Rows.length:Int)),(20,vi 0)] ?_;obtain⟨o15,h16,hm⟩:=qC hm;refine zH (nd f123 500) 0 (by kernel_rfl) FUEL (λo=>qAU v2 o) o15 (q_hl (NQ v2 0 (v2.Rows.getD (0:Int).toNat dd)) (qH5 E v2 FUEL 0 (v2.Rows.getD (0:Int).toNat dd) o15 h16)) ?_;obtain⟨v17,h18,hm⟩:=qC hm
  refine s_dn [qc 9 [41,47] 3 (LJ v2.Low (w64 (v2.Low+(v2.Rows.length:Int))) v17 h18)] [0,0,2,0,8,0,32,96,248,510,1023,2047] 3 ⟨[(2,vp 1 0)],[(1,bx 55 [ci o15.A,ci o15.B,ci v17.A,ci v17.B])]⟩ ?_;obtain rfl:=oi hm;exact q_rt q_rm
def qC7 (r:Int):V:=vi r
def qC8 (r:Int):List (Nat×(Nat×O)):=[]
def qNO (a1:List qN) (x4:Int) (x5:Int) (x13:Bool):St:=
 ⟨[(3,vi x4),(5,vp 0 0),(13,vc (tl qR dd a1)),(14,vi (a1.length:Int)),(15,vi x5),(39,vb x13)],[(0,bx 80 (qR (a1.getD x5.toNat dd)))]⟩
def IR (a1:List qN) (x4:Int) (x5:Int):St:=
 ⟨[(3,vi x4),(13,vc (tl qR dd a1)),(14,vi (a1.length:Int)),(15,vi x5)],[]⟩
def qE7 :St:=
 ⟨[],[]⟩
theorem qLh (E:Env 0) (a1:List qN):∀(n:Nat) (x4:Int) (x5:Int) (res:Int⊕Unit),ZX a1 n x4 x5=some res->HL (kx E 45 0) (nd f106 500) (wK 0 (λo=>qE7) (λv st=>RetQ Tryz.prog f106 (qC7 v) (qC8 v) .ret st) res) n (IR a1 x4 x5):=by
 intro n
 induction n with
 |zero=>
  intro x4 x5 res hm;cases hm
 |succ n ih=>
  intro x4 x5 res hm;refine qS (s_va 0 [(16,vb (decide (x5<(a1.length:Int))))] ?_);refine q_sq (q_cq hm (λhm=>?_) (λhm=>?_))
  ·refine q_sk (q_sq ?_);refine q_bk 1 ?_;obtain⟨g7,hm⟩:=qJ hm;refine s_vu [qi 0 g7] 0 [16] [(5,vp 0 0)] [] [(0,bx 80 (qR (a1.getD x5.toNat dd)))] (q_sq ?_);obtain⟨v8,h9,hm⟩:=qC hm;refine s_vv [qc 2 [20] 1 (qFg ((a1.getD x5.toNat dd).Sec) v8 h9)] 1 [] [(6,vi v8)] (s_va 1 [(23,vb (v8 !=0))] ?_);refine q_cq hm (λhm=>?_) (λhm=>?_)
   ·refine s_vn [] 1 ⟨[(2,vi v8)],[]⟩ ?_;obtain rfl:=oi hm;refine q_rt (zK v8 ?_);exact q_rm
   ·refine q_sk (q_sq ?_);refine s_vv [] 1 [6,23] [(29,vb ((((((a1.getD x5.toNat dd).Sec).Rows).length:Nat):Int)==0))] (q_cq hm (λhm=>?_) (λhm=>?_))
    ·refine s_vn [] 1 ⟨[(2,vi 18)],[]⟩ ?_;obtain rfl:=oi hm;refine q_rt (zK 18 ?_);exact q_rm
    ·refine q_sk (q_sq ?_);refine q_jn (qNO a1 x4 x5) (λp=>qBP a1 x4 x5 (ZX a1 n) p=some res) ?_ ?_
     ·rintro x13 hm;refine q_cq hm (λhm=>?_) (λhm=>?_)
      ·refine s_vn [] 1 ⟨[(2,vi 9)],[]⟩ ?_;obtain rfl:=oi hm;refine q_rt (zK 9 ?_);exact q_rm
      ·refine q_sk (q_vu [] 1 [3,5,39] [(3,vi (w64 (x4+((a1.getD x5.toNat dd).Len))))] [0] [] ?_);exact q_vv [] 1 [15] [(15,vi (w64 (x5+1)))] (q_hl (IR a1 (w64 (x4+((a1.getD x5.toNat dd).Len))) (w64 (x5+1))) (ih (w64 (x4+((a1.getD x5.toNat dd).Len))) (w64 (x5+1)) _ hm))
     ·rcases bif_c hm with⟨b12,hm⟩|⟨b12,hm⟩
      ·exact q_vv [qf 3 b12] 1 [29] [(39,vb true)] (q_J (true) hm)
      ·exact q_vv [qf 3 b12] 1 [29] [(39,vb (decide (((a1.getD x5.toNat dd).Len)>(w64 (20000-x4)))))] (q_J (decide (((a1.getD x5.toNat dd).Len)>(w64 (20000-x4)))) hm)
  ·refine q_ex 0 ?_;obtain rfl:=oi hm;exact q_l1 ()
theorem YM (a1:List qN) (r:Int) (hm:KW a1=some r):CtX Tryz.prog globs 106 0 0 [.one (tl qR dd a1)] [] (qC7 r) (qC8 r):=by
 unfold KW at hm;refine q_E f106 45 λE=>?_;refine s_vn [] 0 ⟨[(0,vc (tl qR dd a1))],[]⟩ (q_sq ?_);refine s_va 0 [(9,vb ((a1.length:Int)==0))] (q_cq hm (λhm=>?_) (λhm=>?_))
 ·refine s_vn [] 0 ⟨[(2,vi 3)],[]⟩ ?_;obtain rfl:=oi hm;exact q_rt q_rm
 ·refine q_sk (q_sq ?_);refine s_vv [] 0 [9] [(12,vb (decide ((a1.length:Int)>24)))] (q_cq hm (λhm=>?_) (λhm=>?_))
  ·refine s_vn [] 0 ⟨[(2,vi 4)],[]⟩ ?_;obtain rfl:=oi hm;exact q_rt q_rm
  ·refine q_sk (s_vv [] 0 [12] [(3,vi 0)] ?_);refine q_sq (s_vv [] 0 [0] [(13,vc (tl qR dd a1)),(14,vi (a1.length:Int)),(15,vi 0)] ?_);obtain⟨u17,h16,hm⟩:=qC hm;refine zP (nd f106 500) 0 (by kernel_rfl) FUEL (λo=>qE7) (λv st=>RetQ Tryz.prog f106 (qC7 v) (qC8 v) .ret st) u17 (q_hl (IR a1 0 0) (qLh E a1 FUEL 0 0 u17 h16)) ?_ ?_
   ·rintro v18 rfl st hr;obtain rfl:=oi hm;exact hr
   ·rintro o15 rfl;replace hm:_=some r:=hm;refine s_vn [] 0 ⟨[(2,vi 0)],[]⟩ ?_;obtain rfl:=oi hm;exact q_rt q_rm
open Go.Proofs Go.Proofs.Tryz
def qSy (r:(List qN)):V:=vc (tl qR dd r)
def qSl (r:(List qN)):List (Nat×(Nat×O)):=[]
theorem SF (a1:List qN) (r:(List qN)) (hm:KT a1=some r):CtX Tryz.prog globs 119 0 0 [.one (tl qR dd a1)] [] (qSy r) (qSl r):=by
 unfold KT at hm;refine q_E f119 7 λE=>?_;refine s_vn [] 0 ⟨[(0,vc (tl qR dd a1))],[]⟩ (q_sq ?_);obtain⟨v2,h3,hm⟩:=qC hm;refine s_vv [qc 1 [3] 0 (YM a1 v2 h3)] 0 [] [(5,vb (v2 !=0))] (q_cq hm (λhm=>?_) (λhm=>?_))
 ·refine s_vn [] 0 ⟨[(2,vc (.emp))],[]⟩ (q_fn [.own 2 0 80 3 (rf qR [])] ⟨[(2,vo 0 0 3 0)],[(0,ro 0 80 3 0 (rf qR []))]⟩ o0 ?_);refine q_fn [.len 0 (([]:List qN).length),.frz 0] ⟨[(2,vc (tl qR dd ([]:List qN)))],[]⟩ (o1 (And.intro (And.intro (show 0=([]:List qN).length from rfl) (show 0=([]:List qN).length from rfl)) (ke (([]:List qN).length)))) ?_;obtain rfl:=oi hm;exact q_rt q_rm
 ·refine q_sk (s_vn [] 0 ⟨[(2,vc (tl qR dd a1))],[]⟩ ?_);obtain rfl:=oi hm;exact q_rt q_rm
def qQV (r:Rect):V:=va (qT r)
def qQU (r:Rect):List (Nat×(Nat×O)):=[]
def qLe (v2:(List qN)) (x4:Int) (v8:Rect) (x11:Rect):St:=
 ⟨[(2,vp 0 0),(3,vp 1 0),(6,vp 3 0),(8,vc (tl qR dd v2)),(9,vi (v2.length:Int)),(10,vi x4)],[(0,bx 55 [ci 0,ci 0,ci 0,ci 0]),(1,bx 55 (qT x11)),(3,bx 55 (qT v8))]⟩
def SM (v2:(List qN)) (x4:Int) (x5:Rect):St:=
 ⟨[(2,vp 0 0),(3,vp 1 0),(8,vc (tl qR dd v2)),(9,vi (v2.length:Int)),(10,vi x4)],[(0,bx 55 [ci 0,ci 0,ci 0,ci 0]),(1,bx 55 (qT x5))]⟩
def qDI (x12:Rect):St:=
 ⟨[(2,vp 0 0),(3,vp 1 0)],[(0,bx 55 [ci 0,ci 0,ci 0,ci 0]),(1,bx 55 (qT x12))]⟩
theorem qKq (E:Env 0) (v2:(List qN)):∀(n:Nat) (x4:Int) (x5:Rect) (res:Rect),ZD v2 n x4 x5=some res->HL (kx E 55 0) (nd f61 116) (zM 0 qDI res) n (SM v2 x4 x5):=by
 intro n
 induction n with
 |zero=>
  intro x4 x5 res hm;cases hm
 |succ n ih=>
  intro x4 x5 res hm;refine qS (s_va 2 [(11,vb (decide (x4<(v2.length:Int))))] ?_);refine q_sq (q_cq hm (λhm=>?_) (λhm=>?_))
  ·refine q_sk (q_sq ?_);refine q_bk 1 ?_;obtain⟨g7,hm⟩:=qJ hm;refine s_vu [qi 1 g7] 2 [11] [(4,vi x4),(5,vp 2 0)] [] [(2,bx 80 (qR (v2.getD x4.toNat dd)))] ?_;obtain⟨v8,h9,hm⟩:=qC hm;refine s_vu [qc 2 [16] 3 (qLN ((v2.getD x4.toNat dd).Sec) v8 h9)] 3 [5] [(6,vp 3 0)] [2] [(3,bx 55 (qT v8))] (q_jn (qLe v2 x4 v8) (λp=>qAH x4 (ZD v2 n) v8 p=some res) ?_ ?_)
   ·rintro x11 hm;refine s_vu [] 4 [] [] [1] [(1,bx 55 [ci (imin x11.X.A v8.X.A),ci (imax x11.X.B v8.X.B),ci x11.Y.A,ci x11.Y.B])] (q_vu [] 4 [6] [] [1,3] [(1,bx 55 [ci (imin x11.X.A v8.X.A),ci (imax x11.X.B v8.X.B),ci (imin x11.Y.A v8.Y.A),ci (imax x11.Y.B v8.Y.B)])] ?_)
    exact q_vv [] 4 [10] [(10,vi (w64 (x4+1)))] (q_hl (SM v2 (w64 (x4+1)) (Rect.mk (Span.mk (imin x11.X.A v8.X.A) (imax x11.X.B v8.X.B)) (Span.mk (imin x11.Y.A v8.Y.A) (imax x11.Y.B v8.Y.B)))) (ih (w64 (x4+1)) (Rect.mk (Span.mk (imin x11.X.A v8.X.A) (imax x11.X.B v8.X.B)) (Span.mk (imin x11.Y.A v8.Y.A) (imax x11.Y.B v8.Y.B))) _ hm))
   ·refine s_vv [] 4 [4] [(19,vb (x4==0))] (q_cq hm (λhm=>?_) (λhm=>?_))
    ·exact q_vu [] 4 [19] [] [1] [(1,bx 55 (qT v8))] (q_J (v8) hm)
    ·exact q_sk (q_J (x5) hm)
  ·refine q_ex 0 ?_;obtain rfl:=oi hm;exact q_l0
theorem qOq (a1:List qN) (r:Rect) (hm:MM a1=some r):CtX Tryz.prog globs 61 0 0 [.one (tl qR dd a1)] [] (qQV r) (qQU r):=by
 unfold MM at hm;refine q_E f61 55 λE=>?_;refine s_vn [] 0 ⟨[(0,vc (tl qR dd a1)),(2,vp 0 0)],[(0,bx 55 [ci 0,ci 0,ci 0,ci 0])]⟩ (s_vu [] 1 [] [(3,vp 1 0)] [] [(1,bx 55 [ci 0,ci 0,ci 0,ci 0])] ?_);refine q_sq ?_;obtain⟨v2,h3,hm⟩:=qC hm;refine s_vv [qc 1 [7] 2 (SF a1 v2 h3)] 2 [0] [(8,vc (tl qR dd v2)),(9,vi (v2.length:Int)),(10,vi 0)] ?_;obtain⟨o13,h14,hm⟩:=qC hm;refine zH (nd f61 116) 0 (by kernel_rfl) FUEL qDI o13 (q_hl (SM v2 0 (Rect.mk (Span.mk 0 0) (Span.mk 0 0))) (qKq E v2 FUEL 0 (Rect.mk (Span.mk 0 0) (Span.mk 0 0)) o13 h14)) (s_vu [] 2 [3] [] [0,1] [(0,bx 55 (qT o13))] ?_)
 obtain rfl:=oi hm;exact q_rt q_rm
def qUC (r:Rect):V:=va (qT r)
def qTG (r:Rect):List (Nat×(Nat×O)):=[]
theorem qSv (a1:List qN) (r:Rect) (hm:KM a1=some r):CtX Tryz.prog globs 31 0 0 [.one (tl qR dd a1)] [] (qUC r) (qTG r):=by
 unfold KM at hm;refine q_E f31 5 λE=>?_;refine s_vn [] 0 ⟨[(0,vc (tl qR dd a1)),(2,vp 0 0)],[(0,bx 55 [ci 0,ci 0,ci 0,ci 0])]⟩ ?_;obtain⟨v2,h3,hm⟩:=qC hm;refine s_vu [qc 1 [3] 1 (qOq a1 v2 h3)] 1 [0] [] [0] [(0,bx 55 (qT v2))] ?_;obtain rfl:=oi hm;exact q_rt q_rm
open Go.Proofs Go.Proofs.Tryz
def qUL (r:Rect):V:=va (qT r)
def qTv (r:Rect):List (Nat×(Nat×O)):=[]
theorem qDl (a1:Rect) (a2:Int) (a3:Int) (r:Rect) (hm:DE a1 a2 a3=some r):CtX Tryz.prog globs 56 0 0 [.agg (qT a1),.one (ci a2),.one (ci a3)] [] (qUL r) (qTv r):=by
 unfold DE at hm;refine q_E f56 21 λE=>?_;refine s_vn [] 0 ⟨[(1,vi a2),(2,vi a3),(3,vp 0 0),(6,vp 1 0)],[(0,bx 55 (qT a1)),(1,bx 55 [ci 0,ci 0,ci 0,ci 0])]⟩ (s_vn [] 2 ⟨[(6,vp 1 0)],[(1,bx 55 [ci a1.X.A,ci a1.X.B,ci (w64 (a1.Y.A+a2)),ci (w64 (a1.Y.A+a3))])]⟩ ?_);obtain rfl:=oi hm;exact q_rt q_rm
def qDN (a1:List Node) (a2:List (List Node)) (r:(List (List Node))×(List (List Node))):V:=vo 0 0 1 r.2.length
def qDx (a1:List Node) (a2:List (List Node)) (r:(List (List Node))×(List (List Node))):List (Nat×(Nat×O)):=[(0,ro 0 56 1 r.2.length (rf (qU qL) r.2))]
theorem qKu (a1:List Node) (a2:List (List Node)) (r:(List (List Node))×(List (List Node))) (hm:NY a1 a2=some r):CtX Tryz.prog globs 57 1 0 [.one (.own 0 0 1 a2.length),.one (tl qL dd a1)] [(0,ro 0 56 1 a2.length (rf (qU qL) a2))] (qDN a1 a2 r) (qDx a1 a2 r):=by
 unfold NY at hm;refine q_E f57 9 λE=>?_;refine s_vn [] 1 ⟨[(0,vo 0 0 1 a2.length),(1,vc (tl qL dd a1))],[(0,ro 0 56 1 a2.length (rf (qU qL) a2))]⟩ ?_;obtain⟨g3,hm⟩:=qJ hm
 refine s_vn [qd 2 (drw 1 0 (rf (qU qL) [a1])) (litP (qU qL) dd 1 (λ_=>rfl) ([a1]:List (List Node)) 1 rfl),qd 3 (drw 0 1 (rf (qU qL) (a2++[a1]))) (apP (qU qL) dd a2 ([a1]:List (List Node)) a2.length 1 1 24 (1<=1) (ke _) rfl rfl (λ_=>rfl) (wB g3))] 1 ⟨[(4,vo 0 1 1 (a2.length+1))],[(0,ro 1 56 1 (a2.length+1) (rf (qU qL) (a2++[a1])))]⟩ (q_fn [.len 0 ((a2++[a1]).length)] ⟨[(4,vo 0 1 1 ((a2++[a1]).length))],[(0,ro 1 56 1 ((a2++[a1]).length) (rf (qU qL) (a2++[a1])))]⟩ (o1 (And.intro (Eq.symm (show(a2++[a1]).length=(a2.length+1) from(wA rfl rfl))) (Eq.symm (show(a2++[a1]).length=(a2.length+1) from(wA rfl rfl))))) ?_)
 obtain rfl:=oi hm;exact q_rt q_rm
def qON (r:Bool):V:=vb r
def qOI (r:Bool):List (Nat×(Nat×O)):=[]
def qJA (x3:Bool):St:=
 ⟨[(2,vb x3)],[]⟩
theorem DR (a1:Int) (r:Bool) (hm:RX a1=some r):CtX Tryz.prog globs 210 0 0 [.one (.val (.int .u8 a1))] [] (qON r) (qOI r):=by
 unfold RX at hm;refine q_E f210 9 λE=>?_;refine s_vn [] 0 ⟨[(0,vc (.val (.int .u8 a1)))],[]⟩ (q_jn (qJA) (λp=>OL p=some r) ?_ ?_)
 ·rintro x3 hm;obtain rfl:=oi hm;exact q_rt q_rm
 ·rcases bif_c hm with⟨b2,hm⟩|⟨b2,hm⟩
  ·exact q_vn [qf 2 b2] 0 ⟨[(2,vb (decide (a1<=122)))],[]⟩ (q_J (decide (a1<=122)) hm)
  ·exact q_vn [qf 2 b2] 0 ⟨[(2,vb false)],[]⟩ (q_J (false) hm)
open Go.Proofs Go.Proofs.Tryz
def qOO (r:Bool):V:=vb r
def qPq (r:Bool):List (Nat×(Nat×O)):=[]
def qJF (x3:Bool):St:=
 ⟨[(2,vb x3)],[]⟩
theorem qEA (a1:Int) (r:Bool) (hm:NA a1=some r):CtX Tryz.prog globs 211 0 0 [.one (.val (.int .u8 a1))] [] (qOO r) (qPq r):=by
 unfold NA at hm;refine q_E f211 9 λE=>?_;refine s_vn [] 0 ⟨[(0,vc (.val (.int .u8 a1)))],[]⟩ (q_jn (qJF) (λp=>II p=some r) ?_ ?_)
 ·rintro x3 hm;obtain rfl:=oi hm;exact q_rt q_rm
 ·rcases bif_c hm with⟨b2,hm⟩|⟨b2,hm⟩
  ·exact q_vn [qf 2 b2] 0 ⟨[(2,vb (decide (a1<=57)))],[]⟩ (q_J (decide (a1<=57)) hm)
  ·exact q_vn [qf 2 b2] 0 ⟨[(2,vb false)],[]⟩ (q_J (false) hm)
def qBt (r:Bool):V:=vb r
def qA7 (r:Bool):List (Nat×(Nat×O)):=[]
def qLG (a1:ByteArray) (x9:Int) (x18:Bool):St:=
 ⟨[(0,vc (cs a1)),(3,vi x9),(39,vb x18)],[]⟩
def EI (a1:ByteArray) (x9:Int):St:=
 ⟨[(0,vc (cs a1)),(3,vi x9)],[]⟩
def qDJ :St:=
 ⟨[],[]⟩
def qLK (a1:ByteArray) (x7:Bool):St:=
 ⟨[(0,vc (cs a1)),(18,vb x7)],[]⟩
theorem qKl (E:Env 0) (a1:ByteArray):∀(n:Nat) (x9:Int) (res:Bool⊕Unit),yV a1 n x9=some res->HL (kx E 40 0) (nd f165 116) (wK 0 (λo=>qDJ) (λv st=>RetQ Tryz.prog f165 (qBt v) (qA7 v) .ret st) res) n (EI a1 x9):=by
 intro n
 induction n with
 |zero=>
  intro x9 res hm;cases hm
 |succ n ih=>
  intro x9 res hm;refine qS (q_sq ?_);refine s_va 0 [(22,vb (decide (x9<(a1.size:Int))))] (q_cq hm (λhm=>?_) (λhm=>?_))
  ·refine q_sk (q_sq ?_);refine q_bk 1 ?_;obtain⟨g11,hm⟩:=qJ hm;refine s_vv [qi 2 g11] 0 [22] [(4,vc (.val (.int .u8 (RP a1 x9.toNat))))] (q_jn (qLG a1 x9) (λp=>UJ x9 (yV a1 n) p=some res) ?_ ?_)
   ·rintro x18 hm;refine q_cq hm (λhm=>?_) (λhm=>?_)
    ·refine s_vn [] 0 ⟨[(2,vb false)],[]⟩ ?_;obtain rfl:=oi hm;refine q_rt (zK false ?_);exact q_rm
    ·refine q_sk (q_vv [] 0 [3,39] [(3,vi (w64 (x9+1)))] ?_);exact q_hl (EI a1 (w64 (x9+1))) (ih (w64 (x9+1)) _ hm)
   ·obtain⟨v12,h13,hm⟩:=qC hm;rcases bif_c hm with⟨b14,hm⟩|⟨b14,hm⟩
    ·obtain⟨v15,h16,hm⟩:=qC hm;rcases bif_c hm with⟨b17,hm⟩|⟨b17,hm⟩
     ·exact q_vv [qc 1 [28] 0 (DR (RP a1 x9.toNat) v12 h13),qf 3 b14,qk 5 [31,32] 0 ⟨[(31,vb true),(32,vc (.val (.int .u8 (RP a1 x9.toNat))))],[]⟩ (qEA (RP a1 x9.toNat) v15 h16),qf 8 b17] 0 [4] [(39,vb ((RP a1 x9.toNat) !=95))] (q_J ((RP a1 x9.toNat) !=95) hm)
     ·exact q_vv [qc 1 [28] 0 (DR (RP a1 x9.toNat) v12 h13),qf 3 b14,qk 5 [31,32] 0 ⟨[(31,vb true),(32,vc (.val (.int .u8 (RP a1 x9.toNat))))],[]⟩ (qEA (RP a1 x9.toNat) v15 h16),qf 8 b17] 0 [4] [(39,vb false)] (q_J (false) hm)
    ·exact q_vv [qc 1 [28] 0 (DR (RP a1 x9.toNat) v12 h13),qf 3 b14] 0 [4] [(39,vb false)] (q_J (false) hm)
  ·refine q_ex 0 ?_;obtain rfl:=oi hm;exact q_l1 ()
theorem qOS (a1:ByteArray) (r:Bool) (hm:FZ a1=some r):CtX Tryz.prog globs 165 0 0 [.one (cs a1)] [] (qBt r) (qA7 r):=by
 unfold FZ at hm;refine q_E f165 40 λE=>?_;refine s_vn [] 0 ⟨[(0,vc (cs a1))],[]⟩ (q_sq ?_);refine q_jn (qLK a1) (λp=>TY a1 p=some r) ?_ ?_
 ·rintro x7 hm;refine q_cq hm (λhm=>?_) (λhm=>?_)
  ·refine s_vn [] 0 ⟨[(2,vb false)],[]⟩ ?_;obtain rfl:=oi hm;exact q_rt q_rm
  ·refine q_sk (q_sq ?_);refine s_vv [] 0 [18] [(3,vi 1)] ?_;obtain⟨u22,h21,hm⟩:=qC hm;refine zP (nd f165 116) 0 (by kernel_rfl) FUEL (λo=>qDJ) (λv st=>RetQ Tryz.prog f165 (qBt v) (qA7 v) .ret st) u22 (q_hl (EI a1 1) (qKl E a1 FUEL 1 u22 h21)) ?_ ?_
   ·rintro v23 rfl st hr;obtain rfl:=oi hm;exact hr
   ·rintro o20 rfl;replace hm:_=some r:=hm;refine s_vn [] 0 ⟨[(2,vb true)],[]⟩ ?_;obtain rfl:=oi hm;exact q_rt q_rm
 ·rcases bif_c hm with⟨b2,hm⟩|⟨b2,hm⟩
  ·exact q_vv [qf 3 b2] 0 [] [(18,vb true)] (q_J (true) hm)
  ·rcases bif_c hm with⟨b3,hm⟩|⟨b3,hm⟩
   ·exact q_vv [qf 3 b2,qf 8 b3] 0 [] [(18,vb true)] (q_J (true) hm)
   ·obtain⟨g4,hm⟩:=qJ hm;obtain⟨v5,h6,hm⟩:=qC hm;exact q_vv [qf 3 b2,qf 8 b3,qi 10 g4,qk 11 [13,15] 0 ⟨[(13,vb false),(15,vc (.val (.int .u8 (RP a1 ((0:Int).toNat)))))],[]⟩ (DR (RP a1 ((0:Int).toNat)) v5 h6)] 0 [] [(18,vb (!v5))] (q_J (!v5) hm)
def qBR (r:Int×Bool):V:= .tup [.one (ci r.1),.one (cb r.2)]
def qBr (r:Int×Bool):List (Nat×(Nat×O)):=[]
def SY (a1:List qF) (a2:ByteArray) (x3:Int):St:=
 ⟨[(1,vc (cs a2)),(8,vc (tl qP dd a1)),(9,vi (a1.length:Int)),(10,vi x3)],[]⟩
def qDE :St:=
 ⟨[],[]⟩
theorem qKB (E:Env 0) (a1:List qF) (a2:ByteArray):∀(n:Nat) (x3:Int) (res:(Int×Bool)⊕Unit),XO a1 a2 n x3=some res->HL (kx E 21 0) (nd f166 52) (wK 0 (λo=>qDE) (λv st=>RetQ Tryz.prog f166 (qBR v) (qBr v) .ret st) res) n (SY a1 a2 x3):=by
 intro n
 induction n with
 |zero=>
  intro x3 res hm;cases hm
 |succ n ih=>
  intro x3 res hm;refine qS (s_va 0 [(11,vb (decide (x3<(a1.length:Int))))] ?_);refine q_sq (q_cq hm (λhm=>?_) (λhm=>?_))
  ·refine q_sk (q_sq ?_);refine q_bk 1 ?_;obtain⟨g5,hm⟩:=qJ hm;refine s_vu [qi 1 g5] 0 [11] [(6,vi x3),(7,vp 0 0)] [] [(0,bx 74 (qP (a1.getD x3.toNat dd)))] (s_vu [] 1 [7] [(18,vb (qK3 ((a1.getD x3.toNat dd).Name) a2))] [0] [] ?_);refine q_cq hm (λhm=>?_) (λhm=>?_)
   ·refine s_vn [] 1 ⟨[(4,vi x3),(5,vb true)],[]⟩ ?_;obtain rfl:=oi hm;refine q_rt (zK (x3,true) ?_);exact q_rm
   ·refine q_sk (q_vv [] 1 [6,10,18] [(10,vi (w64 (x3+1)))] ?_);exact q_hl (SY a1 a2 (w64 (x3+1))) (ih (w64 (x3+1)) _ hm)
  ·refine q_ex 0 ?_;obtain rfl:=oi hm;exact q_l1 ()
theorem qNW (a1:List qF) (a2:ByteArray) (r:Int×Bool) (hm:FY a1 a2=some r):CtX Tryz.prog globs 166 0 0 [.one (tl qP dd a1),.one (cs a2)] [] (qBR r) (qBr r):=by
 unfold FY at hm;refine q_E f166 21 λE=>?_;refine s_vn [] 0 ⟨[(0,vc (tl qP dd a1)),(1,vc (cs a2))],[]⟩ (q_sq ?_);refine s_vv [] 0 [0] [(8,vc (tl qP dd a1)),(9,vi (a1.length:Int)),(10,vi 0)] ?_;obtain⟨u9,h8,hm⟩:=qC hm;refine zP (nd f166 52) 0 (by kernel_rfl) FUEL (λo=>qDE) (λv st=>RetQ Tryz.prog f166 (qBR v) (qBr v) .ret st) u9 (q_hl (SY a1 a2 0) (qKB E a1 a2 FUEL 0 u9 h8)) ?_ ?_
 ·rintro v10 rfl st hr;obtain rfl:=oi hm;exact hr
 ·rintro o7 rfl;replace hm:_=some r:=hm;refine s_vn [] 0 ⟨[(4,vi 0),(5,vb false)],[]⟩ ?_;obtain rfl:=oi hm;exact q_rt q_rm
open Go.Proofs Go.Proofs.Tryz
def qQn (r:Int):V:=vi r
def qQ3 (r:Int):List (Nat×(Nat×O)):=[]
theorem qF0 (a1:Int) (a2:Int) (r:Int) (hm:ML a1 a2=some r):CtX Tryz.prog globs 85 0 0 [.one (ci a1),.one (ci a2)] [] (qQn r) (qQ3 r):=by
 unfold ML at hm;refine q_E f85 11 λE=>?_;refine s_vn [] 0 ⟨[(0,vi a1),(1,vi a2)],[]⟩ (s_vn [qd 5 dN (show(1000:Int)≠0 by decide)] 0 ⟨[(4,vi (w64 (Int.tdiv (w64 ((w64 (a1*(w64 (1000+a2))))+999)) 1000)))],[]⟩ ?_);obtain rfl:=oi hm;exact q_rt q_rm
def qNF (r:Bool):V:=vb r
def qMV (r:Bool):List (Nat×(Nat×O)):=[]
def qJa (x3:Bool):St:=
 ⟨[(2,vb x3)],[]⟩
theorem ZC (a1:Int) (r:Bool) (hm:PE a1=some r):CtX Tryz.prog globs 84 0 0 [.one (ci a1)] [] (qNF r) (qMV r):=by
 unfold PE at hm;refine q_E f84 9 λE=>?_;refine s_vn [] 0 ⟨[(0,vi a1)],[]⟩ (q_jn (qJa) (λp=>UZ p=some r) ?_ ?_)
 ·rintro x3 hm;obtain rfl:=oi hm;exact q_rt q_rm
 ·rcases bif_c hm with⟨b2,hm⟩|⟨b2,hm⟩
  ·exact q_vn [qf 2 b2] 0 ⟨[(2,vb (decide (a1<=600)))],[]⟩ (q_J (decide (a1<=600)) hm)
  ·exact q_vn [qf 2 b2] 0 ⟨[(2,vb false)],[]⟩ (q_J (false) hm)
def qNZ (r:Int×Int):V:= .tup [.one (ci r.1),.one (ci r.2)]
def qPQ (r:Int×Int):List (Nat×(Nat×O)):=[]
def qKk (a1:qF) (x9:Bool):St:=
 ⟨[(1,vp 0 0),(23,vb x9)],[(0,bx 74 (qP a1))]⟩
theorem BD (a1:qF) (r:Int×Int) (hm:JD a1=some r):CtX Tryz.prog globs 43 0 0 [.agg (qP a1)] [] (qNZ r) (qPQ r):=by
 unfold JD at hm;refine q_E f43 34 λE=>?_;refine s_vn [] 0 ⟨[(1,vp 0 0)],[(0,bx 74 (qP a1))]⟩ (q_sq ?_);refine q_jn (qKk a1) (λp=>JU a1 p=some r) ?_ ?_
 ·rintro x9 hm;refine q_cq hm (λhm=>?_) (λhm=>?_)
  ·refine s_vn [] 1 ⟨[(2,vi 0),(3,vi 0)],[]⟩ ?_;obtain rfl:=oi hm;exact q_rt q_rm
  ·refine q_sk ?_;obtain⟨v11,h12,hm⟩:=qC hm;obtain⟨v13,h14,hm⟩:=qC hm;refine s_dn [qc 4 [25,27] 1 (qF0 a1.Thick a1.Allow v11 h12),qc 9 [30,32] 1 (qF0 a1.Width a1.Allow v13 h14)] [0,1,0,4,15,0,32,0,128,511,1023,2047] 1 ⟨[(2,vi v11),(3,vi v13)],[]⟩ ?_;obtain rfl:=oi hm;exact q_rt q_rm
 ·obtain⟨v2,h3,hm⟩:=qC hm;rcases bif_c hm with⟨b4,hm⟩|⟨b4,hm⟩
  ·exact q_vv [qc 2 [5] 1 (ZC a1.Thick v2 h3),qf 4 b4] 1 [] [(23,vb true)] (q_J (true) hm)
  ·obtain⟨v5,h6,hm⟩:=qC hm;rcases bif_c hm with⟨b7,hm⟩|⟨b7,hm⟩
   ·exact q_vv [qc 2 [5] 1 (ZC a1.Thick v2 h3),qf 4 b4,qk 7 [8,10] 1 ⟨[(8,vb false),(10,vi a1.Width)],[]⟩ (ZC a1.Width v5 h6),qf 10 b7] 1 [] [(23,vb true)] (q_J (true) hm)
   ·rcases bif_c hm with⟨b8,hm⟩|⟨b8,hm⟩
    ·exact q_vv [qc 2 [5] 1 (ZC a1.Thick v2 h3),qf 4 b4,qk 7 [8,10] 1 ⟨[(8,vb false),(10,vi a1.Width)],[]⟩ (ZC a1.Width v5 h6),qf 10 b7,qf 15 b8] 1 [] [(23,vb true)] (q_J (true) hm)
    ·exact q_vv [qc 2 [5] 1 (ZC a1.Thick v2 h3),qf 4 b4,qk 7 [8,10] 1 ⟨[(8,vb false),(10,vi a1.Width)],[]⟩ (ZC a1.Width v5 h6),qf 10 b7,qf 15 b8] 1 [] [(23,vb (decide (a1.Allow>200)))] (q_J (decide (a1.Allow>200)) hm)
open Go.Proofs Go.Proofs.Tryz
def ZK (r:Int):V:=vi r
def ZL (r:Int):List (Nat×(Nat×O)):=[]
def YY (a1:qF) (x18:Int):St:=
 ⟨[(1,vp 0 0),(70,vc (tl qD dd a1.Lengths)),(71,vi (a1.Lengths.length:Int)),(72,vi x18)],[(0,bx 74 (qP a1))]⟩
def qDX (a1:qF) (x18:Int) (x26:Bool):St:=
 (YY a1 x18).up [] [(94,vb x26)] [] []
def qD3 (a1:qF) (x18:Int) (x22:Bool):St:=
 (YY a1 x18).up [] [(5,vi x18),(6,vi (a1.Lengths.getD x18.toNat dd)),(82,vb x22)] [] []
def KN (a1:qF) (x18:Int):St:=
 (YY a1 x18).up [] [] [] []
def FK (a1:qF):St:=
 ⟨[(1,vp 0 0)],[(0,bx 74 (qP a1))]⟩
def qD8 (a1:qF) (x32:Int) (x36:Bool):St:=
 ⟨[(97,vc (tl qD dd a1.Prices)),(98,vi (a1.Prices.length:Int)),(99,vi x32),(108,vb x36)],[]⟩
def KL (a1:qF) (x32:Int):St:=
 ⟨[(97,vc (tl qD dd a1.Prices)),(98,vi (a1.Prices.length:Int)),(99,vi x32)],[]⟩
def FD :St:=
 ⟨[],[]⟩
def qD6 (a1:qF) (x10:Bool):St:=
 ⟨[(1,vp 0 0),(46,vb x10)],[(0,bx 74 (qP a1))]⟩
def qDZ (a1:qF) (x5:Bool):St:=
 ⟨[(1,vp 0 0),(28,vb x5)],[(0,bx 74 (qP a1))]⟩
theorem qDg (E:Env 0) (a1:qF):∀(n:Nat) (x18:Int) (res:Int⊕Unit),wG a1 n x18=some res->HL (kx E 110 0) (nd f167 4084) (wK 0 (λo=>FK a1) (λv st=>RetQ Tryz.prog f167 (ZK v) (ZL v) .ret st) res) n (KN a1 x18):=by
 intro n
 induction n with
 |zero=>
  intro x18 res hm;cases hm
 |succ n ih=>
  intro x18 res hm;refine qS (s_va 1 [(73,vb (decide (x18<(a1.Lengths.length:Int))))] ?_);refine q_sq (q_cq hm (λhm=>?_) (λhm=>?_))
  ·refine q_sk (q_sq ?_);refine q_bk 1 ?_;obtain⟨g20,hm⟩:=qJ hm;refine s_vv [qi 1 g20] 1 [73] [(5,vi x18),(6,vi (a1.Lengths.getD x18.toNat dd))] (q_sq ?_);refine q_jn (qD3 a1 x18) (λp=>JL a1 x18 (wG a1 n) p=some res) ?_ ?_
   ·rintro x22 hm;refine q_cq hm (λhm=>?_) (λhm=>?_)
    ·refine s_vn [] 1 ⟨[(2,vi 9)],[]⟩ ?_;obtain rfl:=oi hm;refine q_rt (zK 9 ?_);exact q_rm
    ·refine q_sk (q_jn (qDX a1 x18) (λp=>JN x18 (wG a1 n) p=some res) ?_ ?_)
     ·rintro x26 hm;refine q_cq hm (λhm=>?_) (λhm=>?_)
      ·refine s_vn [] 1 ⟨[(2,vi 11)],[]⟩ ?_;obtain rfl:=oi hm;refine q_rt (zK 11 ?_);exact q_rm
      ·refine q_sk (q_vv [] 1 [72,94] [(72,vi (w64 (x18+1)))] ?_);exact q_hl (KN a1 (w64 (x18+1))) (ih (w64 (x18+1)) _ hm)
     ·rcases bif_c hm with⟨b24,hm⟩|⟨b24,hm⟩
      ·obtain⟨g25,hm⟩:=qJ hm;exact q_vv [qf 2 b24,qi 8 g25] 1 [5,6,82] [(94,vb (decide ((a1.Lengths.getD x18.toNat dd)<=(a1.Lengths.getD (w64 (x18-1)).toNat dd))))] (q_J (decide ((a1.Lengths.getD x18.toNat dd)<=(a1.Lengths.getD (w64 (x18-1)).toNat dd))) hm)
      ·exact q_vv [qf 2 b24] 1 [5,6,82] [(94,vb false)] (q_J (false) hm)
   ·rcases bif_c hm with⟨b21,hm⟩|⟨b21,hm⟩
    ·exact q_vv [qf 2 b21] 1 [] [(82,vb true)] (q_J (true) hm)
    ·exact q_vv [qf 2 b21] 1 [] [(82,vb (decide ((a1.Lengths.getD x18.toNat dd)>20000)))] (q_J (decide ((a1.Lengths.getD x18.toNat dd)>20000)) hm)
  ·refine q_ex 0 ?_;obtain rfl:=oi hm;exact q_l1 ()
theorem qC6 (E:Env 0) (a1:qF):∀(n:Nat) (x32:Int) (res:Int⊕Unit),wU a1 n x32=some res->HL (kx E 110 0) (nd f167 8180) (wK 2 (λo=>FD) (λv st=>RetQ Tryz.prog f167 (ZK v) (ZL v) .ret st) res) n (KL a1 x32):=by
 intro n
 induction n with
 |zero=>
  intro x32 res hm;cases hm
 |succ n ih=>
  intro x32 res hm;refine qS (s_va 1 [(100,vb (decide (x32<(a1.Prices.length:Int))))] ?_);refine q_sq (q_cq hm (λhm=>?_) (λhm=>?_))
  ·refine q_sk (q_sq ?_);refine q_bk 3 ?_;obtain⟨g34,hm⟩:=qJ hm;refine s_vv [qi 0 g34] 1 [100] [(8,vi (a1.Prices.getD x32.toNat dd))] (q_jn (qD8 a1 x32) (λp=>JJ x32 (wU a1 n) p=some res) ?_ ?_)
   ·rintro x36 hm;refine q_cq hm (λhm=>?_) (λhm=>?_)
    ·refine s_vn [] 1 ⟨[(2,vi 9)],[]⟩ ?_;obtain rfl:=oi hm;refine q_rt (zK 9 ?_);exact q_rm
    ·refine q_sk (q_vv [] 1 [99,108] [(99,vi (w64 (x32+1)))] ?_);exact q_hl (KL a1 (w64 (x32+1))) (ih (w64 (x32+1)) _ hm)
   ·rcases bif_c hm with⟨b35,hm⟩|⟨b35,hm⟩
    ·exact q_vv [qf 2 b35] 1 [8] [(108,vb true)] (q_J (true) hm)
    ·exact q_vv [qf 2 b35] 1 [8] [(108,vb (decide ((a1.Prices.getD x32.toNat dd)>1000000)))] (q_J (decide ((a1.Prices.getD x32.toNat dd)>1000000)) hm)
  ·refine q_ex 2 ?_;obtain rfl:=oi hm;exact q_l1 ()
theorem qFj (a1:qF) (r:Int) (hm:WM a1=some r):CtX Tryz.prog globs 167 0 0 [.agg (qP a1)] [] (ZK r) (ZL r):=by
 unfold WM at hm;refine q_E f167 110 λE=>?_;refine s_vn [] 0 ⟨[(1,vp 0 0)],[(0,bx 74 (qP a1))]⟩ (q_sq ?_);refine q_jn (qDZ a1) (λp=>yA a1 p=some r) ?_ ?_
 ·rintro x5 hm;refine q_cq hm (λhm=>?_) (λhm=>?_)
  ·refine s_vn [] 1 ⟨[(2,vi 9)],[]⟩ ?_;obtain rfl:=oi hm;exact q_rt q_rm
  ·refine q_sk (q_sq ?_);refine q_jn (qD6 a1) (λp=>yB a1 p=some r) ?_ ?_
   ·rintro x10 hm;refine q_cq hm (λhm=>?_) (λhm=>?_)
    ·refine s_vn [] 1 ⟨[(2,vi 9)],[]⟩ ?_;obtain rfl:=oi hm;exact q_rt q_rm
    ·refine q_sk (q_sq ?_);obtain⟨v12,h13,hm⟩:=qC hm;refine s_vv [qc 1 [48] 1 (BD a1 v12 h13)] 1 [46] [(4,vi v12.2)] (s_vv [] 1 [4] [(53,vb (decide (v12.2>600)))] ?_);refine q_cq hm (λhm=>?_) (λhm=>?_)
     ·refine s_vn [] 1 ⟨[(2,vi 9)],[]⟩ ?_;obtain rfl:=oi hm;exact q_rt q_rm
     ·refine q_sk (q_sq ?_);refine s_vv [] 1 [53] [(57,vb ((a1.Lengths.length:Int)==0))] (q_cq hm (λhm=>?_) (λhm=>?_))
      ·refine s_vn [] 1 ⟨[(2,vi 3)],[]⟩ ?_;obtain rfl:=oi hm;exact q_rt q_rm
      ·refine q_sk (q_sq ?_);refine s_vv [] 1 [57] [(61,vb (decide ((a1.Lengths.length:Int)>8)))] (q_cq hm (λhm=>?_) (λhm=>?_))
       ·refine s_vn [] 1 ⟨[(2,vi 4)],[]⟩ ?_;obtain rfl:=oi hm;exact q_rt q_rm
       ·refine q_sk (q_sq ?_);refine s_vv [] 1 [61] [(68,vb ((a1.Prices.length:Int) !=(a1.Lengths.length:Int)))] (q_cq hm (λhm=>?_) (λhm=>?_))
        ·refine s_vn [] 1 ⟨[(2,vi 19)],[]⟩ ?_;obtain rfl:=oi hm;exact q_rt q_rm
        ·refine q_sk (q_sq ?_);refine s_vv [] 1 [68] [(70,vc (tl qD dd a1.Lengths)),(71,vi (a1.Lengths.length:Int)),(72,vi 0)] ?_;obtain⟨u30,h29,hm⟩:=qC hm;refine zP (nd f167 4084) 0 (by kernel_rfl) FUEL (λo=>FK a1) (λv st=>RetQ Tryz.prog f167 (ZK v) (ZL v) .ret st) u30 (q_hl (KN a1 0) (qDg E a1 FUEL 0 u30 h29)) ?_ ?_
         ·rintro v31 rfl st hr;obtain rfl:=oi hm;exact hr
         ·rintro o28 rfl;replace hm:_=some r:=hm;refine q_sq (s_vn [] 1 ⟨[(97,vc (tl qD dd a1.Prices)),(98,vi (a1.Prices.length:Int)),(99,vi 0)],[]⟩ ?_);obtain⟨u40,h39,hm⟩:=qC hm;refine zP (nd f167 8180) 2 (by kernel_rfl) FUEL (λo=>FD) (λv st=>RetQ Tryz.prog f167 (ZK v) (ZL v) .ret st) u40 (q_hl (KL a1 0) (qC6 E a1 FUEL 0 u40 h39)) ?_ ?_
          ·rintro v41 rfl st hr;obtain rfl:=oi hm;exact hr
          ·rintro o38 rfl;replace hm:_=some r:=hm;refine s_vn [] 1 ⟨[(2,vi 0)],[]⟩ ?_;obtain rfl:=oi hm;exact q_rt q_rm
   ·rcases bif_c hm with⟨b7,hm⟩|⟨b7,hm⟩
    ·exact q_vv [qf 3 b7] 1 [28] [(46,vb true)] (q_J (true) hm)
    ·rcases bif_c hm with⟨b8,hm⟩|⟨b8,hm⟩
     ·exact q_vv [qf 3 b7,qf 8 b8] 1 [28] [(46,vb true)] (q_J (true) hm)
     ·rcases bif_c hm with⟨b9,hm⟩|⟨b9,hm⟩
      ·exact q_vv [qf 3 b7,qf 8 b8,qf 13 b9] 1 [28] [(46,vb true)] (q_J (true) hm)
      ·exact q_vv [qf 3 b7,qf 8 b8,qf 13 b9] 1 [28] [(46,vb (decide (a1.Wane>1000)))] (q_J (decide (a1.Wane>1000)) hm)
 ·rcases bif_c hm with⟨b2,hm⟩|⟨b2,hm⟩
  ·exact q_vv [qf 3 b2] 1 [] [(28,vb true)] (q_J (true) hm)
  ·rcases bif_c hm with⟨b3,hm⟩|⟨b3,hm⟩
   ·exact q_vv [qf 3 b2,qf 8 b3] 1 [] [(28,vb true)] (q_J (true) hm)
   ·rcases bif_c hm with⟨b4,hm⟩|⟨b4,hm⟩
    ·exact q_vv [qf 3 b2,qf 8 b3,qf 15 b4] 1 [] [(28,vb true)] (q_J (true) hm)
    ·exact q_vv [qf 3 b2,qf 8 b3,qf 15 b4] 1 [] [(28,vb (decide (a1.Width>600)))] (q_J (decide (a1.Width>600)) hm)
def UO (r:Int):V:=vi r
def WQ (r:Int):List (Nat×(Nat×O)):=[]
theorem qFE (r:Int):ZA (WQ r):=by
 intro i k o h;unfold WQ at h;cases h
def MO (a1:List qF) (x3:Int):St:=
 ⟨[(0,vc (tl qP dd a1)),(11,vc (tl qP dd a1)),(12,vi (a1.length:Int)),(13,vi x3)],[]⟩
def qCV :St:=
 ⟨[],[]⟩
theorem qJk (E:Env 0) (a1:List qF):∀(n:Nat) (x3:Int) (res:Int⊕Unit),YD a1 n x3=some res->HL (kx E 38 0) (nd f107 116) (wK 0 (λo=>qCV) (λv st=>RetQ Tryz.prog f107 (UO v) (WQ v) .ret st) res) n (MO a1 x3):=by
 intro n
 induction n with
 |zero=>
  intro x3 res hm;cases hm
 |succ n ih=>
  intro x3 res hm;refine qS (s_va 0 [(14,vb (decide (x3<(a1.length:Int))))] ?_);refine q_sq (q_cq hm (λhm=>?_) (λhm=>?_))
  ·refine q_sk (q_sq ?_);refine q_bk 1 ?_;obtain⟨g5,hm⟩:=qJ hm;refine s_vu [qi 1 g5] 0 [14] [(3,vi x3),(4,vp 0 0)] [] [(0,bx 74 (qP (a1.getD x3.toNat dd)))] (q_sq ?_);obtain⟨v6,h7,hm⟩:=qC hm;refine s_vv [qc 2 [19] 1 (qOS ((a1.getD x3.toNat dd).Name) v6 h7)] 1 [] [(21,vb (!v6))] (q_cq hm (λhm=>?_) (λhm=>?_))
   ·refine s_vn [] 1 ⟨[(2,vi 6)],[]⟩ ?_;obtain rfl:=oi hm;refine q_rt (zK 6 ?_);exact q_rm
   ·refine q_sk (q_sq ?_);obtain⟨g9,hm⟩:=qJ hm;obtain⟨v10,h11,hm⟩:=qC hm;refine s_du [qd 2 (drw ((a1.take x3.toNat).length) 0 (rf qP (a1.take x3.toNat))) (slPhi qP dd a1 x3 (And.intro (zT g9).2.1 (zT g9).2.2)),qc 5 [25,27] 1 (qNW (a1.take x3.toNat) ((a1.getD x3.toNat dd).Name) v10 h11)] [0,0,3,0,8,31,63,127,127,255,1023] 1 [3,21] [(6,vb v10.2)] [] [] (s_vv [] 1 [6] [(31,vb v10.2)] ?_);refine q_cq hm (λhm=>?_) (λhm=>?_)
    ·refine s_vn [] 1 ⟨[(2,vi 7)],[]⟩ ?_;obtain rfl:=oi hm;refine q_rt (zK 7 ?_);exact q_rm
    ·refine q_sk ?_;obtain⟨v13,h14,hm⟩:=qC hm;refine s_vu [qc 1 [32] 1 (qFj (a1.getD x3.toNat dd) v13 h14)] 1 [4,31] [(7,vi v13)] [0] [] (s_va 1 [(35,vb (v13 !=0))] ?_);refine q_cq hm (λhm=>?_) (λhm=>?_)
     ·refine s_vn [] 1 ⟨[(2,vi v13)],[]⟩ ?_;obtain rfl:=oi hm;refine q_rt (zK v13 ?_);exact q_rm
     ·refine q_sk (q_vv [] 1 [7,13,35] [(13,vi (w64 (x3+1)))] ?_);exact q_hl (MO a1 (w64 (x3+1))) (ih (w64 (x3+1)) _ hm)
  ·refine q_ex 0 ?_;obtain rfl:=oi hm;exact q_l1 ()
theorem YG (a1:List qF) (r:Int) (hm:ZP a1=some r):CtX Tryz.prog globs 107 0 0 [.one (tl qP dd a1)] [] (UO r) (WQ r):=by
 unfold ZP at hm;refine q_E f107 38 λE=>?_;refine s_vn [] 0 ⟨[(0,vc (tl qP dd a1))],[]⟩ (q_sq ?_);refine s_va 0 [(10,vb (decide ((a1.length:Int)>16)))] (q_cq hm (λhm=>?_) (λhm=>?_))
 ·refine s_vn [] 0 ⟨[(2,vi 4)],[]⟩ ?_;obtain rfl:=oi hm;exact q_rt q_rm
 ·refine q_sk (q_sq ?_);refine s_vv [] 0 [10] [(11,vc (tl qP dd a1)),(12,vi (a1.length:Int)),(13,vi 0)] ?_;obtain⟨u18,h17,hm⟩:=qC hm;refine zP (nd f107 116) 0 (by kernel_rfl) FUEL (λo=>qCV) (λv st=>RetQ Tryz.prog f107 (UO v) (WQ v) .ret st) u18 (q_hl (MO a1 0) (qJk E a1 FUEL 0 u18 h17)) ?_ ?_
  ·rintro v19 rfl st hr;obtain rfl:=oi hm;exact hr
  ·rintro o16 rfl;replace hm:_=some r:=hm;refine s_vn [] 0 ⟨[(2,vi 0)],[]⟩ ?_;obtain rfl:=oi hm;exact q_rt q_rm
end Saw
end Go.SL

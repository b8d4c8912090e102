import Derived.Test.YtigmogcdifllhaaGreatDoorEBase
import Derived.Test.YtigmogcdifllhaaGreatDoorTPm
import Derived.WalkKit
import Derived.Lib.Builder
import Derived.Test.YtigmogcdifllhaaGreatDoorEFa4
import Derived.Test.YtigmogcdifllhaaGreatDoorEFa3
set_option linter.unusedVariables false
set_option linter.unusedSimpArgs false
namespace Go.SL
namespace Saw
open Go.Proofs Go.Proofs.Tryz
set_option maxHeartbeats 4000000
def qCn (r:(List qO)×(List qF)×Int):V:= .tup [.one (tl qM dd r.1),.one (tl qI dd r.2.1),.one (ci r.2.2)]
def qCy (r:(List qO)×(List qF)×Int):List (Nat×(Nat×O)):=[]
open Go.RowKit
theorem res3 (tmps:Array Value) (w:World) (b8 b9 b10:Nat) (x8 x9 x10:Value) (j8:tmps.getD 8 undef= .pointer (some ⟨b8,0,none⟩)) (j9:tmps.getD 9 undef= .pointer (some ⟨b9,0,none⟩)) (j10:tmps.getD 10 undef= .pointer (some ⟨b10,0,none⟩))
  (h8:w.cell? ⟨b8,0,none⟩=some x8) (h9:w.cell? ⟨b9,0,none⟩=some x9) (h10:w.cell? ⟨b10,0,none⟩=some x10):(results f10 tmps).run Tryz.prog w= .ok (.tuple #[x8,x9,x10]) w:=by
 have hres:f10.results= #[.cell 8 30,.cell 9 23,.cell 10 31]:=by kernel_rfl
 have a30:=Tryz.isAgg30;have a23:=Tryz.isAgg23;have a31:=Tryz.isAgg31;rw[ks] at j8 j9 j10;unfold results;rw[hres];simp[j8,j9,j10,h8,h9,h10,go_sem,a30,a23,a31]
theorem qSw {w:World} {b:Nat} {cs:Array Value} {e:TypeId} (h:w.heap[b]? =some (.cells cs e (0,0))):w.frozen? ⟨b,0,none⟩=false:=Go.Lib.frozen_of_heap h 0
theorem HO {w:World} {b:Nat} {v:Value} {e:TypeId} {z:Nat×Nat} (h:w.heap[b]? =some (.cells #[v] e z)):w.cell? ⟨b,0,none⟩=some v:=by rw[Go.Lib.cell_of_heap h];rfl
theorem qSq {w:World} {b:Nat} {x:Value} {T:TypeId} {fr:Nat×Nat} {v:Value} (hb:w.heap[b]? =some (.cells #[x] T fr)):(w.setCell ⟨b,0,none⟩ v).heap[b]? =some (.cells #[v] T fr):=by
 simp[World.setCell,uV,hb]
theorem qDA {w:World} {b c o:Nat} {v:Value} (h:c≠b):(w.setCell ⟨b,o,none⟩ v).heap[c]? =w.heap[c]? :=by
 simp[World.setCell,uV,Ne.symm h]
theorem tup3 {w:World} {M:Mem} {x y z:C} {a b c:Value} (h1:CRep w M x a) (h2:CRep w M y b) (h3:CRep w M z c):VRep w M (.tup [.one x,.one y,.one z]) (.tuple #[a,b,c]):=by
 refine⟨_,rfl,rfl,λj hj=>?_⟩
 match j,hj with
 |0,_=>exact h1
 |1,_=>exact h2
 |2,_=>exact h3
theorem RW (a1:Scan) (a2 a3 a4:Int) (r:(List qO)×(List qF)×Int) (hm:wV a1 a2 a3 a4=some r):CtX Tryz.prog globs 10 0 0 [.agg (zZ a1),.one (ci a2),.one (ci a3),.one (ci a4)] [] (qCn r) (qCy r):=by
 unfold wV at hm;obtain⟨v5,h6,hm⟩:=qB hm;obtain⟨v7,h8,hm⟩:=qB hm;obtain⟨v9,h10,hm⟩:=qB hm;refine qU0 (by kernel_rfl) λw A vs hg ha=>?_;refine qWu a1 a2 a3 a4 v5 v7 v9 h6 h8 h10 w A vs hg ha _ ?_;intro M w4 b8 b9 b10 b12 x8 x9 hb hA ⟨g8,g9,g10⟩ ⟨n1,n2,n3,n4,n5,n6⟩ ⟨o8,o9,o10⟩ m8 m9 m10 m12 r8 r9 tmps j8 j9 j10
 have entry:(invoke (.fn (.func 24) #[.pointer (some ⟨b12,0,none⟩),.pointer (some ⟨b10,0,none⟩),.pointer (some ⟨b8,0,none⟩),.pointer (some ⟨b9,0,none⟩)]) #[]).run Tryz.prog w4= .ok (.enter 24 #[.pointer (some ⟨b12,0,none⟩),.pointer (some ⟨b10,0,none⟩),.pointer (some ⟨b8,0,none⟩),.pointer (some ⟨b9,0,none⟩)]) w4:=
  enters_of Tryz.func24 (by kernel_rfl) rfl _ w4
 refine leaves_cons (f:=24) (by simp) entry ?_;by_cases he:v7.2=0
 ·refine(qXp b12 b10 b8 b9 v7.2 0 .returning w4 (HO m12) (HO m10) (qSw m10) n1 he).mono ?_;rintro e u' w' ⟨rfl,rfl,rfl⟩;have s8:(w4.setCell ⟨b10,0,none⟩ (.int .i64 0)).heap[b8]? =some (.cells #[x8] 30 (0,0)):=by rw[qDA (Ne.symm n4)];exact m8
  have s9:(w4.setCell ⟨b10,0,none⟩ (.int .i64 0)).heap[b9]? =some (.cells #[x9] 23 (0,0)):=by rw[qDA (Ne.symm n5)];exact m9
  have s10:(w4.setCell ⟨b10,0,none⟩ (.int .i64 0)).heap[b10]? =some (.cells #[.int .i64 0] 31 (0,0)):=qSq m10;refine⟨_,res3 tmps _ b8 b9 b10 x8 x9 (.int .i64 0) j8 j9 j10 (HO s8) (HO s9) (HO s10),_,rfl,hb.setCell (p:=⟨b10,0,none⟩) g10 _,?_⟩;have e0:(v7.2 !=0)=false:=by simp[he]
  rw[e0,ku] at hm;obtain rfl:=oi hm;have mv:∀{c:C} {u:Value},IRep w4 M.imm c u->IRep (w4.setCell ⟨b10,0,none⟩ (.int .i64 0)) (Mem.of λb=>A b\/w.heap.size<=b).imm c u:=λh=>h.move (λb hi _=>qDA (λe=>hi.2 (e▸o10))) λb hi _=>⟨(hA b).1 hi.1,fun⟨i,k,hv,_⟩=>(by cases hv)⟩
  exact tup3 (mv r8) (mv r9) (show IRep _ _ (ci v7.2) _ by rw[he];exact .val _ rfl)
 ·refine(qYv b12 b10 b8 b9 v7.2 0 x8 x9 .returning w4 (HO m12) (HO m10) (HO m8) (HO m9) (qSw m10) (qSw m8) (qSw m9) n1 n2 n3 n4 n5 n6 he).mono ?_;rintro e u' w' ⟨rfl,rfl,rfl⟩;have s8:(((w4.setCell ⟨b10,0,none⟩ (.int .i64 v7.2)).setCell ⟨b8,0,none⟩ (.slice none 0 0)).setCell ⟨b9,0,none⟩ (.slice none 0 0)).heap[b8]? =some (.cells #[.slice none 0 0] 30 (0,0)):=by
   rw[qDA n6];exact qSq (by rw[qDA (Ne.symm n4)];exact m8)
  have s9:(((w4.setCell ⟨b10,0,none⟩ (.int .i64 v7.2)).setCell ⟨b8,0,none⟩ (.slice none 0 0)).setCell ⟨b9,0,none⟩ (.slice none 0 0)).heap[b9]? =some (.cells #[.slice none 0 0] 23 (0,0)):=
   qSq (by rw[qDA (Ne.symm n6),qDA (Ne.symm n5)];exact m9)
  have s10:(((w4.setCell ⟨b10,0,none⟩ (.int .i64 v7.2)).setCell ⟨b8,0,none⟩ (.slice none 0 0)).setCell ⟨b9,0,none⟩ (.slice none 0 0)).heap[b10]? =some (.cells #[.int .i64 v7.2] 31 (0,0)):=by
   rw[qDA n5,qDA n4];exact qSq m10
  refine⟨_,res3 tmps _ b8 b9 b10 _ _ _ j8 j9 j10 (HO s8) (HO s9) (HO s10),_,rfl,((hb.setCell (p:=⟨b10,0,none⟩) g10 _).setCell (p:=⟨b8,0,none⟩) g8 _).setCell (p:=⟨b9,0,none⟩) g9 _,?_⟩;have e0:(v7.2 !=0)=true:=by simpa using he
  rw[e0,kq] at hm;obtain rfl:=oi hm;exact tup3 (IRep.lst0 _ _) (IRep.lst0 _ _) (show IRep _ _ (ci v7.2) _ from .val _ rfl)
open Go.Proofs Go.Proofs.Tryz
set_option maxRecDepth 100000
def qM8 (r:Rect):V:=va (qT r)
def qMj (r:Rect):List (Nat×(Nat×O)):=[]
def EZ (v2:qG) (x6:Int):St:=
 ⟨[(1,vp 0 0),(2,vp 1 0),(3,vp 2 0),(18,vc (tl qH dd v2.Rows)),(19,vi (v2.Rows.length:Int)),(20,vi x6)],[(0,bx 78 (qY v2)),(1,bx 55 [ci 0,ci 0,ci 0,ci 0])]⟩
def qIR (v2:qG) (x6:Int) (x13:Span):St:=
 (EZ v2 x6).up [] [] [] [(2,bx 53 (qH x13))]
def GK (v2:qG) (x6:Int) (x7:Span):St:=
 (EZ v2 x6).up [] [] [] [(2,bx 53 (qH x7))]
def CT (v2:qG) (x14:Span):St:=
 ⟨[(1,vp 0 0),(2,vp 1 0),(3,vp 2 0)],[(0,bx 78 (qY v2)),(1,bx 55 [ci 0,ci 0,ci 0,ci 0]),(2,bx 53 (qH x14))]⟩
theorem qHY (E:Env 0) (v2:qG):∀(n:Nat) (x6:Int) (x7:Span) (res:Span),YE v2 n x6 x7=some res->HL (kx E 50 0) (nd f123 500) (zM 0 (λo=>CT v2 o) res) n (GK v2 x6 x7):=by
 intro n
 induction n with
 |zero=>
  intro x6 x7 res hm;cases hm
 |succ n ih=>
  intro x6 x7 res hm;refine qS (s_va 3 [(21,vb (decide (x6<(v2.Rows.length:Int))))] ?_);refine q_sq (q_cq hm (λhm=>?_) (λhm=>?_))
  ·refine q_sk (q_jn (qIR v2 x6) (λp=>LL x6 (YE v2 n) p=some res) ?_ ?_)
   ·rintro x13 hm;exact q_vv [] 4 [20] [(20,vi (w64 (x6+1)))] (q_hl (GK v2 (w64 (x6+1)) x13) (ih (w64 (x6+1)) x13 _ hm))
   ·refine q_bk 1 ?_;obtain⟨g9,hm⟩:=qJ hm;refine s_vu [qi 0 g9] 3 [21] [(5,vp 3 0)] [] [(3,bx 53 (qH (v2.Rows.getD x6.toNat dd)))] ?_;obtain⟨v10,h11,hm⟩:=qB hm;refine s_vv [qc 1 [24] 4 (jE (v2.Rows.getD x6.toNat dd) v10 h11)] 4 [] [(26,vb (!v10))] (q_cq hm (λhm=>?_) (λhm=>?_))
    ·exact q_vu [] 4 [5,26] [] [2,3] [(2,bx 53 [ci (imin x7.A ((v2.Rows.getD x6.toNat dd).A)),ci (imax x7.B ((v2.Rows.getD x6.toNat dd).B))])] (q_J ((Span.mk (imin x7.A ((v2.Rows.getD x6.toNat dd).A)) (imax x7.B ((v2.Rows.getD x6.toNat dd).B)))) hm)
    ·exact q_sk (q_J (x7) hm)
  ·refine q_ex 0 ?_;obtain rfl:=oi hm;exact q_l0
theorem qLl (a1:qG) (r:Rect) (hm:qAH a1=some r):CtX Tryz.prog globs 123 0 0 [.agg (qY a1)] [] (qM8 r) (qMj r):=by
 unfold qAH at hm;refine q_E f123 50 λE=>?_;refine s_vn [] 0 ⟨[(1,vp 0 0),(2,vp 1 0)],[(0,bx 78 (qY a1)),(1,bx 55 [ci 0,ci 0,ci 0,ci 0])]⟩ ?_;obtain⟨v2,h3,hm⟩:=qB hm;refine s_vu [qc 1 [6] 2 (XN a1 v2 h3)] 2 [] [] [0] [(0,bx 78 (qY v2))] (q_sq ?_);refine s_va 2 [(11,vb ((v2.Rows.length:Int)==0))] (q_cq hm (λhm=>?_) (λhm=>?_))
 ·refine s_vu [] 2 [1,11] [] [0] [] ?_;obtain rfl:=oi hm;exact q_rt q_rm
 ·refine q_sk ?_;obtain⟨g5,hm⟩:=qJ hm;refine s_vu [qi 2 g5] 2 [11] [(3,vp 2 0)] [] [(2,bx 53 (qH (v2.Rows.getD (0:Int).toNat dd)))] (q_sq ?_);refine s_va 3 [(18,vc (tl qH dd v2.Rows)),(19,vi (v2.Rows.length:Int)),(20,vi 0)] ?_;obtain⟨o15,h16,hm⟩:=qB hm;refine zG (nd f123 500) 0 (by kernel_rfl) FUEL (λo=>CT v2 o) o15 (q_hl (GK v2 0 (v2.Rows.getD (0:Int).toNat dd)) (qHY E v2 FUEL 0 (v2.Rows.getD (0:Int).toNat dd) o15 h16)) ?_;obtain⟨v17,h18,hm⟩:=qB hm
  refine s_dn [qc 9 [41,47] 3 (DO v2.Low (w64 (v2.Low+(v2.Rows.length:Int))) v17 h18)] [0,0,2,0,8,0,32,96,248,510,1023,2047] 3 ⟨[(2,vp 1 0)],[(1,bx 55 [ci o15.A,ci o15.B,ci v17.A,ci v17.B])]⟩ ?_;obtain rfl:=oi hm;exact q_rt q_rm
def qCK (r:Int):V:=vi r
def qCu (r:Int):List (Nat×(Nat×O)):=[]
def qMu (a1:List qO) (x4:Int) (x5:Int) (x13:Bool):St:=
 ⟨[(3,vi x4),(5,vp 0 0),(13,vc (tl qM dd a1)),(14,vi (a1.length:Int)),(15,vi x5),(39,vb x13)],[(0,bx 80 (qM (a1.getD x5.toNat dd)))]⟩
def SB (a1:List qO) (x4:Int) (x5:Int):St:=
 ⟨[(3,vi x4),(13,vc (tl qM dd a1)),(14,vi (a1.length:Int)),(15,vi x5)],[]⟩
def qEK :St:=
 ⟨[],[]⟩
theorem qKR (E:Env 0) (a1:List qO):∀(n:Nat) (x4:Int) (x5:Int) (res:Int⊕Unit),RO a1 n x4 x5=some res->HL (kx E 45 0) (nd f106 500) (wD 0 (λo=>qEK) (λv st=>RetQ Tryz.prog f106 (qCK v) (qCu v) .ret st) res) n (SB a1 x4 x5):=by
 intro n
 induction n with
 |zero=>
  intro x4 x5 res hm;cases hm
 |succ n ih=>
  intro x4 x5 res hm;refine qS (s_va 0 [(16,vb (decide (x5<(a1.length:Int))))] ?_);refine q_sq (q_cq hm (λhm=>?_) (λhm=>?_))
  ·refine q_sk (q_sq ?_);refine q_bk 1 ?_;obtain⟨g7,hm⟩:=qJ hm;refine s_vu [qi 0 g7] 0 [16] [(5,vp 0 0)] [] [(0,bx 80 (qM (a1.getD x5.toNat dd)))] (q_sq ?_);obtain⟨v8,h9,hm⟩:=qB hm;refine s_vv [qc 2 [20] 1 (qDL ((a1.getD x5.toNat dd).Sec) v8 h9)] 1 [] [(6,vi v8)] (s_va 1 [(23,vb (v8 !=0))] ?_);refine q_cq hm (λhm=>?_) (λhm=>?_)
   ·refine s_vn [] 1 ⟨[(2,vi v8)],[]⟩ ?_;obtain rfl:=oi hm;refine q_rt (zJ v8 ?_);exact q_rm
   ·refine q_sk (q_sq ?_);refine s_vv [] 1 [6,23] [(29,vb ((((((a1.getD x5.toNat dd).Sec).Rows).length:Nat):Int)==0))] (q_cq hm (λhm=>?_) (λhm=>?_))
    ·refine s_vn [] 1 ⟨[(2,vi 18)],[]⟩ ?_;obtain rfl:=oi hm;refine q_rt (zJ 18 ?_);exact q_rm
    ·refine q_sk (q_sq ?_);refine q_jn (qMu a1 x4 x5) (λp=>qAt a1 x4 x5 (RO a1 n) p=some res) ?_ ?_
     ·rintro x13 hm;refine q_cq hm (λhm=>?_) (λhm=>?_)
      ·refine s_vn [] 1 ⟨[(2,vi 9)],[]⟩ ?_;obtain rfl:=oi hm;refine q_rt (zJ 9 ?_);exact q_rm
      ·refine q_sk (q_vu [] 1 [3,5,39] [(3,vi (w64 (x4+((a1.getD x5.toNat dd).Len))))] [0] [] ?_);exact q_vv [] 1 [15] [(15,vi (w64 (x5+1)))] (q_hl (SB a1 (w64 (x4+((a1.getD x5.toNat dd).Len))) (w64 (x5+1))) (ih (w64 (x4+((a1.getD x5.toNat dd).Len))) (w64 (x5+1)) _ hm))
     ·rcases bif_c hm with⟨b12,hm⟩|⟨b12,hm⟩
      ·exact q_vv [qf 3 b12] 1 [29] [(39,vb true)] (q_J (true) hm)
      ·exact q_vv [qf 3 b12] 1 [29] [(39,vb (decide (((a1.getD x5.toNat dd).Len)>(w64 (20000-x4)))))] (q_J (decide (((a1.getD x5.toNat dd).Len)>(w64 (20000-x4)))) hm)
  ·refine q_ex 0 ?_;obtain rfl:=oi hm;exact q_l1 ()
theorem WL (a1:List qO) (r:Int) (hm:VZ a1=some r):CtX Tryz.prog globs 106 0 0 [.one (tl qM dd a1)] [] (qCK r) (qCu r):=by
 unfold VZ at hm;refine q_E f106 45 λE=>?_;refine s_vn [] 0 ⟨[(0,vc (tl qM dd a1))],[]⟩ (q_sq ?_);refine s_va 0 [(9,vb ((a1.length:Int)==0))] (q_cq hm (λhm=>?_) (λhm=>?_))
 ·refine s_vn [] 0 ⟨[(2,vi 3)],[]⟩ ?_;obtain rfl:=oi hm;exact q_rt q_rm
 ·refine q_sk (q_sq ?_);refine s_vv [] 0 [9] [(12,vb (decide ((a1.length:Int)>24)))] (q_cq hm (λhm=>?_) (λhm=>?_))
  ·refine s_vn [] 0 ⟨[(2,vi 4)],[]⟩ ?_;obtain rfl:=oi hm;exact q_rt q_rm
  ·refine q_sk (s_vv [] 0 [12] [(3,vi 0)] ?_);refine q_sq (s_vv [] 0 [0] [(13,vc (tl qM dd a1)),(14,vi (a1.length:Int)),(15,vi 0)] ?_);obtain⟨u17,h16,hm⟩:=qB hm;refine zO (nd f106 500) 0 (by kernel_rfl) FUEL (λo=>qEK) (λv st=>RetQ Tryz.prog f106 (qCK v) (qCu v) .ret st) u17 (q_hl (SB a1 0 0) (qKR E a1 FUEL 0 0 u17 h16)) ?_ ?_
   ·rintro v18 rfl st hr;obtain rfl:=oi hm;exact hr
   ·rintro o15 rfl;replace hm:_=some r:=hm;refine s_vn [] 0 ⟨[(2,vi 0)],[]⟩ ?_;obtain rfl:=oi hm;exact q_rt q_rm
open Go.Proofs Go.Proofs.Tryz
def qRU (r:(List qO)):V:=vc (tl qM dd r)
def qR4 (r:(List qO)):List (Nat×(Nat×O)):=[]
theorem NL (a1:List qO) (r:(List qO)) (hm:GF a1=some r):CtX Tryz.prog globs 119 0 0 [.one (tl qM dd a1)] [] (qRU r) (qR4 r):=by
 unfold GF at hm;refine q_E f119 7 λE=>?_;refine s_vn [] 0 ⟨[(0,vc (tl qM dd a1))],[]⟩ (q_sq ?_);obtain⟨v2,h3,hm⟩:=qB hm;refine s_vv [qc 1 [3] 0 (WL a1 v2 h3)] 0 [] [(5,vb (v2 !=0))] (q_cq hm (λhm=>?_) (λhm=>?_))
 ·refine s_vn [] 0 ⟨[(2,vc (.emp))],[]⟩ (q_fn [.own 2 0 80 3 (rf qM [])] ⟨[(2,vo 0 0 3 0)],[(0,ro 0 80 3 0 (rf qM []))]⟩ o0 ?_);refine q_fn [.len 0 (([]:List qO).length),.frz 0] ⟨[(2,vc (tl qM dd ([]:List qO)))],[]⟩ (o1 (And.intro (And.intro (show 0=([]:List qO).length from rfl) (show 0=([]:List qO).length from rfl)) (ke (([]:List qO).length)))) ?_;obtain rfl:=oi hm;exact q_rt q_rm
 ·refine q_sk (s_vn [] 0 ⟨[(2,vc (tl qM dd a1))],[]⟩ ?_);obtain rfl:=oi hm;exact q_rt q_rm
def qQu (r:Rect):V:=va (qT r)
def qQl (r:Rect):List (Nat×(Nat×O)):=[]
def qLb (v2:(List qO)) (x4:Int) (v8:Rect) (x11:Rect):St:=
 ⟨[(2,vp 0 0),(3,vp 1 0),(6,vp 3 0),(8,vc (tl qM dd v2)),(9,vi (v2.length:Int)),(10,vi x4)],[(0,bx 55 [ci 0,ci 0,ci 0,ci 0]),(1,bx 55 (qT x11)),(3,bx 55 (qT v8))]⟩
def LM (v2:(List qO)) (x4:Int) (x5:Rect):St:=
 ⟨[(2,vp 0 0),(3,vp 1 0),(8,vc (tl qM dd v2)),(9,vi (v2.length:Int)),(10,vi x4)],[(0,bx 55 [ci 0,ci 0,ci 0,ci 0]),(1,bx 55 (qT x5))]⟩
def qC9 (x12:Rect):St:=
 ⟨[(2,vp 0 0),(3,vp 1 0)],[(0,bx 55 [ci 0,ci 0,ci 0,ci 0]),(1,bx 55 (qT x12))]⟩
theorem qKd (E:Env 0) (v2:(List qO)):∀(n:Nat) (x4:Int) (x5:Rect) (res:Rect),PN v2 n x4 x5=some res->HL (kx E 55 0) (nd f61 116) (zM 0 qC9 res) n (LM v2 x4 x5):=by
 intro n
 induction n with
 |zero=>
  intro x4 x5 res hm;cases hm
 |succ n ih=>
  intro x4 x5 res hm;refine qS (s_va 2 [(11,vb (decide (x4<(v2.length:Int))))] ?_);refine q_sq (q_cq hm (λhm=>?_) (λhm=>?_))
  ·refine q_sk (q_sq ?_);refine q_bk 1 ?_;obtain⟨g7,hm⟩:=qJ hm;refine s_vu [qi 1 g7] 2 [11] [(4,vi x4),(5,vp 2 0)] [] [(2,bx 80 (qM (v2.getD x4.toNat dd)))] ?_;obtain⟨v8,h9,hm⟩:=qB hm;refine s_vu [qc 2 [16] 3 (qLl ((v2.getD x4.toNat dd).Sec) v8 h9)] 3 [5] [(6,vp 3 0)] [2] [(3,bx 55 (qT v8))] (q_jn (qLb v2 x4 v8) (λp=>AN x4 (PN v2 n) v8 p=some res) ?_ ?_)
   ·rintro x11 hm;refine s_vu [] 4 [] [] [1] [(1,bx 55 [ci (imin x11.X.A v8.X.A),ci (imax x11.X.B v8.X.B),ci x11.Y.A,ci x11.Y.B])] (q_vu [] 4 [6] [] [1,3] [(1,bx 55 [ci (imin x11.X.A v8.X.A),ci (imax x11.X.B v8.X.B),ci (imin x11.Y.A v8.Y.A),ci (imax x11.Y.B v8.Y.B)])] ?_)
    exact q_vv [] 4 [10] [(10,vi (w64 (x4+1)))] (q_hl (LM v2 (w64 (x4+1)) (Rect.mk (Span.mk (imin x11.X.A v8.X.A) (imax x11.X.B v8.X.B)) (Span.mk (imin x11.Y.A v8.Y.A) (imax x11.Y.B v8.Y.B)))) (ih (w64 (x4+1)) (Rect.mk (Span.mk (imin x11.X.A v8.X.A) (imax x11.X.B v8.X.B)) (Span.mk (imin x11.Y.A v8.Y.A) (imax x11.Y.B v8.Y.B))) _ hm))
   ·refine s_vv [] 4 [4] [(19,vb (x4==0))] (q_cq hm (λhm=>?_) (λhm=>?_))
    ·exact q_vu [] 4 [19] [] [1] [(1,bx 55 (qT v8))] (q_J (v8) hm)
    ·exact q_sk (q_J (x5) hm)
  ·refine q_ex 0 ?_;obtain rfl:=oi hm;exact q_l0
theorem qOX (a1:List qO) (r:Rect) (hm:qDK a1=some r):CtX Tryz.prog globs 61 0 0 [.one (tl qM dd a1)] [] (qQu r) (qQl r):=by
 unfold qDK at hm;refine q_E f61 55 λE=>?_;refine s_vn [] 0 ⟨[(0,vc (tl qM dd a1)),(2,vp 0 0)],[(0,bx 55 [ci 0,ci 0,ci 0,ci 0])]⟩ (s_vu [] 1 [] [(3,vp 1 0)] [] [(1,bx 55 [ci 0,ci 0,ci 0,ci 0])] ?_);refine q_sq ?_;obtain⟨v2,h3,hm⟩:=qB hm;refine s_vv [qc 1 [7] 2 (NL a1 v2 h3)] 2 [0] [(8,vc (tl qM dd v2)),(9,vi (v2.length:Int)),(10,vi 0)] ?_;obtain⟨o13,h14,hm⟩:=qB hm;refine zG (nd f61 116) 0 (by kernel_rfl) FUEL qC9 o13 (q_hl (LM v2 0 (Rect.mk (Span.mk 0 0) (Span.mk 0 0))) (qKd E v2 FUEL 0 (Rect.mk (Span.mk 0 0) (Span.mk 0 0)) o13 h14)) (s_vu [] 2 [3] [] [0,1] [(0,bx 55 (qT o13))] ?_)
 obtain rfl:=oi hm;exact q_rt q_rm
def qS1 (r:Rect):V:=va (qT r)
def qUe (r:Rect):List (Nat×(Nat×O)):=[]
theorem qSi (a1:List qO) (r:Rect) (hm:NS a1=some r):CtX Tryz.prog globs 31 0 0 [.one (tl qM dd a1)] [] (qS1 r) (qUe r):=by
 unfold NS at hm;refine q_E f31 5 λE=>?_;refine s_vn [] 0 ⟨[(0,vc (tl qM dd a1)),(2,vp 0 0)],[(0,bx 55 [ci 0,ci 0,ci 0,ci 0])]⟩ ?_;obtain⟨v2,h3,hm⟩:=qB hm;refine s_vu [qc 1 [3] 1 (qOX a1 v2 h3)] 1 [0] [] [0] [(0,bx 55 (qT v2))] ?_;obtain rfl:=oi hm;exact q_rt q_rm
open Go.Proofs Go.Proofs.Tryz
def qSA (r:Rect):V:=va (qT r)
def qTF (r:Rect):List (Nat×(Nat×O)):=[]
theorem qCR (a1:Rect) (a2:Int) (a3:Int) (r:Rect) (hm:NO a1 a2 a3=some r):CtX Tryz.prog globs 56 0 0 [.agg (qT a1),.one (ci a2),.one (ci a3)] [] (qSA r) (qTF r):=by
 unfold NO at hm;refine q_E f56 21 λE=>?_;refine s_vn [] 0 ⟨[(1,vi a2),(2,vi a3),(3,vp 0 0),(6,vp 1 0)],[(0,bx 55 (qT a1)),(1,bx 55 [ci 0,ci 0,ci 0,ci 0])]⟩ (s_vn [] 2 ⟨[(6,vp 1 0)],[(1,bx 55 [ci a1.X.A,ci a1.X.B,ci (w64 (a1.Y.A+a2)),ci (w64 (a1.Y.A+a3))])]⟩ ?_);obtain rfl:=oi hm;exact q_rt q_rm
def qC0 (a1:List Node) (a2:List (List Node)) (r:(List (List Node))×(List (List Node))):V:=vo 0 0 1 r.2.length
def qDh (a1:List Node) (a2:List (List Node)) (r:(List (List Node))×(List (List Node))):List (Nat×(Nat×O)):=[(0,ro 0 56 1 r.2.length (rf (qU qL) r.2))]
theorem qKk (a1:List Node) (a2:List (List Node)) (r:(List (List Node))×(List (List Node))) (hm:AK a1 a2=some r):CtX Tryz.prog globs 57 1 0 [.one (.own 0 0 1 a2.length),.one (tl qL dd a1)] [(0,ro 0 56 1 a2.length (rf (qU qL) a2))] (qC0 a1 a2 r) (qDh a1 a2 r):=by
 unfold AK at hm;refine q_E f57 9 λE=>?_;refine s_vn [] 1 ⟨[(0,vo 0 0 1 a2.length),(1,vc (tl qL dd a1))],[(0,ro 0 56 1 a2.length (rf (qU qL) a2))]⟩ ?_;obtain⟨g3,hm⟩:=qJ hm
 refine s_vn [qd 2 (drw 1 0 (rf (qU qL) [a1])) (litP (qU qL) dd 1 (λ_=>rfl) ([a1]:List (List Node)) 1 rfl),qd 3 (drw 0 1 (rf (qU qL) (a2++[a1]))) (apP (qU qL) dd a2 ([a1]:List (List Node)) a2.length 1 1 24 (1<=1) (ke _) rfl rfl (λ_=>rfl) (zW g3))] 1 ⟨[(4,vo 0 1 1 (a2.length+1))],[(0,ro 1 56 1 (a2.length+1) (rf (qU qL) (a2++[a1])))]⟩ (q_fn [.len 0 ((a2++[a1]).length)] ⟨[(4,vo 0 1 1 ((a2++[a1]).length))],[(0,ro 1 56 1 ((a2++[a1]).length) (rf (qU qL) (a2++[a1])))]⟩ (o1 (And.intro (Eq.symm (show(a2++[a1]).length=(a2.length+1) from(zX rfl rfl))) (Eq.symm (show(a2++[a1]).length=(a2.length+1) from(zX rfl rfl))))) ?_)
 obtain rfl:=oi hm;exact q_rt q_rm
def qOv (r:Bool):V:=vb r
def qOD (r:Bool):List (Nat×(Nat×O)):=[]
def qJT (x3:Bool):St:=
 ⟨[(2,vb x3)],[]⟩
theorem VA (a1:Int) (r:Bool) (hm:HS a1=some r):CtX Tryz.prog globs 210 0 0 [.one (.val (.int .u8 a1))] [] (qOv r) (qOD r):=by
 unfold HS at hm;refine q_E f210 9 λE=>?_;refine s_vn [] 0 ⟨[(0,vc (.val (.int .u8 a1)))],[]⟩ (q_jn (qJT) (λp=>SD p=some r) ?_ ?_)
 ·rintro x3 hm;obtain rfl:=oi hm;exact q_rt q_rm
 ·rcases bif_c hm with⟨b2,hm⟩|⟨b2,hm⟩
  ·exact q_vn [qf 2 b2] 0 ⟨[(2,vb (decide (a1<=122)))],[]⟩ (q_J (decide (a1<=122)) hm)
  ·exact q_vn [qf 2 b2] 0 ⟨[(2,vb false)],[]⟩ (q_J (false) hm)
open Go.Proofs Go.Proofs.Tryz
def qPl (r:Bool):V:=vb r
def qN8 (r:Bool):List (Nat×(Nat×O)):=[]
def qJk (x3:Bool):St:=
 ⟨[(2,vb x3)],[]⟩
theorem qDR (a1:Int) (r:Bool) (hm:qCs a1=some r):CtX Tryz.prog globs 211 0 0 [.one (.val (.int .u8 a1))] [] (qPl r) (qN8 r):=by
 unfold qCs at hm;refine q_E f211 9 λE=>?_;refine s_vn [] 0 ⟨[(0,vc (.val (.int .u8 a1)))],[]⟩ (q_jn (qJk) (λp=>SG p=some r) ?_ ?_)
 ·rintro x3 hm;obtain rfl:=oi hm;exact q_rt q_rm
 ·rcases bif_c hm with⟨b2,hm⟩|⟨b2,hm⟩
  ·exact q_vn [qf 2 b2] 0 ⟨[(2,vb (decide (a1<=57)))],[]⟩ (q_J (decide (a1<=57)) hm)
  ·exact q_vn [qf 2 b2] 0 ⟨[(2,vb false)],[]⟩ (q_J (false) hm)
def qAc (r:Bool):V:=vb r
def qAw (r:Bool):List (Nat×(Nat×O)):=[]
def qLB (a1:ByteArray) (x9:Int) (x18:Bool):St:=
 ⟨[(0,vc (cs a1)),(3,vi x9),(39,vb x18)],[]⟩
def LD (a1:ByteArray) (x9:Int):St:=
 ⟨[(0,vc (cs a1)),(3,vi x9)],[]⟩
def qC7 :St:=
 ⟨[],[]⟩
def qLw (a1:ByteArray) (x7:Bool):St:=
 ⟨[(0,vc (cs a1)),(18,vb x7)],[]⟩
theorem qJU (E:Env 0) (a1:ByteArray):∀(n:Nat) (x9:Int) (res:Bool⊕Unit),JI a1 n x9=some res->HL (kx E 40 0) (nd f165 116) (wD 0 (λo=>qC7) (λv st=>RetQ Tryz.prog f165 (qAc v) (qAw v) .ret st) res) n (LD a1 x9):=by
 intro n
 induction n with
 |zero=>
  intro x9 res hm;cases hm
 |succ n ih=>
  intro x9 res hm;refine qS (q_sq ?_);refine s_va 0 [(22,vb (decide (x9<(a1.size:Int))))] (q_cq hm (λhm=>?_) (λhm=>?_))
  ·refine q_sk (q_sq ?_);refine q_bk 1 ?_;obtain⟨g11,hm⟩:=qJ hm;refine s_vv [qi 2 g11] 0 [22] [(4,vc (.val (.int .u8 (XW a1 x9.toNat))))] (q_jn (qLB a1 x9) (λp=>DH x9 (JI a1 n) p=some res) ?_ ?_)
   ·rintro x18 hm;refine q_cq hm (λhm=>?_) (λhm=>?_)
    ·refine s_vn [] 0 ⟨[(2,vb false)],[]⟩ ?_;obtain rfl:=oi hm;refine q_rt (zJ false ?_);exact q_rm
    ·refine q_sk (q_vv [] 0 [3,39] [(3,vi (w64 (x9+1)))] ?_);exact q_hl (LD a1 (w64 (x9+1))) (ih (w64 (x9+1)) _ hm)
   ·obtain⟨v12,h13,hm⟩:=qB hm;rcases bif_c hm with⟨b14,hm⟩|⟨b14,hm⟩
    ·obtain⟨v15,h16,hm⟩:=qB hm;rcases bif_c hm with⟨b17,hm⟩|⟨b17,hm⟩
     ·exact q_vv [qc 1 [28] 0 (VA (XW a1 x9.toNat) v12 h13),qf 3 b14,qk 5 [31,32] 0 ⟨[(31,vb true),(32,vc (.val (.int .u8 (XW a1 x9.toNat))))],[]⟩ (qDR (XW a1 x9.toNat) v15 h16),qf 8 b17] 0 [4] [(39,vb ((XW a1 x9.toNat) !=95))] (q_J ((XW a1 x9.toNat) !=95) hm)
     ·exact q_vv [qc 1 [28] 0 (VA (XW a1 x9.toNat) v12 h13),qf 3 b14,qk 5 [31,32] 0 ⟨[(31,vb true),(32,vc (.val (.int .u8 (XW a1 x9.toNat))))],[]⟩ (qDR (XW a1 x9.toNat) v15 h16),qf 8 b17] 0 [4] [(39,vb false)] (q_J (false) hm)
    ·exact q_vv [qc 1 [28] 0 (VA (XW a1 x9.toNat) v12 h13),qf 3 b14] 0 [4] [(39,vb false)] (q_J (false) hm)
  ·refine q_ex 0 ?_;obtain rfl:=oi hm;exact q_l1 ()
theorem qO4 (a1:ByteArray) (r:Bool) (hm:qEf a1=some r):CtX Tryz.prog globs 165 0 0 [.one (cs a1)] [] (qAc r) (qAw r):=by
 unfold qEf at hm;refine q_E f165 40 λE=>?_;refine s_vn [] 0 ⟨[(0,vc (cs a1))],[]⟩ (q_sq ?_);refine q_jn (qLw a1) (λp=>DG a1 p=some r) ?_ ?_
 ·rintro x7 hm;refine q_cq hm (λhm=>?_) (λhm=>?_)
  ·refine s_vn [] 0 ⟨[(2,vb false)],[]⟩ ?_;obtain rfl:=oi hm;exact q_rt q_rm
  ·refine q_sk (q_sq ?_);refine s_vv [] 0 [18] [(3,vi 1)] ?_;obtain⟨u22,h21,hm⟩:=qB hm;refine zO (nd f165 116) 0 (by kernel_rfl) FUEL (λo=>qC7) (λv st=>RetQ Tryz.prog f165 (qAc v) (qAw v) .ret st) u22 (q_hl (LD a1 1) (qJU E a1 FUEL 1 u22 h21)) ?_ ?_
   ·rintro v23 rfl st hr;obtain rfl:=oi hm;exact hr
   ·rintro o20 rfl;replace hm:_=some r:=hm;refine s_vn [] 0 ⟨[(2,vb true)],[]⟩ ?_;obtain rfl:=oi hm;exact q_rt q_rm
 ·rcases bif_c hm with⟨b2,hm⟩|⟨b2,hm⟩
  ·exact q_vv [qf 3 b2] 0 [] [(18,vb true)] (q_J (true) hm)
  ·rcases bif_c hm with⟨b3,hm⟩|⟨b3,hm⟩
   ·exact q_vv [qf 3 b2,qf 8 b3] 0 [] [(18,vb true)] (q_J (true) hm)
   ·obtain⟨g4,hm⟩:=qJ hm;obtain⟨v5,h6,hm⟩:=qB hm;exact q_vv [qf 3 b2,qf 8 b3,qi 10 g4,qk 11 [13,15] 0 ⟨[(13,vb false),(15,vc (.val (.int .u8 (XW a1 ((0:Int).toNat)))))],[]⟩ (VA (XW a1 ((0:Int).toNat)) v5 h6)] 0 [] [(18,vb (!v5))] (q_J (!v5) hm)
def qAy (r:Int×Bool):V:= .tup [.one (ci r.1),.one (cb r.2)]
def qAO (r:Int×Bool):List (Nat×(Nat×O)):=[]
def MG (a1:List qK) (a2:ByteArray) (x3:Int):St:=
 ⟨[(1,vc (cs a2)),(8,vc (tl qR dd a1)),(9,vi (a1.length:Int)),(10,vi x3)],[]⟩
def qDj :St:=
 ⟨[],[]⟩
theorem qJi (E:Env 0) (a1:List qK) (a2:ByteArray):∀(n:Nat) (x3:Int) (res:(Int×Bool)⊕Unit),CA a1 a2 n x3=some res->HL (kx E 21 0) (nd f166 52) (wD 0 (λo=>qDj) (λv st=>RetQ Tryz.prog f166 (qAy v) (qAO v) .ret st) res) n (MG a1 a2 x3):=by
 intro n
 induction n with
 |zero=>
  intro x3 res hm;cases hm
 |succ n ih=>
  intro x3 res hm;refine qS (s_va 0 [(11,vb (decide (x3<(a1.length:Int))))] ?_);refine q_sq (q_cq hm (λhm=>?_) (λhm=>?_))
  ·refine q_sk (q_sq ?_);refine q_bk 1 ?_;obtain⟨g5,hm⟩:=qJ hm;refine s_vu [qi 1 g5] 0 [11] [(6,vi x3),(7,vp 0 0)] [] [(0,bx 74 (qR (a1.getD x3.toNat dd)))] (s_vu [] 1 [7] [(18,vb (qKL ((a1.getD x3.toNat dd).Name) a2))] [0] [] ?_);refine q_cq hm (λhm=>?_) (λhm=>?_)
   ·refine s_vn [] 1 ⟨[(4,vi x3),(5,vb true)],[]⟩ ?_;obtain rfl:=oi hm;refine q_rt (zJ (x3,true) ?_);exact q_rm
   ·refine q_sk (q_vv [] 1 [6,10,18] [(10,vi (w64 (x3+1)))] ?_);exact q_hl (MG a1 a2 (w64 (x3+1))) (ih (w64 (x3+1)) _ hm)
  ·refine q_ex 0 ?_;obtain rfl:=oi hm;exact q_l1 ()
theorem qOz (a1:List qK) (a2:ByteArray) (r:Int×Bool) (hm:qD0 a1 a2=some r):CtX Tryz.prog globs 166 0 0 [.one (tl qR dd a1),.one (cs a2)] [] (qAy r) (qAO r):=by
 unfold qD0 at hm;refine q_E f166 21 λE=>?_;refine s_vn [] 0 ⟨[(0,vc (tl qR dd a1)),(1,vc (cs a2))],[]⟩ (q_sq ?_);refine s_vv [] 0 [0] [(8,vc (tl qR dd a1)),(9,vi (a1.length:Int)),(10,vi 0)] ?_;obtain⟨u9,h8,hm⟩:=qB hm;refine zO (nd f166 52) 0 (by kernel_rfl) FUEL (λo=>qDj) (λv st=>RetQ Tryz.prog f166 (qAy v) (qAO v) .ret st) u9 (q_hl (MG a1 a2 0) (qJi E a1 a2 FUEL 0 u9 h8)) ?_ ?_
 ·rintro v10 rfl st hr;obtain rfl:=oi hm;exact hr
 ·rintro o7 rfl;replace hm:_=some r:=hm;refine s_vn [] 0 ⟨[(4,vi 0),(5,vb false)],[]⟩ ?_;obtain rfl:=oi hm;exact q_rt q_rm
open Go.Proofs Go.Proofs.Tryz
def qPI (r:Int):V:=vi r
def qPP (r:Int):List (Nat×(Nat×O)):=[]
theorem qFI (a1:Int) (a2:Int) (r:Int) (hm:CJ a1 a2=some r):CtX Tryz.prog globs 85 0 0 [.one (ci a1),.one (ci a2)] [] (qPI r) (qPP r):=by
 unfold CJ at hm;refine q_E f85 11 λE=>?_;refine s_vn [] 0 ⟨[(0,vi a1),(1,vi a2)],[]⟩ (s_vn [qd 5 dN (show(1000:Int)≠0 by decide)] 0 ⟨[(4,vi (w64 (Int.tdiv (w64 ((w64 (a1*(w64 (1000+a2))))+999)) 1000)))],[]⟩ ?_);obtain rfl:=oi hm;exact q_rt q_rm
def qMM (r:Bool):V:=vb r
def qNc (r:Bool):List (Nat×(Nat×O)):=[]
def qI4 (x3:Bool):St:=
 ⟨[(2,vb x3)],[]⟩
theorem yU (a1:Int) (r:Bool) (hm:FV a1=some r):CtX Tryz.prog globs 84 0 0 [.one (ci a1)] [] (qMM r) (qNc r):=by
 unfold FV at hm;refine q_E f84 9 λE=>?_;refine s_vn [] 0 ⟨[(0,vi a1)],[]⟩ (q_jn (qI4) (λp=>ME p=some r) ?_ ?_)
 ·rintro x3 hm;obtain rfl:=oi hm;exact q_rt q_rm
 ·rcases bif_c hm with⟨b2,hm⟩|⟨b2,hm⟩
  ·exact q_vn [qf 2 b2] 0 ⟨[(2,vb (decide (a1<=600)))],[]⟩ (q_J (decide (a1<=600)) hm)
  ·exact q_vn [qf 2 b2] 0 ⟨[(2,vb false)],[]⟩ (q_J (false) hm)
def qPm (r:Int×Int):V:= .tup [.one (ci r.1),.one (ci r.2)]
def qOL (r:Int×Int):List (Nat×(Nat×O)):=[]
def qJ5 (a1:qK) (x9:Bool):St:=
 ⟨[(1,vp 0 0),(23,vb x9)],[(0,bx 74 (qR a1))]⟩
theorem US (a1:qK) (r:Int×Int) (hm:KP a1=some r):CtX Tryz.prog globs 43 0 0 [.agg (qR a1)] [] (qPm r) (qOL r):=by
 unfold KP at hm;refine q_E f43 34 λE=>?_;refine s_vn [] 0 ⟨[(1,vp 0 0)],[(0,bx 74 (qR a1))]⟩ (q_sq ?_);refine q_jn (qJ5 a1) (λp=>XL a1 p=some r) ?_ ?_
 ·rintro x9 hm;refine q_cq hm (λhm=>?_) (λhm=>?_)
  ·refine s_vn [] 1 ⟨[(2,vi 0),(3,vi 0)],[]⟩ ?_;obtain rfl:=oi hm;exact q_rt q_rm
  ·refine q_sk ?_;obtain⟨v11,h12,hm⟩:=qB hm;obtain⟨v13,h14,hm⟩:=qB hm;refine s_dn [qc 4 [25,27] 1 (qFI a1.Thick a1.Allow v11 h12),qc 9 [30,32] 1 (qFI a1.Width a1.Allow v13 h14)] [0,1,0,4,15,0,32,0,128,511,1023,2047] 1 ⟨[(2,vi v11),(3,vi v13)],[]⟩ ?_;obtain rfl:=oi hm;exact q_rt q_rm
 ·obtain⟨v2,h3,hm⟩:=qB hm;rcases bif_c hm with⟨b4,hm⟩|⟨b4,hm⟩
  ·exact q_vv [qc 2 [5] 1 (yU a1.Thick v2 h3),qf 4 b4] 1 [] [(23,vb true)] (q_J (true) hm)
  ·obtain⟨v5,h6,hm⟩:=qB hm;rcases bif_c hm with⟨b7,hm⟩|⟨b7,hm⟩
   ·exact q_vv [qc 2 [5] 1 (yU a1.Thick v2 h3),qf 4 b4,qk 7 [8,10] 1 ⟨[(8,vb false),(10,vi a1.Width)],[]⟩ (yU a1.Width v5 h6),qf 10 b7] 1 [] [(23,vb true)] (q_J (true) hm)
   ·rcases bif_c hm with⟨b8,hm⟩|⟨b8,hm⟩
    ·exact q_vv [qc 2 [5] 1 (yU a1.Thick v2 h3),qf 4 b4,qk 7 [8,10] 1 ⟨[(8,vb false),(10,vi a1.Width)],[]⟩ (yU a1.Width v5 h6),qf 10 b7,qf 15 b8] 1 [] [(23,vb true)] (q_J (true) hm)
    ·exact q_vv [qc 2 [5] 1 (yU a1.Thick v2 h3),qf 4 b4,qk 7 [8,10] 1 ⟨[(8,vb false),(10,vi a1.Width)],[]⟩ (yU a1.Width v5 h6),qf 10 b7,qf 15 b8] 1 [] [(23,vb (decide (a1.Allow>200)))] (q_J (decide (a1.Allow>200)) hm)
open Go.Proofs Go.Proofs.Tryz
def QA (r:Int):V:=vi r
def QE (r:Int):List (Nat×(Nat×O)):=[]
def JC (a1:qK) (x18:Int):St:=
 ⟨[(1,vp 0 0),(70,vc (tl qD dd a1.Lengths)),(71,vi (a1.Lengths.length:Int)),(72,vi x18)],[(0,bx 74 (qR a1))]⟩
def qDu (a1:qK) (x18:Int) (x26:Bool):St:=
 (JC a1 x18).up [] [(94,vb x26)] [] []
def qDo (a1:qK) (x18:Int) (x22:Bool):St:=
 (JC a1 x18).up [] [(5,vi x18),(6,vi (a1.Lengths.getD x18.toNat dd)),(82,vb x22)] [] []
def YK (a1:qK) (x18:Int):St:=
 (JC a1 x18).up [] [] [] []
def GS (a1:qK):St:=
 ⟨[(1,vp 0 0)],[(0,bx 74 (qR a1))]⟩
def qDy (a1:qK) (x32:Int) (x36:Bool):St:=
 ⟨[(97,vc (tl qD dd a1.Prices)),(98,vi (a1.Prices.length:Int)),(99,vi x32),(108,vb x36)],[]⟩
def YJ (a1:qK) (x32:Int):St:=
 ⟨[(97,vc (tl qD dd a1.Prices)),(98,vi (a1.Prices.length:Int)),(99,vi x32)],[]⟩
def GR :St:=
 ⟨[],[]⟩
def qDw (a1:qK) (x10:Bool):St:=
 ⟨[(1,vp 0 0),(46,vb x10)],[(0,bx 74 (qR a1))]⟩
def qDl (a1:qK) (x5:Bool):St:=
 ⟨[(1,vp 0 0),(28,vb x5)],[(0,bx 74 (qR a1))]⟩
theorem qCL (E:Env 0) (a1:qK):∀(n:Nat) (x18:Int) (res:Int⊕Unit),jG a1 n x18=some res->HL (kx E 110 0) (nd f167 4084) (wD 0 (λo=>GS a1) (λv st=>RetQ Tryz.prog f167 (QA v) (QE v) .ret st) res) n (YK a1 x18):=by
 intro n
 induction n with
 |zero=>
  intro x18 res hm;cases hm
 |succ n ih=>
  intro x18 res hm;refine qS (s_va 1 [(73,vb (decide (x18<(a1.Lengths.length:Int))))] ?_);refine q_sq (q_cq hm (λhm=>?_) (λhm=>?_))
  ·refine q_sk (q_sq ?_);refine q_bk 1 ?_;obtain⟨g20,hm⟩:=qJ hm;refine s_vv [qi 1 g20] 1 [73] [(5,vi x18),(6,vi (a1.Lengths.getD x18.toNat dd))] (q_sq ?_);refine q_jn (qDo a1 x18) (λp=>KC a1 x18 (jG a1 n) p=some res) ?_ ?_
   ·rintro x22 hm;refine q_cq hm (λhm=>?_) (λhm=>?_)
    ·refine s_vn [] 1 ⟨[(2,vi 9)],[]⟩ ?_;obtain rfl:=oi hm;refine q_rt (zJ 9 ?_);exact q_rm
    ·refine q_sk (q_jn (qDu a1 x18) (λp=>KD x18 (jG a1 n) p=some res) ?_ ?_)
     ·rintro x26 hm;refine q_cq hm (λhm=>?_) (λhm=>?_)
      ·refine s_vn [] 1 ⟨[(2,vi 11)],[]⟩ ?_;obtain rfl:=oi hm;refine q_rt (zJ 11 ?_);exact q_rm
      ·refine q_sk (q_vv [] 1 [72,94] [(72,vi (w64 (x18+1)))] ?_);exact q_hl (YK a1 (w64 (x18+1))) (ih (w64 (x18+1)) _ hm)
     ·rcases bif_c hm with⟨b24,hm⟩|⟨b24,hm⟩
      ·obtain⟨g25,hm⟩:=qJ hm;exact q_vv [qf 2 b24,qi 8 g25] 1 [5,6,82] [(94,vb (decide ((a1.Lengths.getD x18.toNat dd)<=(a1.Lengths.getD (w64 (x18-1)).toNat dd))))] (q_J (decide ((a1.Lengths.getD x18.toNat dd)<=(a1.Lengths.getD (w64 (x18-1)).toNat dd))) hm)
      ·exact q_vv [qf 2 b24] 1 [5,6,82] [(94,vb false)] (q_J (false) hm)
   ·rcases bif_c hm with⟨b21,hm⟩|⟨b21,hm⟩
    ·exact q_vv [qf 2 b21] 1 [] [(82,vb true)] (q_J (true) hm)
    ·exact q_vv [qf 2 b21] 1 [] [(82,vb (decide ((a1.Lengths.getD x18.toNat dd)>20000)))] (q_J (decide ((a1.Lengths.getD x18.toNat dd)>20000)) hm)
  ·refine q_ex 0 ?_;obtain rfl:=oi hm;exact q_l1 ()
theorem qCM (E:Env 0) (a1:qK):∀(n:Nat) (x32:Int) (res:Int⊕Unit),yR a1 n x32=some res->HL (kx E 110 0) (nd f167 8180) (wD 2 (λo=>GR) (λv st=>RetQ Tryz.prog f167 (QA v) (QE v) .ret st) res) n (YJ a1 x32):=by
 intro n
 induction n with
 |zero=>
  intro x32 res hm;cases hm
 |succ n ih=>
  intro x32 res hm;refine qS (s_va 1 [(100,vb (decide (x32<(a1.Prices.length:Int))))] ?_);refine q_sq (q_cq hm (λhm=>?_) (λhm=>?_))
  ·refine q_sk (q_sq ?_);refine q_bk 3 ?_;obtain⟨g34,hm⟩:=qJ hm;refine s_vv [qi 0 g34] 1 [100] [(8,vi (a1.Prices.getD x32.toNat dd))] (q_jn (qDy a1 x32) (λp=>KB x32 (yR a1 n) p=some res) ?_ ?_)
   ·rintro x36 hm;refine q_cq hm (λhm=>?_) (λhm=>?_)
    ·refine s_vn [] 1 ⟨[(2,vi 9)],[]⟩ ?_;obtain rfl:=oi hm;refine q_rt (zJ 9 ?_);exact q_rm
    ·refine q_sk (q_vv [] 1 [99,108] [(99,vi (w64 (x32+1)))] ?_);exact q_hl (YJ a1 (w64 (x32+1))) (ih (w64 (x32+1)) _ hm)
   ·rcases bif_c hm with⟨b35,hm⟩|⟨b35,hm⟩
    ·exact q_vv [qf 2 b35] 1 [8] [(108,vb true)] (q_J (true) hm)
    ·exact q_vv [qf 2 b35] 1 [8] [(108,vb (decide ((a1.Prices.getD x32.toNat dd)>1000000)))] (q_J (decide ((a1.Prices.getD x32.toNat dd)>1000000)) hm)
  ·refine q_ex 2 ?_;obtain rfl:=oi hm;exact q_l1 ()
theorem qER (a1:qK) (r:Int) (hm:UB a1=some r):CtX Tryz.prog globs 167 0 0 [.agg (qR a1)] [] (QA r) (QE r):=by
 unfold UB at hm;refine q_E f167 110 λE=>?_;refine s_vn [] 0 ⟨[(1,vp 0 0)],[(0,bx 74 (qR a1))]⟩ (q_sq ?_);refine q_jn (qDl a1) (λp=>yS a1 p=some r) ?_ ?_
 ·rintro x5 hm;refine q_cq hm (λhm=>?_) (λhm=>?_)
  ·refine s_vn [] 1 ⟨[(2,vi 9)],[]⟩ ?_;obtain rfl:=oi hm;exact q_rt q_rm
  ·refine q_sk (q_sq ?_);refine q_jn (qDw a1) (λp=>yQ a1 p=some r) ?_ ?_
   ·rintro x10 hm;refine q_cq hm (λhm=>?_) (λhm=>?_)
    ·refine s_vn [] 1 ⟨[(2,vi 9)],[]⟩ ?_;obtain rfl:=oi hm;exact q_rt q_rm
    ·refine q_sk (q_sq ?_);obtain⟨v12,h13,hm⟩:=qB hm;refine s_vv [qc 1 [48] 1 (US a1 v12 h13)] 1 [46] [(4,vi v12.2)] (s_vv [] 1 [4] [(53,vb (decide (v12.2>600)))] ?_);refine q_cq hm (λhm=>?_) (λhm=>?_)
     ·refine s_vn [] 1 ⟨[(2,vi 9)],[]⟩ ?_;obtain rfl:=oi hm;exact q_rt q_rm
     ·refine q_sk (q_sq ?_);refine s_vv [] 1 [53] [(57,vb ((a1.Lengths.length:Int)==0))] (q_cq hm (λhm=>?_) (λhm=>?_))
      ·refine s_vn [] 1 ⟨[(2,vi 3)],[]⟩ ?_;obtain rfl:=oi hm;exact q_rt q_rm
      ·refine q_sk (q_sq ?_);refine s_vv [] 1 [57] [(61,vb (decide ((a1.Lengths.length:Int)>8)))] (q_cq hm (λhm=>?_) (λhm=>?_))
       ·refine s_vn [] 1 ⟨[(2,vi 4)],[]⟩ ?_;obtain rfl:=oi hm;exact q_rt q_rm
       ·refine q_sk (q_sq ?_);refine s_vv [] 1 [61] [(68,vb ((a1.Prices.length:Int) !=(a1.Lengths.length:Int)))] (q_cq hm (λhm=>?_) (λhm=>?_))
        ·refine s_vn [] 1 ⟨[(2,vi 19)],[]⟩ ?_;obtain rfl:=oi hm;exact q_rt q_rm
        ·refine q_sk (q_sq ?_);refine s_vv [] 1 [68] [(70,vc (tl qD dd a1.Lengths)),(71,vi (a1.Lengths.length:Int)),(72,vi 0)] ?_;obtain⟨u30,h29,hm⟩:=qB hm;refine zO (nd f167 4084) 0 (by kernel_rfl) FUEL (λo=>GS a1) (λv st=>RetQ Tryz.prog f167 (QA v) (QE v) .ret st) u30 (q_hl (YK a1 0) (qCL E a1 FUEL 0 u30 h29)) ?_ ?_
         ·rintro v31 rfl st hr;obtain rfl:=oi hm;exact hr
         ·rintro o28 rfl;replace hm:_=some r:=hm;refine q_sq (s_vn [] 1 ⟨[(97,vc (tl qD dd a1.Prices)),(98,vi (a1.Prices.length:Int)),(99,vi 0)],[]⟩ ?_);obtain⟨u40,h39,hm⟩:=qB hm;refine zO (nd f167 8180) 2 (by kernel_rfl) FUEL (λo=>GR) (λv st=>RetQ Tryz.prog f167 (QA v) (QE v) .ret st) u40 (q_hl (YJ a1 0) (qCM E a1 FUEL 0 u40 h39)) ?_ ?_
          ·rintro v41 rfl st hr;obtain rfl:=oi hm;exact hr
          ·rintro o38 rfl;replace hm:_=some r:=hm;refine s_vn [] 1 ⟨[(2,vi 0)],[]⟩ ?_;obtain rfl:=oi hm;exact q_rt q_rm
   ·rcases bif_c hm with⟨b7,hm⟩|⟨b7,hm⟩
    ·exact q_vv [qf 3 b7] 1 [28] [(46,vb true)] (q_J (true) hm)
    ·rcases bif_c hm with⟨b8,hm⟩|⟨b8,hm⟩
     ·exact q_vv [qf 3 b7,qf 8 b8] 1 [28] [(46,vb true)] (q_J (true) hm)
     ·rcases bif_c hm with⟨b9,hm⟩|⟨b9,hm⟩
      ·exact q_vv [qf 3 b7,qf 8 b8,qf 13 b9] 1 [28] [(46,vb true)] (q_J (true) hm)
      ·exact q_vv [qf 3 b7,qf 8 b8,qf 13 b9] 1 [28] [(46,vb (decide (a1.Wane>1000)))] (q_J (decide (a1.Wane>1000)) hm)
 ·rcases bif_c hm with⟨b2,hm⟩|⟨b2,hm⟩
  ·exact q_vv [qf 3 b2] 1 [] [(28,vb true)] (q_J (true) hm)
  ·rcases bif_c hm with⟨b3,hm⟩|⟨b3,hm⟩
   ·exact q_vv [qf 3 b2,qf 8 b3] 1 [] [(28,vb true)] (q_J (true) hm)
   ·rcases bif_c hm with⟨b4,hm⟩|⟨b4,hm⟩
    ·exact q_vv [qf 3 b2,qf 8 b3,qf 15 b4] 1 [] [(28,vb true)] (q_J (true) hm)
    ·exact q_vv [qf 3 b2,qf 8 b3,qf 15 b4] 1 [] [(28,vb (decide (a1.Width>600)))] (q_J (decide (a1.Width>600)) hm)
def KX (r:Int):V:=vi r
def ZL (r:Int):List (Nat×(Nat×O)):=[]
theorem qFZ (r:Int):yE (ZL r):=by
 intro i k o h;unfold ZL at h;cases h
def BQ (a1:List qK) (x3:Int):St:=
 ⟨[(0,vc (tl qR dd a1)),(11,vc (tl qR dd a1)),(12,vi (a1.length:Int)),(13,vi x3)],[]⟩
def qB5 :St:=
 ⟨[],[]⟩
theorem qIQ (E:Env 0) (a1:List qK):∀(n:Nat) (x3:Int) (res:Int⊕Unit),EI a1 n x3=some res->HL (kx E 38 0) (nd f107 116) (wD 0 (λo=>qB5) (λv st=>RetQ Tryz.prog f107 (KX v) (ZL v) .ret st) res) n (BQ a1 x3):=by
 intro n
 induction n with
 |zero=>
  intro x3 res hm;cases hm
 |succ n ih=>
  intro x3 res hm;refine qS (s_va 0 [(14,vb (decide (x3<(a1.length:Int))))] ?_);refine q_sq (q_cq hm (λhm=>?_) (λhm=>?_))
  ·refine q_sk (q_sq ?_);refine q_bk 1 ?_;obtain⟨g5,hm⟩:=qJ hm;refine s_vu [qi 1 g5] 0 [14] [(3,vi x3),(4,vp 0 0)] [] [(0,bx 74 (qR (a1.getD x3.toNat dd)))] (q_sq ?_);obtain⟨v6,h7,hm⟩:=qB hm;refine s_vv [qc 2 [19] 1 (qO4 ((a1.getD x3.toNat dd).Name) v6 h7)] 1 [] [(21,vb (!v6))] (q_cq hm (λhm=>?_) (λhm=>?_))
   ·refine s_vn [] 1 ⟨[(2,vi 6)],[]⟩ ?_;obtain rfl:=oi hm;refine q_rt (zJ 6 ?_);exact q_rm
   ·refine q_sk (q_sq ?_);obtain⟨g9,hm⟩:=qJ hm;obtain⟨v10,h11,hm⟩:=qB hm;refine s_du [qd 2 (drw ((a1.take x3.toNat).length) 0 (rf qR (a1.take x3.toNat))) (slPhi qR dd a1 x3 (And.intro (zS g9).2.1 (zS g9).2.2)),qc 5 [25,27] 1 (qOz (a1.take x3.toNat) ((a1.getD x3.toNat dd).Name) v10 h11)] [0,0,3,0,8,31,63,127,127,255,1023] 1 [3,21] [(6,vb v10.2)] [] [] (s_vv [] 1 [6] [(31,vb v10.2)] ?_);refine q_cq hm (λhm=>?_) (λhm=>?_)
    ·refine s_vn [] 1 ⟨[(2,vi 7)],[]⟩ ?_;obtain rfl:=oi hm;refine q_rt (zJ 7 ?_);exact q_rm
    ·refine q_sk ?_;obtain⟨v13,h14,hm⟩:=qB hm;refine s_vu [qc 1 [32] 1 (qER (a1.getD x3.toNat dd) v13 h14)] 1 [4,31] [(7,vi v13)] [0] [] (s_va 1 [(35,vb (v13 !=0))] ?_);refine q_cq hm (λhm=>?_) (λhm=>?_)
     ·refine s_vn [] 1 ⟨[(2,vi v13)],[]⟩ ?_;obtain rfl:=oi hm;refine q_rt (zJ v13 ?_);exact q_rm
     ·refine q_sk (q_vv [] 1 [7,13,35] [(13,vi (w64 (x3+1)))] ?_);exact q_hl (BQ a1 (w64 (x3+1))) (ih (w64 (x3+1)) _ hm)
  ·refine q_ex 0 ?_;obtain rfl:=oi hm;exact q_l1 ()
theorem WO (a1:List qK) (r:Int) (hm:JQ a1=some r):CtX Tryz.prog globs 107 0 0 [.one (tl qR dd a1)] [] (KX r) (ZL r):=by
 unfold JQ at hm;refine q_E f107 38 λE=>?_;refine s_vn [] 0 ⟨[(0,vc (tl qR dd a1))],[]⟩ (q_sq ?_);refine s_va 0 [(10,vb (decide ((a1.length:Int)>16)))] (q_cq hm (λhm=>?_) (λhm=>?_))
 ·refine s_vn [] 0 ⟨[(2,vi 4)],[]⟩ ?_;obtain rfl:=oi hm;exact q_rt q_rm
 ·refine q_sk (q_sq ?_);refine s_vv [] 0 [10] [(11,vc (tl qR dd a1)),(12,vi (a1.length:Int)),(13,vi 0)] ?_;obtain⟨u18,h17,hm⟩:=qB hm;refine zO (nd f107 116) 0 (by kernel_rfl) FUEL (λo=>qB5) (λv st=>RetQ Tryz.prog f107 (KX v) (ZL v) .ret st) u18 (q_hl (BQ a1 0) (qIQ E a1 FUEL 0 u18 h17)) ?_ ?_
  ·rintro v19 rfl st hr;obtain rfl:=oi hm;exact hr
  ·rintro o16 rfl;replace hm:_=some r:=hm;refine s_vn [] 0 ⟨[(2,vi 0)],[]⟩ ?_;obtain rfl:=oi hm;exact q_rt q_rm
end Saw
end Go.SL

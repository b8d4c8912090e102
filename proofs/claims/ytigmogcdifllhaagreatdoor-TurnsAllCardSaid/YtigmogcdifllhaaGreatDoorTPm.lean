import Derived.Test.YtigmogcdifllhaaGreatDoorTPcl
import Derived.Test.YtigmogcdifllhaaGreatDoorYa7
import Derived.Test.YtigmogcdifllhaaGreatDoorEFa1
set_option linter.unusedVariables false
set_option linter.unusedSimpArgs false
namespace Go.SL
namespace Saw
open Go.Proofs Go.RowKit
set_option maxRecDepth 100000
theorem HW_q {K:Ctx} {st:St} {fn:Func} {n:Nat} {R:Exit->Act->World->Prop} (h:H K st (nd fn (2*n)) (λe st'=>e= .normal/\HW K st' (nd fn (2*n+1)) R)) (hc:nd fn n= .seq (nd fn (2*n)) (nd fn (2*n+1)):=by kernel_rfl):HW K st (nd fn n) R:=hc▸HW_seq h
theorem qJw {w:World} {M:Mem} {id k:Nat} {v:Value} (h:CRep w M (.bptr id k 0) v):∃b,v= .pointer (some ⟨b,0,none⟩)/\(M.ver id=some k->M.blk id=some b):=h
theorem qNK {w:World} {M:Mem} {id k:Nat} {v:Value} (h:jI w M (.bptr id k 0) v):∃b,v= .pointer (some ⟨b,0,none⟩)/\(M.ver id=some k->M.blk id=some b):=h
theorem qNB {w:World} {M:Mem} {id k:Nat} {e:TypeId} {c:C} (h:ORep w M id k (.box e [c])) {b:Nat} (hb:M.blk id=some b):∃v,w.heap[b]? =some (.cells #[v] e (0,0))/\CRep w M c v:=by
 obtain⟨_,b',arr,h2,h3,h4,h5⟩:=h;rw[hb] at h2;obtain rfl:=kQ h2;have h0:=h5 0 (by simp);have ha:arr= #[arr.getD 0 undef]:=by
  apply Array.ext
  ·simpa using h4
  ·intro i h1 h2;have:i=0:=by simp at h2;omega
   subst this;rw[kw,kE h1];rfl
 rw[ha] at h3;exact⟨_,h3,h0⟩
theorem qVn (a1:Scan) (a2 a3 a4:Int) (v5:Scan) (v7:List qB×Int) (v9:List qC) (h6:qA2 a1 a2=some v5) (h8:qBx v5 a3 a4=some v7) (h10:yR v5.Defects=some v9) (w:World) (A:Nat->Prop) (vs:Array Value) (hg:GR globs w A)
  (ha:qDf w (Mem.of A) [.agg (PA a1),.one (ci a2),.one (ci a3),.one (ci a4)] vs) (R:Ending->World->Prop)
  (key:∀(M:Mem) (w4:World) (b8 b9 b10 b12:Nat) (x8 x9:Value),Below w.heap.size w w4->(∀b,M.A b↔A b\/w.heap.size<=b)->(w.heap.size<=b8/\w.heap.size<=b9/\w.heap.size<=b10)->(b12≠b10/\b12≠b8/\b12≠b9/\b10≠b8/\b10≠b9/\b8≠b9)->(M.owns b8/\M.owns b9/\M.owns b10)->
   w4.heap[b8]? =some (.cells #[x8] 30 (0,0))->w4.heap[b9]? =some (.cells #[x9] 23 (0,0))->w4.heap[b10]? =some (.cells #[.int .i64 0] 31 (0,0))->w4.heap[b12]? =some (.cells #[.int .i64 v7.2] 31 (0,0))->
   IRep w4 M.imm (tl qS daa v7.1) x8->IRep w4 M.imm (tl qP daa v9) x9->∀tmps:Array Value,tmps.getD 8 undef= .pointer (some ⟨b8,0,none⟩)->tmps.getD 9 undef= .pointer (some ⟨b9,0,none⟩)->tmps.getD 10 undef= .pointer (some ⟨b10,0,none⟩)->
   Leaves Tryz.prog Tryz.f10 tmps R [{target:= .fn (.func 24) #[.pointer (some ⟨b12,0,none⟩),.pointer (some ⟨b10,0,none⟩),.pointer (some ⟨b8,0,none⟩),.pointer (some ⟨b9,0,none⟩)],args:= #[]}] .returning w4):
  Calls Tryz.prog 10 vs w R:=by
 refine calls_of_wp_defers (fn:=Tryz.f10) (c:=nd Tryz.f10 1) (by kernel_rfl) (by kernel_rfl) ?_;have hnt:Tryz.f10.ntmps=28:=by kernel_rfl
 rw[hnt]
 let E:Env 0:=⟨w,A,λ_=>none,λi b h=>(by cases h),hg⟩
 have hs0:=qVr (K:=kn E 28 0) (vs:=vs) ha (by kernel_rfl);have main:HW (kn E 28 0) ⟨OY 0 [.agg (PA a1),.one (ci a2),.one (ci a3),.one (ci a4)],[]⟩ (nd Tryz.f10 1) (bodyPostD Tryz.prog Tryz.f10 R):=by
  refine HW_q (q_vn [] 0 ⟨[(1,vi a2),(2,vi a3),(3,vi a4),(4,vp 0 0),(8,vp 1 0),(9,vp 2 0),(10,vp 3 0)],[(0,bx 25 (PA a1)),(1,bx 30 [.emp]),(2,bx 23 [.emp]),(3,bx 31 [ci 0])]⟩ ⟨rfl,?_⟩);refine HW_q (q_vu [qc 2 [13,14] 4 (CtX.noD rfl (qSV.at h6))] 4 [1,4] [(11,vp 6 0)] [0] [(4,ro 0 71 2 v5.Rings.length (rf zI v5.Rings)),(5,ro 0 87 7 v5.Defects.length (rf qP v5.Defects)),(6,bx 25 [.own 4 0 2 v5.Rings.length,.own 5 0 7 v5.Defects.length])] ⟨rfl,?_⟩)
  refine HW_q (q_vu [qd 3 (dpr [.frz 4,.frz 5] (dex (cen [] [] 7 0 (.tup [.one (.own 0 0 3 v7.1.length),.one (ci v7.2)]) [(0,ro 0 80 3 v7.1.length (rf qS v7.1))] [17,18,19] []))) (And.intro (And.intro (kq v5.Rings.length) (kq v5.Rings.length)) (And.intro (kq v5.Defects.length) (kq v5.Defects.length))),qd 3 (Dir.none) (callS (K:=(kn E 28 0)) ⟨[(17,va [tl zI daa v5.Rings,tl qP daa v5.Defects]),(18,vi a3),(19,vi a4)],[]⟩ (opAt (rg Tryz.f10 14) 3) [] [] 7 o0 rfl (CtX.noD rfl (qQp.at h8)) (.inl rfl) (by kernel_rfl))] 7 [2,3] [(12,vp 8 0)] [1,4,5,6] [(1,bx 30 [.own 7 0 3 v7.1.length]),(6,bx 25 [tl zI daa v5.Rings,tl qP daa v5.Defects]),(7,ro 0 80 3 v7.1.length (rf qS v7.1)),(8,bx 31 [ci v7.2])] ⟨rfl,?_⟩)
  intro M2 a2' w2 hs2;rw[show nd Tryz.f10 (2*7+1)= .seq (nd Tryz.f10 30) (nd Tryz.f10 31) by kernel_rfl];refine wpIn_seq ?_;rw[show nd Tryz.f10 30= .region (qQU (nd Tryz.f10 30)) (rg Tryz.f10 30) false by kernel_rfl];refine wpIn_region ?_;have hsz:(rg Tryz.f10 30).size=2:=by kernel_rfl
  rw[hsz];have oe0:(rg Tryz.f10 30)[0]? =some (opAt (rg Tryz.f10 30) 0):=PC (by omega);have oe1:(rg Tryz.f10 30)[1]? =some (opAt (rg Tryz.f10 30) 1):=PC (by omega);have g0:(opAt (rg Tryz.f10 30) 0).guard=none:=by kernel_rfl
  have g1:(opAt (rg Tryz.f10 30) 1).guard=none:=by kernel_rfl
  show wpOpsIn _ _ _ _ _ [0,1] _ _;simp only[wpOpsIn,oe0,oe1,Region.wanted,g0,g1,if_true];refine Oper.wp_any ?_ (λ_ _ _ hf=>hf.elim) (Step_pure2 (K:=kn E 28 0) (o:=opAt (rg Tryz.f10 30) 0) (y:= .v (.one (.fn 24 [.bptr 8 0 0,.bptr 3 0 0,.bptr 1 0 0,.bptr 2 0 0]))) (ob:=True) (by kernel_rfl) trivial M2 a2' w2 hs2.1 (λj k hj=>by cases hj));rintro a3 w3 ⟨fv,M3,rfl,hext,hfv,hobs,hver⟩;have hs3:=hs2.step (dst:=(opAt (rg Tryz.f10 30) 0).dst) hext hfv hobs hver rfl (qEB _) rfl (by
   have e:(opAt (rg Tryz.f10 30) 0).dst=some 23:=by kernel_rfl
   rw[e];intro d hd;cases hd;show 23<28;omega)
  have ed:(opAt (rg Tryz.f10 30) 0).dst=some 23:=by kernel_rfl
  rw[ed] at hs3⊢;clear hext hobs hver hs2;obtain⟨caps,rfl,hcs,hcr⟩:=hfv;have eo:(opAt (rg Tryz.f10 30) 1).op= .defer {callee:= .value (.tmp 23),args:= #[],argTypes:= #[]}:=by kernel_rfl
  have edd:(opAt (rg Tryz.f10 30) 1).dst=none:=by kernel_rfl
  have h23:(a2'.put (some 23) (.func (.func 24) #[] caps)).eval (.tmp 23)= .func (.func 24) #[] caps:=by
   have hz:23<a2'.tmps.size:=by
    have h1:(a2'.tmps.setIfInBounds 23 (.func (.func 24) #[] caps)).size=28:=hs3.1.size;rw[Array.size_setIfInBounds] at h1;omega
   show(a2'.tmps.setIfInBounds 23 _).getD 23 undef=_;rw[kw,Array.getElem?_setIfInBounds_self_of_lt hz];rfl
  have hdf:(a2'.put (some 23) (.func (.func 24) #[] caps)).defers=[]:=hs3.1.defers.2 rfl;generalize a2'.put (some 23) (.func (.func 24) #[] caps)=a3 at hs3 h23 hdf;have hop:(execOp a3.eval (opAt (rg Tryz.f10 30) 1)).run Tryz.prog w3= .ok (.defer {target:= .fn (.func 24) caps,args:= #[]}) w3:=by
   unfold execOp;rw[eo];simp[resolve,Deferred.ofValue,h23]
  refine⟨λ_ _=>trivial,?_⟩;show Oper.uponIn _ _ _ _ _ _ _ ((execOp a3.eval (opAt (rg Tryz.f10 30) 1)).run Tryz.prog w3);rw[hop];simp only[Oper.uponIn];rw[edd];have ea:({a3 with defers:={target:= .fn (.func 24) caps,args:= #[]}::a3.defers}:Act).put none undef=IR a3 [{target:= .fn (.func 24) caps,args:= #[]}]:=by
   unfold IR;rw[hdf];rfl
  rw[ea];show(nd Tryz.f10 31).wpIn _ _ _ _ _ _;rw[show nd Tryz.f10 31= .seq (nd Tryz.f10 62) (nd Tryz.f10 63) by kernel_rfl];refine wpIn_seq ?_;obtain⟨b8,h8v,h8b⟩:=qJw (w:=w3) (hs3.1.slots 8 (vp 1 0) rfl);obtain⟨b9,h9v,h9b⟩:=qJw (w:=w3) (hs3.1.slots 9 (vp 2 0) rfl);obtain⟨b10,h10v,h10b⟩:=qJw (w:=w3) (hs3.1.slots 10 (vp 3 0) rfl);obtain⟨b12,h12v,h12b⟩:=qJw (w:=w3) (hs3.1.slots 12 (vp 8 0) rfl);obtain⟨c12,k12,l12⟩:=qNK (w:=w3) (hcr 0 (by simp));obtain⟨c10,k10,l10⟩:=qNK (w:=w3) (hcr 1 (by simp));obtain⟨c8,k8,l8⟩:=qNK (w:=w3) (hcr 2 (by simp));obtain⟨c9,k9,l9⟩:=qNK (w:=w3) (hcr 3 (by simp))
  have v1:=(hs3.1.objs 1 0 _ rfl).ver;have v2:=(hs3.1.objs 2 0 _ rfl).ver;have v3:=(hs3.1.objs 3 0 _ rfl).ver;have v8:=(hs3.1.objs 8 0 _ rfl).ver;obtain rfl:c8=b8:=kQ ((l8 v1).symm.trans (h8b v1));obtain rfl:c9=b9:=kQ ((l9 v2).symm.trans (h9b v2));obtain rfl:c10=b10:=kQ ((l10 v3).symm.trans (h10b v3));obtain rfl:c12=b12:=kQ ((l12 v8).symm.trans (h12b v8));have ecap:caps= #[.pointer (some ⟨c12,0,none⟩),.pointer (some ⟨c10,0,none⟩),.pointer (some ⟨c8,0,none⟩),.pointer (some ⟨c9,0,none⟩)]:=by
   have hz:caps.size=4:=hcs;apply Array.ext
   ·simpa using hz
   ·intro i h1 h2;have hi:i<4:=by omega
    match i,hi with
    |0,_=>rw[kw,kE (by omega)] at k12;exact k12
    |1,_=>rw[kw,kE (by omega)] at k10;exact k10
    |2,_=>rw[kw,kE (by omega)] at k8;exact k8
    |3,_=>rw[kw,kE (by omega)] at k9;exact k9
  subst ecap;have hdst:((rg Tryz.f10 62).toList.all λo=>match o.dst with|none=>true|some d=>Nat.ble 13 d)=true:=by kernel_rfl
  let es:List (Ev (kn E 28 0) (rg Tryz.f10 62)):=[qc 3 [26] 9 (CtX.noD rfl (OV v5.Defects v9 h10))]
  refine wpIn_mono (R_drX Tryz.f10 62 (qQU (nd Tryz.f10 62)) (Ev.ds es) [.frz 7,.frz 9] [0,0,2,6,15,31,63] 9
   ⟨[(8,vp 1 0),(9,vp 2 0),(10,vp 3 0),(12,vp 8 0)],[(1,bx 30 [tl qS daa v7.1]),(2,bx 23 [tl qP daa v9]),(3,bx 31 [ci 0]),(8,bx 31 [ci v7.2])]⟩
   (qL1 (Ev.oP es) (o1 (And.intro (And.intro (kq v7.1.length) (And.intro (kq v7.1.length) (kq v7.1.length))) (And.intro (kq v9.length) (kq v9.length))))) (by kernel_rfl) (by kernel_rfl) hs3 _
   (λt=>t.getD 8 undef= .pointer (some ⟨c8,0,none⟩)/\t.getD 9 undef= .pointer (some ⟨c9,0,none⟩)/\t.getD 10 undef= .pointer (some ⟨c10,0,none⟩)/\t.getD 12 undef= .pointer (some ⟨c12,0,none⟩)) ⟨h8v,h9v,h10v,h12v⟩ ?_) ?_
  ·intro i o ho a v hj;have hd:=kB.1 hdst o (Array.mem_toList_iff.2 (dG ho));cases hod:o.dst with
   |none=>exact hj
   |some q=>
    rw[hod] at hd;have hq:=kW hd;have ne:∀k,k<13->(a.put (some q) v).tmps.getD k undef=a.tmps.getD k undef:=λk hk=>by
     show(a.tmps.setIfInBounds q v).getD k undef=_;rw[kw,dA (by omega),<-kw]
    rw[ne 8 (by omega),ne 9 (by omega),ne 10 (by omega),ne 12 (by omega)];exact hj
  ·rintro e a' w4 ⟨rfl,a1',M1,rfl,hs4,j8,j9,j10,j12⟩;show(nd Tryz.f10 63).wpIn _ _ _ (bodyPostD Tryz.prog Tryz.f10 R) _ w4;rw[show nd Tryz.f10 63= .ret by kernel_rfl];refine wpIn_ret ?_;show Leaves Tryz.prog Tryz.f10 a1'.tmps R (a1'.defers++_) .returning w4;rw[show a1'.defers=[] from hs4.1.defers.2 rfl,uj];have ob1:=hs4.1.objs 1 0 _ rfl;have ob2:=hs4.1.objs 2 0 _ rfl;have ob3:=hs4.1.objs 3 0 _ rfl;have ob8:=hs4.1.objs 8 0 _ rfl
   have blk:∀(s id b:Nat),look s [(8,vp 1 0),(9,vp 2 0),(10,vp 3 0),(12,vp 8 0)]=some (vp id 0)->a1'.tmps.getD s undef= .pointer (some ⟨b,0,none⟩)->M1.ver id=some 0->M1.blk id=some b:=λs id b hl hj hv=>by
    obtain⟨b',e1,e2⟩:=qJw (w:=w4) (hs4.1.slots s (vp id 0) hl);rw[hj] at e1;cases e1;exact e2 hv
   have k1:=blk 8 1 c8 rfl j8 ob1.ver;have k2:=blk 9 2 c9 rfl j9 ob2.ver;have k3:=blk 10 3 c10 rfl j10 ob3.ver;have k8:=blk 12 8 c12 rfl j12 ob8.ver;obtain⟨x8,m8,r8⟩:=qNB ob1 k1;obtain⟨x9,m9,r9⟩:=qNB ob2 k2;obtain⟨x10,m10,r10⟩:=qNB ob3 k3;obtain⟨x12,m12,r12⟩:=qNB ob8 k8;obtain rfl:x10= .int .i64 0:=IRep.val_eq r10;obtain rfl:x12= .int .i64 v7.2:=IRep.val_eq r12;have lo:∀(id b:Nat),M1.ver id=some 0->M1.blk id=some b->w.heap.size<=b:=λid b hv hb=>by
    rcases(hs4.1.rng id 0 b hv hb).1 with h|h
    ·exact h
    ·cases h
   have ne:∀(i j b c:Nat),i≠j->M1.ver i=some 0->M1.ver j=some 0->M1.blk i=some b->M1.blk j=some c->b≠c:=λi j b c hij hi hj hb hc e=>by
    subst e;exact hij (hs4.1.inj i j 0 0 b hi hj hb hc)
   exact key M1 w4 c8 c9 c10 c12 x8 x9 (hs4.1.below.below (λb hb=>by
    obtain⟨i,hi⟩:=hb;cases hi)) hs4.1.area ⟨lo 1 c8 ob1.ver k1,lo 2 c9 ob2.ver k2,lo 3 c10 ob3.ver k3⟩
    ⟨ne 8 3 _ _ (by decide) ob8.ver ob3.ver k8 k3,ne 8 1 _ _ (by decide) ob8.ver ob1.ver k8 k1,ne 8 2 _ _ (by decide) ob8.ver ob2.ver k8 k2,ne 3 1 _ _ (by decide) ob3.ver ob1.ver k3 k1,ne 3 2 _ _ (by decide) ob3.ver ob2.ver k3 k2,ne 1 2 _ _ (by decide) ob1.ver ob2.ver k1 k2⟩
    ⟨⟨1,0,ob1.ver,k1⟩,⟨2,0,ob2.ver,k2⟩,⟨3,0,ob3.ver,k3⟩⟩ m8 m9 m10 m12 r8 r9 a1'.tmps j8 j9 j10
 have hw:=main _ _ _ hs0;exact wpIn_wide.1 hw
end Saw
end Go.SL

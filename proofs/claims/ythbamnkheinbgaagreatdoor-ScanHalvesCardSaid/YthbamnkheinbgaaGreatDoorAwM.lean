import Derived.Test.YthbamnkheinbgaaGreatDoorSqW3
import Derived.Test.YthbamnkheinbgaaGreatDoorSFa5
import Derived.Test.YthbamnkheinbgaaGreatDoorSFa6
import Derived.Test.YthbamnkheinbgaaGreatDoorSFa7
import Derived.Test.YthbamnkheinbgaaGreatDoorSFa2
set_option linter.unusedVariables false
set_option linter.unusedSimpArgs false
namespace Go.SL
namespace Saw
open Go.Proofs Go.RowKit
set_option maxHeartbeats 4000000
theorem EX {A:Nat->Prop} {b:Nat}:(Mem.of A).imm b↔A b:=⟨λh=>h.1,λh=>⟨h,fun⟨i,k,hv,_⟩=>(by cases hv)⟩⟩
theorem rdRep {w:World} {ok:Nat->Prop} {b c:Nat} {a:Array Value} {L:List qD} (hL:L.length=8) (hh:w.heap[b]? =some (.cells a 73 (0,0))) (hs:a.size=c*3) (hk:8<=c/\c<=maxLen)
  (hi:∀i j,i<8->j<3->IRep w (λ_=>True) ((qH (L.getD i dd)).getD j .unk) (a.getD (i*3+j) undef)) (hb:ok b):IRep w ok (tl qH dd L) (.slice (some ⟨b,0,none⟩) 8 c):=by
 unfold tl;rw[hL];refine .lst b 0 8 c 3 _ (λi j=>a.getD (i*3+j) undef) hk.1 hk.2 (λi _=>rfl) (λ_ _ _ _=>hb) (λi j hi' hj=>?_) (λi j hi' hj=>SH hj (hi i j hi' hj));have hlt:i*3+j<a.size:=by omega
 simp only[World.cell?,hh,kz];rw[kv hlt,kq,kv hlt];rfl
structure ScM (w:World) (bR cR b0 c0 b1 c1:Nat) (aR a0 a1:Array Value) (L:List qD):Prop where
 kR:2<=cR/\cR<=maxLen
 hR:w.heap[bR]? =some (.cells aR 45 (0,0))
 sR:4<=aR.size
 r0:aR.getD 0 undef= .int .i64 0
 r1:aR.getD 1 undef= .slice (some ⟨b0,0,none⟩) 8 c0
 r2:aR.getD 2 undef= .int .i64 1000
 r3:aR.getD 3 undef= .slice (some ⟨b1,0,none⟩) 8 c1
 h0:w.heap[b0]? =some (.cells a0 73 (0,0))
 h1:w.heap[b1]? =some (.cells a1 73 (0,0))
 k0:8<=c0/\c0<=maxLen
 k1:8<=c1/\c1<=maxLen
 s0:a0.size=c0*3
 s1:a1.size=c1*3
 i0:∀i j,i<8->j<3->IRep w (λ_=>True) ((qH (L.getD i dd)).getD j .unk) (a0.getD (i*3+j) undef)
 i1:∀i j,i<8->j<3->IRep w (λ_=>True) ((qH (awL.getD i dd)).getD j .unk) (a1.getD (i*3+j) undef)
theorem ScM.move {w w':World} {bR cR b0 c0 b1 c1:Nat} {aR a0 a1:Array Value} {L:List qD} (h:ScM w bR cR b0 c0 b1 c1 aR a0 a1 L) (hb:∀b,b<w.heap.size->w'.heap[b]? =w.heap[b]?):ScM w' bR cR b0 c0 b1 c1 aR a0 a1 L:=
 ⟨h.kR,by rw[hb _ (kC.1 h.hR).1];exact h.hR,h.sR,h.r0,h.r1,h.r2,h.r3,by rw[hb _ (kC.1 h.h0).1];exact h.h0,by rw[hb _ (kC.1 h.h1).1];exact h.h1,h.k0,h.k1,h.s0,h.s1,λi j hi hj=>SH hj (h.i0 i j hi hj),λi j hi hj=>SH hj (h.i1 i j hi hj)⟩
theorem ScM.rep {w:World} {bR cR b0 c0 b1 c1:Nat} {aR a0 a1:Array Value} {L:List qD} (h:ScM w bR cR b0 c0 b1 c1 aR a0 a1 L) (hL:L.length=8) {A:Nat->Prop} (hA:A bR/\A b0/\A b1) (ad:Option Addr):
  qQ w (Mem.of A) (.agg (qX (awS L))) (.agg #[.slice (some ⟨bR,0,none⟩) 2 cR,.slice ad 0 0]):=by
 have cl:∀q,q<4->w.cell? ⟨bR,q,none⟩=some (aR.getD q undef):=λq hq=>by
  have hlt:q<aR.size:=by have:=h.sR;omega
  simp only[World.cell?,h.hR];rw[kv hlt,kq,kv hlt];rfl
 refine⟨_,rfl,rfl,λj hj=>?_⟩
 match j,hj with
 |0,_=>
  show IRep w (Mem.of A).imm (.lst 2 (rf qM [⟨0,L⟩,⟨1000,awL⟩])) (.slice (some ⟨bR,0,none⟩) 2 cR);refine .lst bR 0 2 cR 2 _ (λi j=>aR.getD (i*2+j) undef) h.kR.1 h.kR.2 (λi _=>rfl) (λ_ _ _ _=>EX.2 hA.1) (λi j hi hj=>by rw[kz];exact cl _ (by omega)) (λi j hi hj=>?_)
  match i,hi,j,hj with
  |0,_,0,_=>show IRep w _ (ci 0) (aR.getD 0 undef);rw[h.r0];exact .val _ rfl
  |0,_,1,_=>show IRep w _ (tl qH dd L) (aR.getD 1 undef);rw[h.r1];exact rdRep hL h.h0 h.s0 h.k0 h.i0 (EX.2 hA.2.1)
  |1,_,0,_=>show IRep w _ (ci 1000) (aR.getD 2 undef);rw[h.r2];exact .val _ rfl
  |1,_,1,_=>show IRep w _ (tl qH dd awL) (aR.getD 3 undef);rw[h.r3];exact rdRep rfl h.h1 h.s1 h.k1 h.i1 (EX.2 hA.2.2)
 |1,_=>exact IRep.lst0 ad _
theorem qJF {w w':World} {A:Nat->Prop} {M':Mem} {x:V} {ob:List (Nat×(Nat×O))} {v0:Value} (hr:qFv w w' (Mem.of A) M' 0 x ob v0) {i e sz n:Nat} {f:Nat->List C} {v:Value} (hl:look i ob=some (0,.row e sz n f)) (hc:CRep w' M' (.own i 0 sz n) v):
  IRep w' (λb=>A b\/w.heap.size<=b) (.lst n f) v/\(0<n->∃b cap arr,v= .slice (some ⟨b,0,none⟩) n cap/\w.heap.size<=b/\w'.heap[b]? =some (.cells arr e (0,0))/\n*sz<=arr.size/\n<=cap/\∀i j,i<n->j<sz->IRep w' (λb=>A b\/w.heap.size<=b) ((f i).getD j .unk) (arr.getD (i*sz+j) undef)):=by
 obtain⟨hv,hrow⟩:=hr.objs i 0 _ hl;have sub:∀{c:C} {u:Value},IRep w' M'.imm c u->IRep w' (λb=>A b\/w.heap.size<=b) c u:=λh=>h.move (λ_ _ _=>rfl) λb hb _=>(hr.area b).1 hb.1;rcases hc with⟨rfl,a,rfl⟩|⟨b,cap,rfl,h1,h2,hx⟩
 ·exact⟨.lst0 _ _,λh=>absurd h (Nat.lt_irrefl _)⟩
 obtain⟨hb,arr,e',hh,hs⟩:=hx hv;rcases hrow with⟨hn,h0⟩|⟨b',arr',hb',hh',hns,hcr⟩
 ·rw[hb] at hn;cases hn
 have:b'=b:=kK (hb'.symm.trans hb);subst this;rw[hh] at hh';cases hh';have hge:w.heap.size<=b':=by
  rcases(hr.rng i 0 b' hv hb).1 with h|⟨⟨k,h⟩,_⟩
  ·exact h
  ·cases h
 refine⟨?_,λ_=>⟨b',cap,arr,rfl,hge,hh,hns,h1,λi j hi hj=>sub ((hcr i hi).2 j hj)⟩⟩;refine .lst b' 0 n cap sz f (λi j=>arr.getD (i*sz+j) undef) h1 h2 (λi hi=>(hcr i hi).1) (λ_ _ _ _=> .inr hge) (λi j hi hj=>?_) (λi j hi hj=>sub ((hcr i hi).2 j hj));have hlt:i*sz+j<arr.size:=kH (JI hi hj) hns;simp only[World.cell?,hh,kz];rw[kv hlt,kq,kv hlt];rfl
end Saw
end Go.SL

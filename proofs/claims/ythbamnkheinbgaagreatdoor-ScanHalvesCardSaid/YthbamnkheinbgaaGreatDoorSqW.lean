import Derived.Test.YthbamnkheinbgaaGreatDoorSBase
import Derived.Test.YthbamnkheinbgaaGreatDoorYa6
set_option linter.unusedVariables false
set_option linter.unusedSimpArgs false
namespace Go.SL
namespace Saw
open Go.Proofs Go.RowKit
set_option maxHeartbeats 4000000
section
variable {w :World} {M M':Mem} (hv:∀i k,M'.ver i=some k->M.ver i=some k) (hb:∀i,M'.blk i=M.blk i) (hi:∀b,M.imm b->b<w.heap.size->M'.imm b)
include hi
theorem SN {c:C} {v:Value} (h:IRep w M.imm c v):IRep w M'.imm c v:=h.move (λ_ _ _=>rfl) hi
include hv hb
theorem qMI {c:C} {v:Value} (h:jA w M c v):jA w M' c v:=by
 cases c with
 |bptr id k j=>obtain⟨b,h1,hx⟩:=h;exact⟨b,h1,λq=>by rw[hb];exact hx (hv _ _ q)⟩
 |_=>exact SN hi h
theorem qFq {c:C} {v:Value} (h:CRep w M c v):CRep w M' c v:=by
 cases c with
 |own id k sz len=>
  rcases h with h0|⟨b,cap,h1,h2,h3,hx⟩
  ·exact .inl h0
  ·exact .inr ⟨b,cap,h1,h2,h3,λq=>by rw[hb];exact hx (hv _ _ q)⟩
 |sub id k sz off len=>
  rcases h with h0|⟨b,cap,h1,h2,h3,hx⟩
  ·exact .inl h0
  ·exact .inr ⟨b,cap,h1,h2,h3,λq=>by rw[hb];exact hx (hv _ _ q)⟩
 |bptr id k j=>obtain⟨b,h1,hx⟩:=h;exact⟨b,h1,λq=>by rw[hb];exact hx (hv _ _ q)⟩
 |rptr id k sz i j=>obtain⟨b,h1,hx⟩:=h;exact⟨b,h1,λq=>by rw[hb];exact hx (hv _ _ q)⟩
 |fn g caps=>obtain⟨vs,h1,h2,h3⟩:=h;exact⟨vs,h1,h2,λj hj=>qMI hv hb hi (h3 j hj)⟩
 |yl R b ts caps=>exact⟨h.1,λj hj=>qMI hv hb hi (h.2 j hj)⟩
 |unk=>exact h
 |val v=>exact SN hi h
 |emp=>exact SN hi h
 |lst n f=>exact SN hi h
 |lptr cs=>exact SN hi h
 |aptr n sz f=>exact SN hi h
theorem qOz {x:V1} {v:Value} (h:qQ w M x v):qQ w M' x v:=by
 cases x with
 |one c=>exact qFq hv hb hi h
 |agg cs=>obtain⟨vs,h1,h2,h3⟩:=h;exact⟨vs,h1,h2,λj hj=>qFq hv hb hi (h3 j hj)⟩
theorem v_less {x:V} {v:Value} (h:VRep w M x v):VRep w M' x v:=by
 cases x with
 |any=>trivial
 |undef=>exact h
 |v x=>exact qOz hv hb hi h
 |tup xs=>obtain⟨vs,h1,h2,h3⟩:=h;exact⟨vs,h1,h2,λj hj=>qOz hv hb hi (h3 j hj)⟩
theorem o_less {i k:Nat} {o:O} (hk:M'.ver i=some k) (h:ORep w M i k o):ORep w M' i k o:=by
 cases o with
 |box e cs=>obtain⟨_,b,arr,h1,h2,h3,h4⟩:=h;exact⟨hk,b,arr,by rw[hb];exact h1,h2,h3,λj hj=>qFq hv hb hi (h4 j hj)⟩
 |row e sz n f=>
  refine⟨hk,?_⟩;rcases h.2 with⟨h0,h1⟩|⟨b,arr,h1,h2,h3,h4⟩
  ·exact .inl ⟨by rw[hb];exact h0,h1⟩
  ·exact .inr ⟨b,arr,by rw[hb];exact h1,h2,h3,λi hi'=>⟨(h4 i hi').1,λj hj=>SN hi ((h4 i hi').2 j hj)⟩⟩
 |lp R b s j=>exact⟨hk,by rw[hb];exact h.2.1,h.2.2⟩
end
structure SqF {n:Nat} (E:Env n) (E':Env 16) (b cap:Nat) (L:List qD):Prop where
 below:KT false (λc=>∃i,E.In i=some c) E.w E'.w
 inn:∀i c,E'.In i=some c->E.w.heap.size<=c\/E.In i=some c
 in6:E'.In 6=none
 new:E.w.heap.size<=b
 lt:b<E'.w.heap.size
 out:∀i,E'.In i≠some b
 blk:∃arr,E'.w.heap[b]? =some (.cells arr 73 (0,0))/\arr.size=cap*3/\∀i j,i<L.length->j<3->IRep E'.w (λ_=>True) ((qH (L.getD i dd)).getD j .unk) (arr.getD (i*3+j) undef)
 cap:L.length<=cap/\cap<=maxLen
def sqM (M:Mem) (w:World):Mem:={ver:=λi=>if i=6 then none else M.ver i,blk:=M.blk,A:=λc=>(M.imm c/\c<w.heap.size)\/w.heap.size<=c}
theorem qQ6 {n:Nat} (E:Env n) (h6:E.In 6=none) {st:St} (z:Int) (L:List qD) (hL:L.length≠0) (h5:look 5 st.objs=some (0,.box 45 [ci z,.own 6 0 3 L.length])) (hr6:look 6 st.objs=some (0,.row 73 3 L.length (rf qH L)))
  (hid:st.objs.all (λp=>Nat.blt p.1 16)=true) (S:Value->St) (hS1:∀v,(S v).slots=st.slots)
  (hS2:∀v i p,look i (S v).objs=some p->(i=5/\p=(0,.box 45 [ci z,.val v]))\/(i≠5/\i≠6/\look i st.objs=some p)) (hS3:∀v i,i≠6->(look i st.objs).isSome=true->(look i (S v).objs).isSome=true)
  {c:Code} {R:Exit->Act->World->Prop} (h:∀(E':Env 16) (b cap:Nat),SqF E E' b cap L->HW (kn E' 44 0) (S (.slice (some ⟨b,0,none⟩) L.length cap)) c R):HW (kn E 44 0) st c R:=by
 intro M a w hs;obtain⟨hs0,hs1⟩:=hs;obtain⟨v5,b5,arr5,hb5,hh5,hc5⟩:=hs0.objs 5 _ _ h5;obtain⟨v6,hr⟩:=hs0.objs 6 _ _ hr6;have hcell:=hc5.2 1 (by simp);rcases hcell with⟨h0,_⟩|⟨b,cap,hval,hlc,hcm,hx⟩
 ·exact absurd h0 hL
 obtain⟨hb6,arr,e6,hh6,hsz6⟩:=hx v6;rcases hr with⟨hn,_⟩|⟨b',arr',hb',hh',hns,hcr⟩
 ·rw[hb6] at hn;cases hn
 have:b'=b:=kK (hb'.symm.trans hb6);subst this;rw[hh6] at hh';cases hh';have hown:∀i c,(if i=6 then none else if M.ver i=none then none else M.blk i)=some c->i≠6/\(∃k,M.ver i=some k)/\M.blk i=some c:=λi c hi=>by
  split at hi
  ·cases hi
  ·rename_i h1;split at hi
   ·cases hi
   ·rename_i h2;exact⟨h1,uq.1 h2,hi⟩
 have hI:∀i c,(if i=6 then none else if M.ver i=none then none else M.blk i)=some c->i<16/\c<w.heap.size/\¬(M.imm c/\c<w.heap.size):=λi c hi=>by
  obtain⟨h1,⟨k,hk⟩,h3⟩:=hown i c hi;refine⟨?_,(hs0.rng i k c hk h3).2,λhA=>hA.1.2 ⟨i,k,hk,h3⟩⟩;have:=hs1 i (by rw[hk];simp);obtain⟨p,hp⟩:=ue.1 this;have:=kw.1 hid _ (look_mem hp);simpa[kS] using this
 have hG:zR globs w (λc=>M.imm c/\c<w.heap.size):=λg c hgc=>by
  have:look g (kn E 44 0).globs=some c:=by
   show look g (markN::globs)=some c;unfold markN;rw[look_cons];split
   ·rename_i he;rw[<-he,show look 1000001 globs=none from rfl] at hgc;cases hgc
   ·exact hgc
  exact(hs0.globR this).move (λ_ _ _=>rfl) λb hb hlt=>⟨hb,hlt⟩
 let E':Env 16:=⟨w,λc=>M.imm c/\c<w.heap.size,λi=>if i=6 then none else if M.ver i=none then none else M.blk i,hI,hG⟩
 have F:SqF E E' b' cap L:=⟨⟨hs0.below.os,hs0.below.tape,hs0.below.output,hs0.below.size,hs0.below.block,λq=>by cases q⟩,λi c hi=>by
   obtain⟨h1,⟨k,hk⟩,h3⟩:=hown i c hi;exact(hs0.rng i k c hk h3).1,rfl,?_,(hs0.rng 6 0 b' v6 hb6).2,λi hi=>by
   obtain⟨h1,⟨k,hk⟩,h3⟩:=hown i b' hi;exact h1 (hs0.inj i 6 k 0 b' hk v6 h3 hb6),⟨arr,hh6,hsz6,λi j hi hj=>((hcr i hi).2 j hj).move (λ_ _ _=>rfl) λ_ _ _=>trivial⟩,hlc,hcm⟩
 ·have hv:∀i k,(if i=6 then none else M.ver i)=some k->i≠6/\M.ver i=some k:=λi k hi=>by
   split at hi
   ·cases hi
   ·rename_i h1;exact⟨h1,hi⟩
  refine h E' b' cap F (sqM M w) a w ?_;have himm:∀c,M.imm c->c<w.heap.size->(sqM M w).imm c:=λc hc hlt=>⟨.inl ⟨hc,hlt⟩,fun⟨i,k,h1,h2⟩=>hc.2 ⟨i,k,(hv i k h1).2,h2⟩⟩
  have hd:a.defers=[]:=hs0.defers.2 rfl;refine⟨⟨λi j k l c hi hj hbi hbj=>hs0.inj i j k l c (hv i k hi).2 (hv j l hj).2 hbi hbj,λi k c hi hbi=>⟨.inr ?_,(hs0.rng i k c (hv i k hi).2 hbi).2⟩,λi k hi=>absurd hi (uM _),KT.refl _ _,VQ.refl _,λ_=>Iff.rfl,hs0.size,by rw[hd];exact EE.nil,λs x hx=>?_,λi k o ho=>?_⟩,λi hi=>?_⟩
  ·show(if i=6 then none else if M.ver i=none then none else M.blk i)=some c;rw[if_neg (hv i k hi).1,if_neg (by rw[(hv i k hi).2];simp)];exact hbi
  ·rw[hS1] at hx;exact v_less (M':=sqM M w) (λi k hi=>(hv i k hi).2) (λ_=>rfl) himm (hs0.slots s x hx)
  ·rcases hS2 _ i _ ho with⟨rfl,hp⟩|⟨h51,h61,hl⟩
   ·cases hp;refine⟨v5,b5,arr5,hb5,hh5,hc5.1,λj hj=>?_⟩
    match j,hj with
    |0,_=>exact qFq (M':=sqM M w) (λi k hi=>(hv i k hi).2) (λ_=>rfl) himm (hc5.2 0 (by simp))
    |1,_=>
     show IRep _ _ (.val _) _;rw[hval];exact .val _ rfl
   ·exact o_less (M':=sqM M w) (λi k hi=>(hv i k hi).2) (λ_=>rfl) himm (by show(if i=6 then none else M.ver i)=some k;rw[if_neg h61];exact(hs0.objs i k o hl).ver) (hs0.objs i k o hl)
  ·have hi':(if i=6 then none else M.ver i)≠none:=hi;split at hi'
   ·exact absurd rfl hi'
   ·rename_i h61;exact hS3 _ i h61 (hs1 i hi')
 ·rcases(hs0.rng 6 0 b' v6 hb6).1 with h1|h1
  ·exact h1
  ·have:E.In 6=some b':=h1;rw[h6] at this;cases this
end Saw
end Go.SL

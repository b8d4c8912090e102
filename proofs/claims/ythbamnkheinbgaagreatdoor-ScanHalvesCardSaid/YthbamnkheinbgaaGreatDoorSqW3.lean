import Derived.Test.YthbamnkheinbgaaGreatDoorSqW2
import Derived.Test.YthbamnkheinbgaaGreatDoorAwEv
set_option linter.unusedVariables false
set_option linter.unusedSimpArgs false
namespace Go.SL
namespace Saw
open Go.Proofs Go.RowKit
set_option maxHeartbeats 4000000
set_option maxRecDepth 100000
def sqL :List qD:=awL
theorem SH {w w':World} {ok ok':Nat->Prop} {r:qD} {j:Nat} (hj:j<3) {v:Value} (h:IRep w ok ((qH r).getD j .unk) v):IRep w' ok' ((qH r).getD j .unk) v:=by
 match j,hj with
 |0,_=>have:=IRep.val_eq h;subst this;exact .val _ rfl
 |1,_=>have:=IRep.val_eq h;subst this;exact .val _ rfl
 |2,_=>have:=IRep.val_eq h;subst this;exact .val _ rfl
theorem fuel9 :∃n,FUEL=n+9:=⟨FUEL-9,by unfold FUEL;rfl⟩
theorem qPm :TS FUEL 0 ([]:List qD)=some sqL:=by
 obtain⟨n,hn⟩:=fuel9;rw[hn];rfl
structure SqOut (w w':World) (v:Value) (bR cR b0 c0 b1 c1:Nat) (ad:Option Addr) (aR a0 a1:Array Value):Prop where
 below:Below w.heap.size w w'
 val:v= .agg #[.slice (some ⟨bR,0,none⟩) 2 cR,.slice ad 0 0]
 kR:2<=cR/\cR<=maxLen
 hR:w'.heap[bR]? =some (.cells aR 45 (0,0))
 sR:4<=aR.size
 r0:aR.getD 0 undef= .int .i64 0
 r1:aR.getD 1 undef= .slice (some ⟨b0,0,none⟩) 8 c0
 r2:aR.getD 2 undef= .int .i64 1000
 r3:aR.getD 3 undef= .slice (some ⟨b1,0,none⟩) 8 c1
 h0:w'.heap[b0]? =some (.cells a0 73 (0,0))
 h1:w'.heap[b1]? =some (.cells a1 73 (0,0))
 k0:8<=c0/\c0<=maxLen
 k1:8<=c1/\c1<=maxLen
 s0:a0.size=c0*3
 s1:a1.size=c1*3
 i0:∀i j,i<8->j<3->IRep w' (λ_=>True) ((qH (sqL.getD i dd)).getD j .unk) (a0.getD (i*3+j) undef)
 i1:∀i j,i<8->j<3->IRep w' (λ_=>True) ((qH (sqL.getD i dd)).getD j .unk) (a1.getD (i*3+j) undef)
 n01:b0≠b1
 nR0:bR≠b0
 nR1:bR≠b1
 g0:w.heap.size<=b0
 g1:w.heap.size<=b1
 gR:w.heap.size<=bR
def qK6 (b0 c0 b1 c1:Nat):St:=(sqS 2 ([⟨0,.slice (some ⟨b0,0,none⟩) 8 c0⟩,⟨1000,.slice (some ⟨b1,0,none⟩) 8 c1⟩]:List RV) 2).up [3] [] [0] [(0,bx 25 [.own 4 0 2 2,.emp])]
def sqE (w:World) (A:Nat->Prop) (hg:zR globs w A):Env 0:=⟨w,A,λ_=>none,λ_ _ h=>(by cases h),hg⟩
theorem sq_run (w:World) (A:Nat->Prop) (hg:zR globs w A):Calls Tryz.prog 42 #[] w λe w'=>∃v bR cR b0 c0 b1 c1 ad aR a0 a1,e= .returned v/\SqOut w w' v bR cR b0 c0 b1 c1 ad aR a0 a1:=by
 have hf:Tryz.prog.funcs[42]? =some Tryz.f42:=by kernel_rfl
 have hb:Tryz.f42.body=some (nd Tryz.f42 1):=by kernel_rfl
 -- behind both rings
 let R:Exit->Act->World->Prop:=λe a w'=>(e= .ret\/e= .normal)/\∃(E1 E2:Env 16) (b0 c0 b1 c1:Nat),SqF (sqE w A hg) E1 b0 c0 sqL/\SqF E1 E2 b1 c1 sqL/\∃M,Sim1 (kn E2 44 0) M (qK6 b0 c0 b1 c1) a w'
 have hW:HW (kn (sqE w A hg) 44 0) ⟨DE 0 [],[]⟩ (nd Tryz.f42 1) R:=by
  refine NY ?_;refine q_vn [] 0 ⟨[(0,vp 0 0)],[(0,bx 25 [.emp,.emp])]⟩ ⟨rfl,?_⟩;refine NY ?_;refine q_vu [qd 0 (drw 1 0 (rf qO ([(-50),0,50,50,50,0,(-50),(-50)]:List Int))) (litP qO dd 1 (λ_=>rfl) ([(-50),0,50,50,50,0,(-50),(-50)]:List Int) 8 rfl)] 1 [] [(1,vo 1 0 1 8)] [] [(1,ro 0 3 1 8 (rf qO ([(-50),0,50,50,50,0,(-50),(-50)]:List Int)))] ⟨rfl,?_⟩;refine NY ?_
  refine q_vu [qd 0 (drw 2 0 (rf qO ([(-20),(-20),(-20),0,20,20,20,0]:List Int))) (litP qO dd 1 (λ_=>rfl) ([(-20),(-20),(-20),0,20,20,20,0]:List Int) 8 rfl)] 2 [] [(2,vo 2 0 1 8)] [] [(2,ro 0 3 1 8 (rf qO ([(-20),(-20),(-20),0,20,20,20,0]:List Int)))] ⟨rfl,?_⟩;refine NY ?_;refine q_vu [] 3 [] [(3,vp 3 0)] [] [(3,bx 25 [.emp,.emp])] ⟨rfl,?_⟩;refine qP5 (R':=λe a w'=>e= .normal/\∃(E1 E2:Env 16) (b0 c0 b1 c1:Nat),SqF (sqE w A hg) E1 b0 c0 sqL/\SqF E1 E2 b1 c1 sqL/\∃M,Sim1 (kn E2 44 0) M (sqS 2 ([⟨0,.slice (some ⟨b0,0,none⟩) 8 c0⟩,⟨1000,.slice (some ⟨b1,0,none⟩) 8 c1⟩]:List RV) 2) a w') ?_ ?_
  ·refine NY ?_;refine q_fu [.ownB 3 0 4 45 2 (rf e_RV ([]:List RV))] [] [] [3] [(3,bx 25 [.own 4 0 2 0,.emp]),(4,ro 0 45 2 0 (rf e_RV ([]:List RV)))] o0 ?_;refine q_vu [] 5 [] [(4,vi 0)] [] [] ⟨rfl,?_⟩;refine HW_sub (sqS 0 ([]:List RV) 0) ?_ (by kernel_rfl) (by kernel_rfl);have hc:nd Tryz.f42 125= .block 0 (.loop (nd Tryz.f42 500)):=by kernel_rfl
   show HW _ _ (nd Tryz.f42 125) _;rw[hc];refine qMG (R':=λe a w'=>e= .exit 0/\∃(E1 E2:Env 16) (b0 c0 b1 c1:Nat),SqF (sqE w A hg) E1 b0 c0 sqL/\SqF E1 E2 b1 c1 sqL/\∃M,Sim1 (kn E2 44 0) M (sqS 2 ([⟨0,.slice (some ⟨b0,0,none⟩) 8 c0⟩,⟨1000,.slice (some ⟨b1,0,none⟩) 8 c1⟩]:List RV) 2) a w') (HW_loop 3 ?_) ?_
   ·refine qJf (qLk (sqE w A hg) rfl 0 rfl ([]:List RV) sqL qPm (by decide) (by decide)) (λa w1 ⟨_,E1,b0,c0,F1,M1,hs1⟩=>?_) (λe a w' hne h=>absurd h.1 hne);refine(qJf (qLk E1 F1.in6 1 rfl ([⟨0,.slice (some ⟨b0,0,none⟩) 8 c0⟩]:List RV) sqL qPm (by decide) (show room (1+1) 32=true by decide)) (λa w1 ⟨_,E2,b1,c1,F2,M2,hs2⟩=>?_) (λe a w' hne h=>absurd h.1 hne)) M1 a w1 hs1
    refine(qJf (R':=λe a w'=>e= .exit 0/\∃M,Sim1 (kn E2 44 0) M (sqS 2 ([⟨0,.slice (some ⟨b0,0,none⟩) 8 c0⟩,⟨1000,.slice (some ⟨b1,0,none⟩) 8 c1⟩]:List RV) 2) a w') (HW_H (Q:=λe st'=>e= .exit 0/\Sub (sqS 2 ([⟨0,.slice (some ⟨b0,0,none⟩) 8 c0⟩,⟨1000,.slice (some ⟨b1,0,none⟩) 8 c1⟩]:List RV) 2) st'.rev) ?_ (λe a w' M st' hq hs=>⟨hq.1,_,hs.rev.sub hq.2⟩)) (λa w' h=>absurd h.1 (by simp)) (λe a w' _ h=>⟨h.1,E1,E2,b0,c0,b1,c1,F1,F2,h.2⟩)) M2 a w1 hs2;refine q_sq ?_;refine s_vu [] 5 [] [(10,vb (decide ((2:Int)<2)))] [] [] ?_
    refine q_cn (decide ((2:Int)<2)) (λh=>absurd h (by decide)) (λ_=>?_);exact q_ex 0 ⟨rfl,by kernel_rfl,by kernel_rfl⟩
   ·rintro e a w' ⟨rfl,h⟩;simp only[Exit.inBlock];exact⟨trivial,h⟩
  ·rintro e a w' ⟨rfl,E1,E2,b0,c0,b1,c1,F1,F2,M,hs⟩;refine⟨rfl,(HW_H (K:=kn E2 44 0) (st:=sqS 2 ([⟨0,.slice (some ⟨b0,0,none⟩) 8 c0⟩,⟨1000,.slice (some ⟨b1,0,none⟩) 8 c1⟩]:List RV) 2) (Q:=λe st'=>e= .ret/\st'=qK6 b0 c0 b1 c1) ?_ (λe a w' M st' hq hs=>⟨.inl hq.1,E1,E2,b0,c0,b1,c1,F1,F2,M,by rw[<-hq.2];exact hs⟩)) M a w' hs⟩;refine s_vu [] 5 [3] [] [0] [(0,bx 25 [.own 4 0 2 2,.emp])] ?_;exact q_rt ⟨rfl,rfl⟩
 have hsim:Sim1 (kn (sqE w A hg) 44 0) ⟨λ_=>none,λ_=>none,λb=>A b\/w.heap.size<=b⟩ ⟨DE 0 [],[]⟩ ⟨#[]++Array.replicate (44-0) undef,[]⟩ w:=
  ⟨⟨λi j k l b h=>(by cases h),λi k b h=>(by cases h),λi k h=>(by cases h),KT.refl _ _,VQ.refl _,λb=>Iff.rfl,by simp[kn],EE.nil,λs x hx=>(by cases hx),λi k o ho=>(by cases ho)⟩,λi hi=>absurd rfl hi⟩
 refine callsIn_wide.1 (callsIn_of_wp_marks (n:=0) hf hb trivial (wpIn_mono (hW _ _ w hsim) ?_));rintro e a' w' ⟨he,E1,E2,b0,c0,b1,c1,F1,F2,M,hs⟩;have key:∀w2,Sim1 (kn E2 44 0) M (qK6 b0 c0 b1 c1) ⟨a'.tmps,[]⟩ w2->∃v,(results Tryz.f42 a'.tmps).run Tryz.prog w2= .ok v w2/\(∃v' bR cR b0 c0 b1 c1 ad aR a0 a1,Ending.returned v= .returned v'/\SqOut w w2 v' bR cR b0 c0 b1 c1 ad aR a0 a1):=by
  intro w2 h2;obtain⟨v,hv,hvr⟩:=qMx (fn:=Tryz.f42) (x:= .v (.agg [.own 4 0 2 2,.emp])) h2.1 (by kernel_rfl);obtain⟨vs,rfl,hsz,hcs⟩:=hvr;have c0':=hcs 0 (by simp);have c1':=hcs 1 (by simp);obtain⟨v4,hrow⟩:=h2.1.objs 4 _ _ (show look 4 (qK6 b0 c0 b1 c1).objs=some (0,.row 45 2 2 (rf e_RV ([⟨0,.slice (some ⟨b0,0,none⟩) 8 c0⟩,⟨1000,.slice (some ⟨b1,0,none⟩) 8 c1⟩]:List RV))) by kernel_rfl);rcases c0' with⟨h0,_⟩|⟨bR,cR,hval,hlc,hcm,hx⟩
  ·cases h0
  obtain⟨hb4,aR,e4,hh4,hsz4⟩:=hx v4;rcases hrow with⟨hn,_⟩|⟨b',arr',hb',hh',hns,hcr⟩
  ·rw[hb4] at hn;cases hn
  have:b'=bR:=kK (hb'.symm.trans hb4);subst this;rw[hh4] at hh';cases hh';have hemp:∃ad,vs.getD 1 undef= .slice ad 0 0:=by
   have c1'':IRep w2 M.imm .emp (vs.getD 1 undef):=c1';generalize vs.getD 1 undef=q at c1'';cases c1'' with
   |emp a=>exact⟨a,rfl⟩
  obtain⟨ad,had⟩:=hemp;obtain⟨a0,ha0,hs0,hi0⟩:=F1.blk;obtain⟨a1,ha1,hs1,hi1⟩:=F2.blk;have out0:∀i,E2.In i≠some b0:=λi hi=>by
   rcases F2.inn i b0 hi with h|h
   ·have:=F1.lt;omega
   ·exact F1.out i h
  have e01:E2.w.heap[b0]? =E1.w.heap[b0]? :=F2.below.block b0 F1.lt fun⟨i,hi⟩=>F1.out i hi;have l0:b0<E2.w.heap.size:=kH F1.lt F2.below.size;have m0:w2.heap[b0]? =E1.w.heap[b0]? :=(h2.1.below.block b0 l0 fun⟨i,hi⟩=>out0 i hi).trans e01;have m1:w2.heap[b1]? =E2.w.heap[b1]? :=h2.1.below.block b1 F2.lt fun⟨i,hi⟩=>F2.out i hi;have hw1:w.heap.size<=E1.w.heap.size:=F1.below.size;have hR:=h2.1.rng 4 0 b' v4 hb4;have below:Below w.heap.size w w2:=by
   have q1:=F1.below;have q2:=F2.below;have q3:=h2.1.below;refine⟨q3.os.trans (q2.os.trans q1.os),q3.tape.trans (q2.tape.trans q1.tape),q3.output.trans (q2.output.trans q1.output),ug q1.size (ug q2.size q3.size),λc hc=>?_⟩;have n1:∀i,E1.In i≠some c:=λi hi=>by
    rcases F1.inn i c hi with h|h
    ·exact absurd hc (by have:w.heap.size<=c:=h;omega)
    ·cases h
   have n2:∀i,E2.In i≠some c:=λi hi=>by
    rcases F2.inn i c hi with h|h
    ·omega
    ·exact n1 i h
   exact(q3.block c (kH hc (ug hw1 q2.size)) fun⟨i,hi⟩=>n2 i hi).trans ((q2.block c (kH hc hw1) fun⟨i,hi⟩=>n1 i hi).trans (q1.block c hc fun⟨i,hi⟩=>by cases hi))
  have nb1:b'≠b1:=λh=>by
   subst h;rcases hR.1 with h|h
   ·have:=F2.lt;have:E2.w.heap.size<=b':=h;omega
   ·exact F2.out 4 h
  have nb0:b'≠b0:=λh=>by
   subst h;rcases hR.1 with h|h
   ·have:E2.w.heap.size<=b':=h;omega
   ·exact out0 4 h
  have cell:∀i j,i<2->j<2->IRep w2 M.imm ((rf e_RV ([⟨0,.slice (some ⟨b0,0,none⟩) 8 c0⟩,⟨1000,.slice (some ⟨b1,0,none⟩) 8 c1⟩]:List RV) i).getD j .unk) (aR.getD (i*2+j) undef):=λi j hi hj=>(hcr i hi).2 j hj;refine⟨_,hv,.agg vs,b',cR,b0,c0,b1,c1,ad,aR,a0,a1,rfl,⟨below,?_,⟨hlc,hcm⟩,hh4,by omega,(cell 0 0 (by omega) (by omega)).val_eq,(cell 0 1 (by omega) (by omega)).val_eq,(cell 1 0 (by omega) (by omega)).val_eq,(cell 1 1 (by omega) (by omega)).val_eq,
   m0.trans ha0,m1.trans ha1,F1.cap,F2.cap,hs0,hs1,λi j hi hj=>?_,λi j hi hj=>?_,?_,nb0,nb1,F1.new,ug hw1 F2.new,?_⟩⟩
  ·refine congrArg Value.agg (Array.ext (by simpa using hsz) λi h1 h2=>?_);have h2':i<2:=by simpa using h2
   match i,h2' with
   |0,_=>have:=hval;rw[kq,kv h1] at this;exact this
   |1,_=>have:=had;rw[kq,kv h1] at this;exact this
  ·exact SH hj (hi0 i j hi hj)
  ·exact SH hj (hi1 i j hi hj)
  ·intro h;have:=F1.lt;have:=F2.new;omega
  ·rcases hR.1 with h|h
   ·have h:E2.w.heap.size<=b':=h;have:=F2.below.size;omega
   ·rcases F2.inn 4 b' h with h|h
    ·omega
    ·rcases F1.inn 4 b' h with h|h
     ·exact h
     ·cases h
 rcases he with rfl|rfl
 ·exact DH (K:=kn E2 44 0) key a'.defers w' hs
 ·exact DH (K:=kn E2 44 0) key a'.defers w' hs
end Saw
end Go.SL

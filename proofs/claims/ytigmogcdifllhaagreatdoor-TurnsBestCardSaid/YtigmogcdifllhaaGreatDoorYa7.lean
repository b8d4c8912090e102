import Derived.Test.YtigmogcdifllhaaGreatDoorYa6
import Derived.Shelf.Sort.Plain
import Derived.Shelf.Slices.In.SortNone
import Derived.Shelf.Lay
set_option linter.unusedVariables false
set_option linter.unusedSimpArgs false
namespace Go.SL
open Go.RowKit
def EJ (a:Act) (D:List Deferred):Act:={a with defers:=a.defers++D}
theorem qSq (a:Act) (D:List Deferred) (dst:Option Nat) (v:Value):EJ (a.put dst v) D=(EJ a D).put dst v:=by cases dst<;>rfl
def qTK (D:List Deferred) (J:Array Value->Prop) (K:Act->World->Prop) (a':Act) (w':World):Prop:=∃a,a'=EJ a D/\K a w'/\J a.tmps
section
variable {F :Fence} {n:Nat} {P:Program} {D:List Deferred} {J:Array Value->Prop}
theorem wpIn_fr {o:Oper} {a:Act} {w:World} {K:Act->World->Prop} {Q:Exit->Act->World->Prop} (hQ:∀e a w,e≠ .normal->¬Q e a w) (hJ:∀v,J (a.put o.dst v).tmps) (h:o.wpIn F n P a w K Q):o.wpIn F n P (EJ a D) w (qTK D J K) (λe=>qTK D J (Q e)):=by
 have hev:(EJ a D).eval=a.eval:=by funext x;cases x<;>rfl
 unfold Oper.wpIn at*;rw[hev];refine⟨h.1,?_⟩;have h:=h.2;have hp:∀v w',K (a.put o.dst v) w'->qTK D J K ((EJ a D).put o.dst v) w':=λv w' hk=>⟨_,(qSq a D o.dst v).symm,hk,hJ v⟩
 generalize (o.semAt F.round a.eval).run P w=r at*;cases r with
 |ok x w'=>
  cases x with
  |value v=>exact hp _ _ h
  |skip=>exact hp _ _ h
  |defer d=>
   refine⟨_,?_,h,?_⟩
   ·cases o.dst<;>rfl
   ·have:=hJ undef;cases ho:o.dst<;>rw[ho] at this<;>exact this
  |enter f args=>
   refine⟨h.1,CallsIn.mono' h.2 (λe w'' he=>?_)⟩;cases e with
   |returned v=>exact hp _ _ he
   |panicked c=>exact absurd he (hQ _ _ _ (by simp))
   |outgrown=>obtain⟨a2,w2,hq'⟩:=he;exact absurd hq' (hQ _ _ _ (by simp))
  |row r args=>exact⟨h.1,RowsIn.mono h.2 (λ_ _ he=>hp _ _ he)⟩
  |round l f tmps as2 b=>
   refine⟨h.1,RoundIn.mono h.2 (λe w'' he=>?_)⟩;cases e with
   |returned v=>exact hp _ _ he
   |panicked c=>exact absurd he (hQ _ _ _ (by simp))
   |outgrown=>obtain⟨a2,w2,hq'⟩:=he;exact absurd hq' (hQ _ _ _ (by simp))
  |_=>exact h.elim
 |halt x w'=>
  cases x with
  |panic v=>exact absurd h (hQ _ _ _ (by simp))
  |_=>exact h.elim
theorem qEx {md:Region.Mode} {ops:Array Oper} {Q:Exit->Act->World->Prop} (hQ:∀e a w,e≠ .normal->¬Q e a w) (hJ:∀(i:Nat) (o:Oper),ops[i]? =some o->∀(a:Act) v,J a.tmps->J (a.put o.dst v).tmps):∀(fuel:Nat) (listed:Array Bool) (a:Act) (w:World),J a.tmps->wpAnyIn F n P md ops Q fuel listed a w->wpAnyIn F n P md ops (λe=>qTK D J (Q e)) fuel listed (EJ a D) w
 |0,listed,a,w,h0,h=>⟨h.1,a,rfl,h.2,h0⟩
 |fuel+1,listed,a,w,h0,h=>by
  refine⟨λhr=>⟨a,rfl,h.1 hr,h0⟩,λi hi=>?_⟩;have h2:=h.2 i hi;have hev:(EJ a D).eval=a.eval:=by funext x;cases x<;>rfl
  unfold wpOpIn at*;cases ho:ops[i]? with
  |none=>
   rw[ho] at h2;exact qEx hQ hJ fuel _ a w h0 h2
  |some o=>
   rw[ho] at h2;simp only at h2⊢;have hy:yielded ops (EJ a D).tmps=yielded ops a.tmps:=rfl;rw[hy];split
   ·rename_i hw;rw[if_pos hw] at h2;refine Oper.wpIn_mono (λa' w'=>?_) (wpIn_fr (D:=D) (J:=J) hQ (λv=>hJ i o ho a v h0) h2);rintro⟨a1,rfl,hk,h1⟩;exact qEx hQ hJ fuel _ a1 w' h1 hk
   ·rename_i hw;rw[if_neg hw] at h2;refine⟨by rw[hev];exact h2.1,?_⟩;have:=qEx hQ hJ fuel _ (a.put o.dst undef) w (hJ i o ho a undef h0) h2.2;rw[qSq] at this;exact this
end
theorem R_drX {K:Ctx} {st:St} (fn:Func) (nn id:Nat) (dirs:List (Nat×Dir)) (fin:List Fin) (bm:List Nat) (nid:Nat) (want:St) {q:Option Prop} (hq:oP q) (hc:nd fn nn= .region id (rg fn nn) true) (h:seen want (qED K (rg fn nn) [] dirs fin bm st nid)=wish want q)
  {M:Mem} {a:Act} {w:World} (hs:Sim1 K M st a w) (D:List Deferred) (J:Array Value->Prop) (h0:J a.tmps) (hJ:∀(i:Nat) (o:Oper),(rg fn nn)[i]? =some o->∀(a:Act) v,J a.tmps->J (a.put o.dst v).tmps):
  (nd fn nn).wpIn K.F 0 K.P (λe a' w'=>e= .normal/\∃a1 M1,a'=EJ a1 D/\Sim1 K M1 want a1 w'/\J a1.tmps) (EJ a D) w:=by
 rw[hc];generalize rg fn nn=ops at h hJ;obtain⟨st',h1,hs1⟩:=qE7 h;unfold qED at h1;split at h1
 ·rename_i st0 p0 h00;split at h1
  ·rename_i st2 q2 h2;cases h1;obtain⟨p1,p2⟩:=ZV hq;obtain⟨M0,hs0⟩:=UV h00 p1 hs;unfold qTM at h2;split at h2
   ·rename_i es p hr;cases hb:NL K.nt ops&&(qAV ops bm&&(DC ops bm 0 es&&(es.all (λe=>nvOk e.nv e.ob&&KC K.m e.nv)&&es.all (λe=>st0.freeB e.nv)))) with
    |false=>rw[hb] at h2;cases h2
    |true=>
     rw[hb] at h2;simp only[kp] at h2;simp only[kq (a:=NL K.nt ops),kq (a:=qAV ops bm),kq (a:=DC ops bm 0 es),kq (a:=es.all (λe=>nvOk e.nv e.ob&&KC K.m e.nv))] at hb;obtain⟨b1,b2,b3,b4,b5⟩:=hb;split at h2
     ·rename_i st3 q3 hf;cases h2;obtain⟨p3,p4⟩:=ZV p2;obtain⟨i1,i2⟩:=AX hr p3;have hA:=qXy (Q:=λe st'=>e= .normal/\st'=qBm ops 0 st0 es) es bm b1 (by rw[i1];simp) b2 b3 b4 b5 i2 ⟨rfl,rfl⟩ M0 a w hs0;have hX:=qEx (D:=D) (J:=J) (λe a w hne=>fun⟨M,st,hq,_⟩=>hne hq.1) hJ _ _ a _ h0 hA;refine wpIn_mono (wpIn_region_any K.mixed hX) ?_;rintro e a' w' ⟨a1,rfl,⟨M3,st4,⟨rfl,rfl⟩,hs3⟩,h1⟩;obtain⟨M4,hs4⟩:=UV hf p4 hs3;exact⟨rfl,a1,_,rfl,hs4.sub hs1,h1⟩
     ·cases h2
   ·cases h2
  ·cases h1
 ·cases h1
theorem CtX.noD {P:Program} {gl:List (Nat×C)} {f:FuncId} {n m:Nat} {xs:List V1} {oi:List (Nat×(Nat×O))} {x:V} {ob:List (Nat×(Nat×O))} (hn:look 1000001 gl=none) (h:CtX P gl f n m xs oi x ob):CtX P (markN::gl) f n m xs oi x ob:=λw M vs hg hin ha=>
 h w M vs (λg c hl=>hg g c (by
  unfold markN;rw[look_cons];split
  ·rename_i he;rw[<-he,hn] at hl;cases hl
  ·exact hl)) hin ha
theorem zD.more {w:World} {A A':Nat->Prop} (hA:∀b,A b->A' b) {y:V1} {v:Value} (h:zD w (Mem.of A) y v):zD w (Mem.of A') y v:=by
 have hir:∀{c:C} {v:Value},IRep w (Mem.of A).imm c v->IRep w (Mem.of A').imm c v:=λhr=>hr.move (λ_ _ _=>rfl) λb hb _=>⟨hA b hb.1,fun⟨i,k,hv,_⟩=>(by cases hv)⟩
 have hcp:∀{c:C} {v:Value},jO w (Mem.of A) c v->jO w (Mem.of A') c v:=fun{c v} hr=>by
  cases c<;>first|exact hr|exact hir hr
 have hcr:∀{c:C} {v:Value},CRep w (Mem.of A) c v->CRep w (Mem.of A') c v:=fun{c v} hr=>by
  cases c with
  |own id k sz len=>exact hr
  |sub id k sz off len=>exact hr
  |bptr id k j=>exact hr
  |rptr id k sz i j=>exact hr
  |fn g caps=>obtain⟨vs,h1,h2,h3⟩:=hr;exact⟨vs,h1,h2,λj hj=>hcp (h3 j hj)⟩
  |yl R b ts caps=>exact⟨hr.1,λj hj=>hcp (hr.2 j hj)⟩
  |unk=>exact hr
  |val v=>exact hir hr
  |emp=>exact hir hr
  |lst n f=>exact hir hr
  |lptr cs=>exact hir hr
  |aptr n sz f=>exact hir hr
 cases y with
 |one c=>exact hcr h
 |agg cs=>obtain⟨us,hu,hc⟩:=h;exact⟨us,hu,hc.1,λj hj=>hcr (hc.2 j hj)⟩
theorem qXI {K:Ctx} {vs:Array Value} {xs:List V1} (ha:qAs K.w0 (Mem.of K.A) xs vs) (hn:Nat.ble xs.length K.nt=true):Sim1 K (Mem.of λb=>K.A b\/K.w0.heap.size<=b) ⟨AV 0 xs,[]⟩ ⟨vs++Array.replicate (K.nt-vs.size) undef,[]⟩ K.w0:=by
 have hle:=kL hn;refine⟨⟨λi j k l b hi=>(by cases hi),λi k b hi=>(by cases hi),λi k _ hv=>(by cases hv),UF.refl _ _,BY.refl _,λb=>Iff.rfl,?_,qCx.nil,?_,λi k o ho=>by cases ho⟩,λi hi=>absurd rfl hi⟩
 ·have:=ha.1;simp;omega
 ·intro s y hy;obtain⟨j,rfl,hj,rfl⟩:=qG7 xs 0 s y hy;have h1:=ha.2 j hj;have hjs:j<vs.size:=by rw[ha.1];exact hj
  have hget:(vs++Array.replicate (K.nt-vs.size) undef).getD (0+j) undef=vs.getD j undef:=by
   simp only[kB,ku,uh hjs]
  rw[hget];exact zD.more (λb hb=> .inl hb) h1
theorem qWR {P:Program} {gl:List (Nat×C)} {f:FuncId} {xs:List V1} {x:V} (hd:drOf gl=false)
  (h:∀(w:World) (A:Nat->Prop) (vs:Array Value),PM gl w A->qAs w (Mem.of A) xs vs->Calls P f vs w λe w'=>∃v,e= .returned v/\Below w.heap.size w w'/\VRep w' (Mem.of λb=>A b\/w.heap.size<=b) x v):CtX P gl f 0 0 xs [] x []:=by
 intro w M vs hg hin ha;have hno:∀i,M.ver i=none:=λi=>by
  cases hi:M.ver i with
  |none=>rfl
  |some k=>
   have:=hin.only i (by rw[hi];simp);cases this
 obtain⟨ver,blk,A⟩:=M;obtain rfl:ver=λ_=>none:=funext hno;have hir:∀{c:C} {v:Value},IRep w (Mem.imm ⟨λ_=>none,blk,A⟩) c v->IRep w (Mem.of A).imm c v:=λhr=>hr.move (λ_ _ _=>rfl) λb hb _=>⟨hb.1,fun⟨i,k,hv,_⟩=>(by cases hv)⟩
 have hcp:∀{c:C} {v:Value},jO w ⟨λ_=>none,blk,A⟩ c v->jO w (Mem.of A) c v:=fun{c v} hr=>by
  cases c with
  |bptr id k j=>obtain⟨b,h1,h2⟩:=hr;exact⟨b,h1,λq=>by cases q⟩
  |_=>exact hir hr
 have hcr:∀{c:C} {v:Value},CRep w ⟨λ_=>none,blk,A⟩ c v->CRep w (Mem.of A) c v:=fun{c v} hr=>by
  cases c with
  |own id k sz len=>
   rcases hr with h0|⟨b,cap,h1,h2,h3,h4⟩
   ·exact .inl h0
   ·exact .inr ⟨b,cap,h1,h2,h3,λq=>by cases q⟩
  |sub id k sz off len=>
   rcases hr with h0|⟨b,cap,h1,h2,h3,h4⟩
   ·exact .inl h0
   ·exact .inr ⟨b,cap,h1,h2,h3,λq=>by cases q⟩
  |bptr id k j=>obtain⟨b,h1,h2⟩:=hr;exact⟨b,h1,λq=>by cases q⟩
  |rptr id k sz i j=>obtain⟨b,h1,h2⟩:=hr;exact⟨b,h1,λq=>by cases q⟩
  |fn g caps=>obtain⟨us,h1,h2,h3⟩:=hr;exact⟨us,h1,h2,λj hj=>hcp (h3 j hj)⟩
  |yl R b ts caps=>exact⟨hr.1,λj hj=>hcp (hr.2 j hj)⟩
  |unk=>exact hr
  |val v=>exact hir hr
  |emp=>exact hir hr
  |lst n f=>exact hir hr
  |lptr cs=>exact hir hr
  |aptr n sz f=>exact hir hr
 have ha':qAs w (Mem.of A) xs vs:=⟨ha.1,λj hj=>by
  have:=ha.2 j hj;generalize xs.getD j (.one .unk)=y at this;cases y with
  |one c=>exact hcr this
  |agg cs=>obtain⟨us,hu,hc⟩:=this;exact⟨us,hu,hc.1,λj hj=>hcr (hc.2 j hj)⟩⟩
 refine(h w A vs hg ha').mono ?_;rintro e w' ⟨v,rfl,hb,hv⟩;refine⟨v,Mem.of λb=>A b\/w.heap.size<=b,rfl,⟨hb.os,hb.tape,hb.output,hb.size,λb hlt _=>hb.block b hlt,λh=>by rw[hd] at h;cases h⟩,λb arr e hh=>⟨arr,?_,rfl⟩,?_⟩
 ·rw[hb.block b (kM.1 hh).1];exact hh
 ·exact⟨λi hi=>absurd rfl hi,λi j k l b hi=>(by cases hi),λi k b hv=>(by cases hv),λi k k' _ hk=>(by cases hk),λb=>Iff.rfl,hv,λi k o ho=>by cases ho⟩
end Go.SL
namespace Go.SL
open Go.RowKit Go.Proofs Go.Shelf Go.Sort Go.Lib
section
variable (w :World) (blk m:Nat) (d:Array Int) (os:Array Obj)
def qJf :World:=grow (putRow (Value.int .i64) (Sort.ahead w m) blk 0 d) os
theorem qO5 {c:Nat} (hc:c<w.heap.size) (hne:c≠blk):(qJf w blk m d os).heap[c]? =w.heap[c]? :=by
 unfold qJf grow putRow mapBlock Sort.ahead;rw[uh (by simpa using hc),uZ,if_neg (Ne.symm hne)]
theorem qPT {arr:Array Value} {e:TypeId} (hh:w.heap[blk]? =some (.cells arr e (0,0))):(qJf w blk m d os).heap[blk]? =some (.cells (putCells (Value.int .i64) 0 d arr) e (0,0)):=by
 have hb:blk<w.heap.size:=(kM.1 hh).1;unfold qJf grow putRow mapBlock Sort.ahead;rw[uh (by simpa using hb),uZ,if_pos rfl];show(w.heap[blk]?).map _=_;rw[hh];rfl
theorem qW7 :w.heap.size<=(qJf w blk m d os).heap.size:=by
 unfold qJf grow putRow mapBlock Sort.ahead;simp
theorem si_get {arr:Array Value} {n i:Nat} (hd:d.size=n) (hn:n<=arr.size) (hi:i<n):(putCells (Value.int .i64) 0 d arr).getD i undef= .int .i64 d[i]! :=by
 unfold putCells;rw[ku,Array.getElem?_mapIdx,kz (by omega)];simp only[kR,kF];rw[if_pos ⟨kw _,by omega⟩,gv]
end
theorem qNV {α:Type} (a:Array α) {i:Nat} (h:i<a.size) (d:α):a.getD i d=a[i]:=by rw[ku,kz h];rfl
theorem qWp (l:List Int):WY (λx y=>decide (x<=y)) l=l.mergeSort λx y=>decide (x<=y):=by
 have ht:∀x y z:Int,decide (x<=y)=true->decide (y<=z)=true->decide (x<=z)=true:=by
  intro x y z h1 h2;simp only[decide_eq_true_eq] at*;omega
 have hto:∀x y:Int,decide (x<=y)=true\/decide (y<=x)=true:=by
  intro x y;simp only[decide_eq_true_eq];omega
 refine List.Perm.eq_of_pairwise (le:=λx y:Int=>decide (x<=y)=true) ?_ (qA4 ht hto l) ?_ ((UK _ l).trans (List.mergeSort_perm l _).symm)
 ·intro a b _ _ h1 h2;simp only[decide_eq_true_eq] at*;omega
 ·exact List.pairwise_mergeSort (λa b c h1 h2=>ht a b c h1 h2) (λa b=>by have:=hto a b;simpa using this) l
theorem qZe {P:Program} {ρ:Ren} {gl:List (Nat×C)} (L:Lays.n189 P ρ) (eid:Nat) (l:List Int) (hlt:l.length<4611686018427387904):
  CtX P gl (ρ.f 189) 1 1 [.one (.own 0 0 1 l.length)] [(0,(0,.row eid 1 l.length (rowf (λx:Int=>[C.val (.int .i64 x)]) du l)))] .undef [(0,(0,.row eid 1 (WY (λx y=>decide (x<=y)) l).length (rowf (λx:Int=>[C.val (.int .i64 x)]) du (WY (λx y=>decide (x<=y)) l))))]:=by
 intro w M vs hgl hin ha;obtain⟨hsz,hargs⟩:=ha;have hr:=hin.objs 0 0 _ rfl;have a0:=hargs 0 (by simp);have hsz1:vs.size=1:=by simpa using hsz
 have hlen:(WY (λx y=>decide (x<=y)) l).length=l.length:=(UK _ l).length_eq;rcases a0 with⟨hl0,a,e0⟩|⟨b,cap,e0,hlc,hcm,hb⟩
 ·have hl:l=[]:=ui hl0;subst hl;have hvs:vs= #[.slice a 0 0]:=by
   apply Array.ext
   ·simpa using hsz1
   ·intro i hi1 hi2;have:i=0:=by simp at hi2;omega
    subst this;rw[<-qNV _ hi1 undef,e0];rfl
  rw[hvs];refine(Any.slices_Sort_int_none L a 0 w).mono ?_;rintro e w' ⟨he,rfl⟩;refine⟨undef,{M with A:=λb=>M.A b\/w'.heap.size<=b},he,⟨rfl,rfl,rfl,ke _,λc hc hno=>rfl,λ_=>ke _⟩,?_,?_⟩
  ·intro c arr' e' hc;exact⟨arr',hc,rfl⟩
  ·refine⟨λi hi=>?_,hin.inj,λi k' b hv hb=>?_,λi k' k'' _ _ _=>rfl,λb=>Iff.rfl,rfl,λi k' o ho=>?_⟩
   ·have:=hin.only i hi;unfold hits at this⊢;rw[look_cons] at this⊢;split at this
    ·rename_i h;rw[if_pos h];rfl
    ·cases this
   ·exact⟨.inr ⟨⟨k',hv⟩,hb⟩,(hin.rng i k' b hv hb).2.1⟩
   ·rw[look_cons] at ho;split at ho
    ·rename_i h;subst h;cases ho;obtain⟨hver,hrow⟩:=hr;refine⟨hver,?_⟩;rcases hrow with⟨hn,h0⟩|⟨b',arr',hb',hh',hns,hcr⟩
     ·exact .inl ⟨hn,rfl⟩
     ·exact .inr ⟨b',arr',hb',hh',kw _,λi hi=>absurd hi (by simp[WY])⟩
    ·cases ho
 obtain⟨hbl,arr,et,hh,has⟩:=hb hr.ver;obtain⟨hver,hrow⟩:=hr;rcases hrow with⟨hn,_⟩|⟨b',arr',hb',hh',hns,hcr⟩
 ·rw[hbl] at hn;cases hn
 have:b'=b:=kE (hb'.symm.trans hbl);subst this;rw[hh] at hh';cases hh';have hvs:vs= #[.slice (some ⟨b',0,none⟩) l.length cap]:=by
  apply Array.ext
  ·simpa using hsz1
  ·intro i hi1 hi2;have:i=0:=by simp at hi2;omega
   subst this;rw[<-qNV _ hi1 undef,e0];rfl
 have hblt:b'<w.heap.size:=(kM.1 hh).1;have hnA:¬M.A b':=(hin.rng 0 0 b' hver hbl).2.2;rw[Nat.mul_one] at hns;have hcell:∀i,i<l.length->arr.getD i undef= .int .i64 (l.getD i du):=by
  intro i hi;have:=(hcr i hi).2 0 (by omega);rw[Nat.mul_one,kY] at this;unfold rowf at this;simp only[ua] at this;exact this.val_eq
 have hH:Holds (Value.int .i64) w b' 0 l.toArray:=by
  intro t ht;have ht':t<l.length:=by simpa using ht
  have htlt:t<arr.size:=by omega
  refine⟨?_,?_⟩
  ·rw[show(0+t)=t by omega];have:w.cell? ⟨b',t,none⟩=arr[t]? :=by unfold World.cell?;rw[hh];rfl
   rw[this,kz htlt];have hc:=hcell t ht';rw[qNV _ htlt] at hc;rw[hc]
   congr 2
   rw[ka,ks ht',getElem!_pos _ _ (by simpa using ht')];rfl
  ·unfold World.frozen?;rw[hh];simp
 have key:=Any.slices_Sort_int L b' 0 cap l w hH hblt hlt;rw[hvs];refine key.mono ?_;rintro e w' ⟨he,n,os,hw'⟩;have hw2:w'=qJf w b' n (WY (λx y=>decide (x<=y)) l).toArray os:=by rw[hw',qWp];rfl
 subst hw2;refine⟨undef,{M with A:=λb=>M.A b\/w.heap.size<=b},he,⟨rfl,rfl,rfl,qW7 _ _ _ _ _,λc hc hno=>qO5 _ _ _ _ _ hc λh=>hno ⟨0,0,hver,by rw[h];exact hbl⟩,λ_=>gp _ _⟩,?_,?_⟩
 ·intro c arr' e' hc;by_cases hcb:c=b'
  ·subst hcb;rw[hh] at hc;cases hc;exact⟨_,qPT _ _ _ _ _ hh,by simp[putCells]⟩
  ·exact⟨arr',by rw[qO5 _ _ _ _ _ (kM.1 hc).1 hcb];exact hc,rfl⟩
 ·refine⟨λi hi=>?_,hin.inj,λi k' b hv hb=>?_,λi k' k'' _ _ _=>rfl,λb=>Iff.rfl,rfl,λi k' o ho=>?_⟩
  ·have:=hin.only i hi;unfold hits at this⊢;rw[look_cons] at this⊢;split at this
   ·rename_i h;rw[if_pos h];rfl
   ·cases this
  ·exact⟨.inr ⟨⟨k',hv⟩,hb⟩,um (hin.rng i k' b hv hb).2.1 (qW7 _ _ _ _ _)⟩
  ·rw[look_cons] at ho;split at ho
   ·rename_i h;subst h;cases ho;refine⟨hver,.inr ⟨b',_,hbl,qPT _ _ _ _ _ hh,?_,λi hi=>⟨rfl,λj hj=>?_⟩⟩⟩
    ·rw[hlen];simpa[putCells] using hns
    ·rw[hlen] at hi;have:j=0:=by omega
     subst this;rw[Nat.mul_one,kY,si_get (n:=l.length) _ (by simpa using hlen) hns hi];unfold rowf;simp only[ua];have hge:(WY (λx y=>decide (x<=y)) l).toArray[i]! =(WY (λx y=>decide (x<=y)) l).getD i du:=by
      rw[ka,ks (by omega),getElem!_pos _ _ (by simpa using(by omega:i<(WY (λx y=>decide (x<=y)) l).length))];rfl
     rw[hge];exact .val _ rfl
   ·cases ho
end Go.SL

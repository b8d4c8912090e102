/- A symbolic logic over the model: abstract cells, memory maps, representation, and what keeps it. -/
import Derived.Below
import Derived.Orders
import Derived.LoopN
import Derived.Laws.AppendOwn
import Derived.Laws.MakeOwn
import Derived.KernelRfl
import Derived.Laws.Entries
import Derived.OrdersIn
import Derived.LoopNIn
import Derived.RangeFuncLeaves
import Derived.RangeFuncRecord
set_option linter.unusedVariables false
set_option linter.unusedSimpArgs false
namespace Go.SL
open Go.RowKit
structure qMn where
 fn:FuncId
 tmps:Array Value
 params:Array Tmp
 assign:Code
 body:Code
 defers:Nat
def qMn.at (R:qMn) (s:LoopState) (j:Option Code):Loop:={state:=s,pending:=j,fn:=R.fn,tmps:=R.tmps,params:=R.params,assign:=R.assign,body:=R.body,defers:=R.defers}
inductive C where
 |val (v:Value)
 |emp
 |lst (n:Nat) (f:Nat->List C)
 |own (id k sz len:Nat)
 |sub (id k sz off len:Nat)
 |bptr (id k j:Nat)
 |rptr (id k sz i j:Nat)
 |lptr (cs:List C)
 |aptr (n sz:Nat) (f:Nat->List C)
 |fn (g:Nat) (caps:List C)
 |yl (R:qMn) (b:Nat) (ts:List Nat) (caps:List C)
 |unk
structure Mem where
 ver:Nat->Option Nat
 blk:Nat->Option Nat
 A:Nat->Prop
def Mem.owns (M:Mem) (b:Nat):Prop:=∃id k,M.ver id=some k/\M.blk id=some b
inductive IRep (w:World) (ok:Nat->Prop):C->Value->Prop
 |val (v:Value) (h:v.oneCell'=true):IRep w ok (.val v) v
 |emp (a:Option Addr):IRep w ok .emp (.slice a 0 0)
 |lst0 (a:Option Addr) (f:Nat->List C):IRep w ok (.lst 0 f) (.slice a 0 0)
 | lst (b o n cap sz:Nat) (f:Nat->List C) (g:Nat->Nat->Value) (hn:n<=cap) (hm:cap<=maxLen) (hl:∀i,i<n->(f i).length=sz)
   (hb:∀i j,i<n->j<sz->ok b)
   (hc:∀i j,i<n->j<sz->w.cell? ⟨b,o+(i*sz+j),none⟩=some (g i j))
   (hr:∀i j,i<n->j<sz->IRep w ok ((f i).getD j .unk) (g i j)):IRep w ok (.lst n f) (.slice (some ⟨b,o,none⟩) n cap)
 | lptr (b o:Nat) (cs:List C) (g:Nat->Value) (hb:∀j,j<cs.length->ok b)
   (hc:∀j,j<cs.length->w.cell? ⟨b,o+j,none⟩=some (g j))
   (hr:∀j,j<cs.length->IRep w ok (cs.getD j .unk) (g j)):IRep w ok (.lptr cs) (.pointer (some ⟨b,o,none⟩))
 | aptr (b o n sz:Nat) (f:Nat->List C) (g:Nat->Nat->Value) (hl:∀i,i<n->(f i).length=sz)
   (hb:∀i j,i<n->j<sz->ok b)
   (hc:∀i j,i<n->j<sz->w.cell? ⟨b,o+(i*sz+j),none⟩=some (g i j))
   (hr:∀i j,i<n->j<sz->IRep w ok ((f i).getD j .unk) (g i j)):IRep w ok (.aptr n sz f) (.pointer (some ⟨b,o,none⟩))
theorem IRep.cell {w:World} {ok:Nat->Prop} {c:C} {v:Value} (h:IRep w ok c v):v.oneCell'=true:=by
 cases h<;>first|assumption|rfl
theorem IRep.val_eq {w:World} {ok:Nat->Prop} {x v:Value} (h:IRep w ok (.val x) v):v=x:=by
 generalize hc:C.val x=c at h;cases h<;>cases hc;rfl
theorem IRep.move {w w':World} {ok ok':Nat->Prop} (hh:∀b,ok b->b<w.heap.size->w'.heap[b]? =w.heap[b]?) (hk:∀b,ok b->b<w.heap.size->ok' b)
  {c:C} {v:Value} (h:IRep w ok c v):IRep w' ok' c v:=by
 have cellmv:∀(b o:Nat) (x:Value),ok b->w.cell? ⟨b,o,none⟩=some x->w'.cell? ⟨b,o,none⟩=some x:=λb o x hb hx=>by
  rw[<-hx];exact World.cell?_of_block (hh b hb (World.block_lt_of_cell? w _ hx))
 induction h with
 |val v h=>exact .val v h
 |emp a=>exact .emp a
 |lst0 a f=>exact .lst0 a f
 |lst b o n cap sz f g hn hm hl hb hc _ ih=>
  exact .lst b o n cap sz f g hn hm hl (λi j hi hj=>hk b (hb i j hi hj) (World.block_lt_of_cell? w _ (hc i j hi hj))) (λi j hi hj=>cellmv _ _ _ (hb i j hi hj) (hc i j hi hj)) ih
 |lptr b o cs g hb hc _ ih=>
  exact .lptr b o cs g (λj hj=>hk b (hb j hj) (World.block_lt_of_cell? w _ (hc j hj))) (λj hj=>cellmv _ _ _ (hb j hj) (hc j hj)) ih
 |aptr b o n sz f g hl hb hc _ ih=>
  exact .aptr b o n sz f g hl (λi j hi hj=>hk b (hb i j hi hj) (World.block_lt_of_cell? w _ (hc i j hi hj))) (λi j hi hj=>cellmv _ _ _ (hb i j hi hj) (hc i j hi hj)) ih
theorem IRep.move2 {w w':World} {ok ok':Nat->Prop} (hh:∀b arr e z,ok b->w.heap[b]? =some (.cells arr e z)->w'.heap[b]? =w.heap[b]?) (hk:∀b,ok b->b<w.heap.size->ok' b)
  {c:C} {v:Value} (h:IRep w ok c v):IRep w' ok' c v:=by
 have cellmv:∀(b o:Nat) (x:Value),ok b->w.cell? ⟨b,o,none⟩=some x->w'.cell? ⟨b,o,none⟩=some x:=λb o x hb hx=>by
  rw[<-hx];obtain⟨arr,e,z,hc⟩:∃arr e z,w.heap[b]? =some (.cells arr e z):=by
   simp only[World.cell?] at hx;cases hw:w.heap[b]? with
   |none=>rw[hw] at hx;cases hx
   |some o=>cases o<;>rw[hw] at hx<;>first|exact⟨_,_,_,rfl⟩|cases hx
  exact World.cell?_of_block (hh b arr e z hb hc)
 induction h with
 |val v h=>exact .val v h
 |emp a=>exact .emp a
 |lst0 a f=>exact .lst0 a f
 |lst b o n cap sz f g hn hm hl hb hc _ ih=>
  exact .lst b o n cap sz f g hn hm hl (λi j hi hj=>hk b (hb i j hi hj) (World.block_lt_of_cell? w _ (hc i j hi hj))) (λi j hi hj=>cellmv _ _ _ (hb i j hi hj) (hc i j hi hj)) ih
 |lptr b o cs g hb hc _ ih=>
  exact .lptr b o cs g (λj hj=>hk b (hb j hj) (World.block_lt_of_cell? w _ (hc j hj))) (λj hj=>cellmv _ _ _ (hb j hj) (hc j hj)) ih
 |aptr b o n sz f g hl hb hc _ ih=>
  exact .aptr b o n sz f g hl (λi j hi hj=>hk b (hb i j hi hj) (World.block_lt_of_cell? w _ (hc i j hi hj))) (λi j hi hj=>cellmv _ _ _ (hb i j hi hj) (hc i j hi hj)) ih
def Mem.imm (M:Mem) (b:Nat):Prop:=M.A b/\¬M.owns b
def jJ (w:World) (M:Mem):C->Value->Prop
 | .bptr id k j,v=>∃b,v= .pointer (some ⟨b,j,none⟩)/\(M.ver id=some k->M.blk id=some b)
 |c,v=>IRep w M.imm c v
def CRep (w:World) (M:Mem):C->Value->Prop
 | .own id k sz len,v=>(len=0/\∃a,v= .slice a 0 0)\/
   ∃b cap,v= .slice (some ⟨b,0,none⟩) len cap/\len<=cap/\cap<=maxLen/\(M.ver id=some k->M.blk id=some b/\∃arr e,w.heap[b]? =some (.cells arr e (0,0))/\arr.size=cap*sz)
 | .sub id k sz off len,v=>(len=0/\∃a,v= .slice a 0 0)\/
   ∃b cap,v= .slice (some ⟨b,off*sz,none⟩) len cap/\len<=cap/\cap<=maxLen/\(M.ver id=some k->M.blk id=some b/\∃arr e,w.heap[b]? =some (.cells arr e (0,0))/\arr.size=(off+cap)*sz)
 | .bptr id k j,v=>∃b,v= .pointer (some ⟨b,j,none⟩)/\(M.ver id=some k->M.blk id=some b)
 | .rptr id k sz i j,v=>∃b,v= .pointer (some ⟨b,i*sz+j,none⟩)/\(M.ver id=some k->M.blk id=some b)
 | .fn g caps,v=>∃vs:Array Value,v= .func (.func g) #[] vs/\vs.size=caps.length/\∀j,j<caps.length->jJ w M (caps.getD j .unk) (vs.getD j undef)
 | .yl R b ts caps,v=>v= .func (.yield b) #[] #[]/\∀j,j<caps.length->jJ w M (caps.getD j .unk) (R.tmps.getD (ts.getD j 0) undef)
 | .unk,v=>v.oneCell'=true
 |c,v=>IRep w M.imm c v
theorem CRep.cell {w:World} {M:Mem} {c:C} {v:Value} (h:CRep w M c v):v.oneCell'=true:=by
 cases c with
 |own id k sz len=>rcases h with⟨_,a,rfl⟩|⟨_,_,rfl,_⟩<;>rfl
 |sub id k sz off len=>rcases h with⟨_,a,rfl⟩|⟨_,_,rfl,_⟩<;>rfl
 |bptr id k j=>obtain⟨_,rfl,_⟩:=h;rfl
 |rptr id k sz i j=>obtain⟨_,rfl,_⟩:=h;rfl
 |fn g caps=>obtain⟨_,rfl,_⟩:=h;rfl
 |yl R b ts caps=>obtain⟨rfl,_⟩:=h;rfl
 |unk=>exact h
 |_=>exact IRep.cell h
inductive V1 where
 |one (c:C)
 |agg (cs:List C)
inductive V where
 |any
 |undef
 |v (x:V1)
 |tup (xs:List V1)
def wX (w:World) (M:Mem) (cs:List C) (vs:Array Value):Prop:=vs.size=cs.length/\∀j,j<cs.length->CRep w M (cs.getD j .unk) (vs.getD j undef)
def qR (w:World) (M:Mem):V1->Value->Prop
 | .one c,v=>CRep w M c v
 | .agg cs,v=>∃vs:Array Value,v= .agg vs/\wX w M cs vs
def VRep (w:World) (M:Mem):V->Value->Prop
 | .any,_=>True
 | .undef,v=>v=Go.undef
 | .v x,v=>qR w M x v
 | .tup xs,v=>∃vs:Array Value,v= .tuple vs/\vs.size=xs.length/\∀j,j<xs.length->qR w M (xs.getD j (.one .unk)) (vs.getD j Go.undef)
inductive O where
 |box (e:TypeId) (cs:List C)
 |row (e:TypeId) (sz n:Nat) (f:Nat->List C)
 |lp (R:qMn) (b:Nat) (s:LoopState) (j:Option Code)
def ORep (w:World) (M:Mem) (id k:Nat):O->Prop
 | .box e cs=>M.ver id=some k/\∃b arr,M.blk id=some b/\w.heap[b]? =some (.cells arr e (0,0))/\wX w M cs arr
 | .row e sz n f=>M.ver id=some k/\((M.blk id=none/\n=0)\/∃b arr,M.blk id=some b/\w.heap[b]? =some (.cells arr e (0,0))/\n*sz<=arr.size/\
   ∀i,i<n->(f i).length=sz/\∀j,j<sz->IRep w M.imm ((f i).getD j .unk) (arr.getD (i*sz+j) undef))
 | .lp R b s j=>M.ver id=some k/\M.blk id=some b/\w.heap[b]? =some (.loop (R.at s j))
theorem ORep.ver {w:World} {M:Mem} {id k:Nat} {o:O} (h:ORep w M id k o):M.ver id=some k:=by
 cases o<;>exact h.1
def look {β:Type} (s:Nat):List (Nat×β)->Option β
 |[]=>none
 |(k,x)::r=>bif Nat.beq k s then some x else look s r
theorem look_cons {β:Type} (s k:Nat) (x:β) (r:List (Nat×β)):look s ((k,x)::r)=if k=s then some x else look s r:=by
 by_cases h:k=s
 ·subst h;simp[look]
 ·have:Nat.beq k s=false:=by cases hb:Nat.beq k s with|false=>rfl|true=>exact absurd (Nat.eq_of_beq_eq_true hb) h
  simp[look,h,this]
theorem qDo {β:Type} (s:Nat) (l r:List (Nat×β)):look s (l++r)=(look s l).or (look s r):=by
 induction l with
 |nil=>rfl
 |cons p l ih=>
  obtain⟨k,x⟩:=p;simp only[List.cons_append,look_cons,ih];split<;>simp
theorem look_mem {β:Type} {s:Nat} {x:β}:∀{l:List (Nat×β)},look s l=some x->(s,x)∈l
 |(k,y)::r,h=>by
  rw[look_cons] at h;split at h
  ·rename_i hk;subst hk;cases h;exact List.mem_cons_self
  ·exact List.mem_cons_of_mem _ (look_mem h)
structure St where
 slots:List (Nat×V)
 objs:List (Nat×(Nat×O))
structure SN (B:Nat->Prop) (w w':World):Prop where
 os:w'.os=w.os
 tape:w'.tape=w.tape
 output:w'.output=w.output
 size:w.heap.size<=w'.heap.size
 block:∀b,b<w.heap.size->¬B b->w'.heap[b]? =w.heap[b]?
 drawn:w.drawn<=w'.drawn
theorem SN.refl (B:Nat->Prop) (w:World):SN B w w:=⟨rfl,rfl,rfl,Nat.le_refl _,λ_ _ _=>rfl,Nat.le_refl _⟩
theorem SN.below {B:Nat->Prop} {w w':World} (h:SN B w w') (hB:∀b,¬B b):Below w.heap.size w w':=⟨h.os,h.tape,h.output,h.size,λb hb=>h.block b hb (hB b)⟩
def SD (w w':World):Prop:=∀(b:Nat) (arr:Array Value) (e:TypeId),w.heap[b]? =some (.cells arr e (0,0))->∃arr':Array Value,w'.heap[b]? =some (.cells arr' e (0,0))/\arr'.size=arr.size
theorem SD.refl (w:World):SD w w:=λ_ arr _ h=>⟨arr,h,rfl⟩
theorem SD.trans {w w' w'':World} (h:SD w w') (k:SD w' w''):SD w w'':=λb arr e hh=>by
 obtain⟨a1,h1,s1⟩:=h b arr e hh;obtain⟨a2,h2,s2⟩:=k b a1 e h1;exact⟨a2,h2,by omega⟩
structure Ctx where
 P:Program
 w0:World
 nt:Nat
 A:Nat->Prop
 globs:List (Nat×C)
 mixed:P.follows .mixedOrders=true
 glob:∀g c,look g globs=some c->IRep w0 A c (.pointer (some ⟨g,0,none⟩))
 n:Nat
 m:Nat
 In:Nat->Option Nat
 hIn:∀i b,In i=some b->i<n/\b<w0.heap.size/\¬A b
 rnd:Option Nat:=none
def qA3 (r:Option Nat):Fence:={Fence.wide with round:=r}
def Ctx.F (K:Ctx):Fence:=qA3 K.rnd
def qF3 (w:World) (M:Mem) (n:Nat) (d:Deferred):Prop:=∃D,d={target:= .collected D,args:= #[]}/\n<=D/\w.heap[D]? =some (.deferred (some []))/\¬M.owns D
def qCL (w:World) (M:Mem) (n:Nat) (ds:List Deferred):Prop:=(∀d∈ds,qF3 w M n d)/\ds.Pairwise (·≠·)
theorem qCL.nil {w:World} {M:Mem} {n:Nat}:qCL w M n []:=⟨λ_ h=>(by cases h),.nil⟩
theorem qCL.less {w:World} {M M':Mem} {n:Nat} {ds:List Deferred} (h:qCL w M n ds) (ho:∀D,M'.owns D->M.owns D):qCL w M' n ds:=
 ⟨λd hd=>let ⟨D,h1,h2,h3,h4⟩:=h.1 d hd;⟨D,h1,h2,h3,λq=>h4 (ho D q)⟩,h.2⟩
def Ctx.B (K:Ctx) (b:Nat):Prop:=∃i,K.In i=some b
structure Sim (K:Ctx) (M:Mem) (st:St) (a:Act) (w:World):Prop where
 inj:∀i j k l b,M.ver i=some k->M.ver j=some l->M.blk i=some b->M.blk j=some b->i=j
 rng:∀i k b,M.ver i=some k->M.blk i=some b->(K.w0.heap.size<=b\/K.In i=some b)/\b<w.heap.size
 fix:∀i k,i<K.m->M.ver i=some k->M.blk i=K.In i
 below:SN K.B K.w0 w
 shape:SD K.w0 w
 area:∀b,M.A b↔K.A b\/K.w0.heap.size<=b
 size:a.tmps.size=K.nt
 defers:qCL w M K.w0.heap.size a.defers
 slots:∀s x,look s st.slots=some x->VRep w M x (a.tmps.getD s undef)
 objs:∀i k o,look i st.objs=some (k,o)->ORep w M i k o
structure Ext (M:Mem) (w:World) (M':Mem) (w':World) (wr:Nat->Prop) (nv:Nat->Nat->Prop):Prop where
 ver:∀i k,M'.ver i=some k->nv i k\/M.ver i=some k
 keep:∀i k,M.ver i=some k->¬wr i->M'.ver i=some k
 blk:∀i k,M'.ver i=some k->¬nv i k->M'.blk i=M.blk i
 fresh:∀i k b,nv i k->M'.ver i=some k->M'.blk i=some b->w.heap.size<=b\/(∃k',M.ver i=some k'/\M.blk i=some b)
 inj:∀i j k l b,M'.ver i=some k->M'.ver j=some l->M'.blk i=some b->M'.blk j=some b->i=j
 rng:∀i k b,M'.ver i=some k->M'.blk i=some b->b<w'.heap.size
 heap:∀b,b<w.heap.size->(∀i k,wr i->M.ver i=some k->M.blk i≠some b)->w'.heap[b]? =w.heap[b]?
 shape:∀(b:Nat) (arr:Array Value) (e:TypeId),w.heap[b]? =some (.cells arr e (0,0))->∃arr':Array Value,w'.heap[b]? =some (.cells arr' e (0,0))/\arr'.size=arr.size
 size:w.heap.size<=w'.heap.size
 area:M'.A=M.A
 os:w'.os=w.os
 tape:w'.tape=w.tape
 output:w'.output=w.output
 drawn:w.drawn<=w'.drawn
section
variable {M :Mem} {w:World} {M':Mem} {w':World} {wr:Nat->Prop} {nv:Nat->Nat->Prop}
theorem Ext.imm (h:Ext M w M' w' wr nv) {b:Nat} (hb:M.imm b) (hlt:b<w.heap.size):M'.imm b:=by
 refine⟨by rw[h.area];exact hb.1,?_⟩;rintro⟨i,k,hd,hk⟩;by_cases hi:nv i k
 ·rcases h.fresh i k b hi hd hk with h1|⟨k',h1,h2⟩
  ·omega
  ·exact hb.2 ⟨i,k',h1,h2⟩
 ·exact hb.2 ⟨i,k,(h.ver i k hd).resolve_left hi,by rw[<-h.blk i k hd hi];exact hk⟩
theorem Ext.irep (h:Ext M w M' w' wr nv) {c:C} {v:Value} (hr:IRep w M.imm c v):IRep w' M'.imm c v:=
 hr.move (λb hb hlt=>h.heap b hlt λi k _ hd hk=>hb.2 ⟨i,k,hd,hk⟩) (λ_ hb hlt=>h.imm hb hlt)
def capFree (nv:Nat->Nat->Prop):C->Prop
 | .bptr id k _=>¬nv id k
 |_=>True
theorem Ext.cap (h:Ext M w M' w' wr nv) {c:C} {v:Value} (hf:capFree nv c) (hr:jJ w M c v):jJ w' M' c v:=by
 cases c with
 |bptr id k j=>
  obtain⟨b,hv,hx⟩:=hr;exact⟨b,hv,λhd=>by rw[h.blk id k hd hf];exact hx ((h.ver id k hd).resolve_left hf)⟩
 |_=>exact h.irep hr
def C.free (nv:Nat->Nat->Prop):C->Prop
 | .own id k _ _=>¬nv id k
 | .sub id k _ _ _=>¬nv id k
 | .bptr id k _=>¬nv id k
 | .rptr id k _ _ _=>¬nv id k
 | .fn _ caps=>∀c∈caps,capFree nv c
 | .yl _ _ _ caps=>∀c∈caps,capFree nv c
 |_=>True
theorem jV {α:Type} {l:List α} {j:Nat} {d:α} (h:j<l.length):l.getD j d∈l:=by
 rw[List.getD_eq_getElem?_getD,List.getElem?_eq_getElem h];exact List.getElem_mem h
theorem Ext.crep (h:Ext M w M' w' wr nv) {c:C} {v:Value} (hf:c.free nv) (hr:CRep w M c v):CRep w' M' c v:=by
 cases c with
 |own id k sz len=>
  rcases hr with h0|⟨b,cap,hv,h1,h2,hx⟩
  ·exact .inl h0
  ·refine .inr ⟨b,cap,hv,h1,h2,λhd=>?_⟩;obtain⟨hb,arr,e,hh,h3⟩:=hx ((h.ver id k hd).resolve_left hf);obtain⟨arr',ha,hs⟩:=h.shape b arr e hh;exact⟨by rw[h.blk id k hd hf];exact hb,arr',e,ha,by omega⟩
 |sub id k sz off len=>
  rcases hr with h0|⟨b,cap,hv,h1,h2,hx⟩
  ·exact .inl h0
  ·refine .inr ⟨b,cap,hv,h1,h2,λhd=>?_⟩;obtain⟨hb,arr,e,hh,h3⟩:=hx ((h.ver id k hd).resolve_left hf);obtain⟨arr',ha,hs⟩:=h.shape b arr e hh;exact⟨by rw[h.blk id k hd hf];exact hb,arr',e,ha,by omega⟩
 |bptr id k j=>
  obtain⟨b,hv,hx⟩:=hr;exact⟨b,hv,λhd=>by rw[h.blk id k hd hf];exact hx ((h.ver id k hd).resolve_left hf)⟩
 |rptr id k sz i j=>
  obtain⟨b,hv,hx⟩:=hr;exact⟨b,hv,λhd=>by rw[h.blk id k hd hf];exact hx ((h.ver id k hd).resolve_left hf)⟩
 |fn g caps=>
  obtain⟨vs,hv,hs,hx⟩:=hr;exact⟨vs,hv,hs,λj hj=>h.cap (hf _ (jV hj)) (hx j hj)⟩
 |yl R b ts caps=>exact⟨hr.1,λj hj=>h.cap (hf _ (jV hj)) (hr.2 j hj)⟩
 |unk=>exact hr
 |val v=>exact h.irep hr
 |emp=>exact h.irep hr
 |lst n f=>exact h.irep hr
 |lptr cs=>exact h.irep hr
 |aptr n sz f=>exact h.irep hr
def qDy (nv:Nat->Nat->Prop) (cs:List C):Prop:=∀c∈cs,c.free nv
theorem Ext.csrep (h:Ext M w M' w' wr nv) {cs:List C} {vs:Array Value} (hf:qDy nv cs) (hr:wX w M cs vs):wX w' M' cs vs:=
 ⟨hr.1,λj hj=>h.crep (hf _ (jV hj)) (hr.2 j hj)⟩
def V1.free (nv:Nat->Nat->Prop):V1->Prop
 | .one c=>c.free nv
 | .agg cs=>qDy nv cs
def V.free (nv:Nat->Nat->Prop):V->Prop
 | .v x=>x.free nv
 | .tup xs=>∀x∈xs,x.free nv
 |_=>True
def O.free (nv:Nat->Nat->Prop):O->Prop
 | .box _ cs=>qDy nv cs
 |_=>True
theorem Ext.v1rep (h:Ext M w M' w' wr nv) {x:V1} {v:Value} (hf:x.free nv) (hr:qR w M x v):qR w' M' x v:=by
 cases x with
 |one c=>exact h.crep hf hr
 |agg cs=>
  obtain⟨vs,hv,hc⟩:=hr;exact⟨vs,hv,h.csrep hf hc⟩
theorem Ext.vrep (h:Ext M w M' w' wr nv) {x:V} {v:Value} (hf:x.free nv) (hr:VRep w M x v):VRep w' M' x v:=by
 cases x with
 |any=>trivial
 |undef=>exact hr
 |v x=>exact h.v1rep hf hr
 |tup xs=>
  obtain⟨vs,hv,hs,hc⟩:=hr;exact⟨vs,hv,hs,λj hj=>h.v1rep (hf _ (jV hj)) (hc j hj)⟩
theorem Ext.orep (h:Ext M w M' w' wr nv)
  (hinj:∀i j k l b,M.ver i=some k->M.ver j=some l->M.blk i=some b->M.blk j=some b->i=j) (hlt:∀i k b,M.ver i=some k->M.blk i=some b->b<w.heap.size)
  (hnv:∀i k,nv i k->wr i) {id k:Nat} {o:O} (hid:¬wr id) (hf:o.free nv) (hr:ORep w M id k o):ORep w' M' id k o:=by
 have hrb:¬nv id k:=λhm=>hid (hnv id k hm);have hd:=hr.ver;have hd':=h.keep id k hd hid;have hsame:∀b,M.blk id=some b->w'.heap[b]? =w.heap[b]? :=λb hb=>h.heap b (hlt id k b hd hb) λi l hw hdi hbi=>hid (hinj i id l k b hdi hd hbi hb▸hw);cases o with
 |box e cs=>
  obtain⟨_,b,arr,hb,hh,hc⟩:=hr;exact⟨hd',b,arr,by rw[h.blk id k hd' hrb];exact hb,by rw[hsame b hb];exact hh,h.csrep hf hc⟩
 |row e sz n f=>
  refine⟨hd',?_⟩;rcases hr.2 with⟨hb,hn⟩|⟨b,arr,hb,hh,hs,hc⟩
  ·exact .inl ⟨by rw[h.blk id k hd' hrb];exact hb,hn⟩
  ·exact .inr ⟨b,arr,by rw[h.blk id k hd' hrb];exact hb,by rw[hsame b hb];exact hh,hs,λi hi=>⟨(hc i hi).1,λj hj=>h.irep ((hc i hi).2 j hj)⟩⟩
 |lp R b s j=>
  obtain⟨_,hb,hh⟩:=hr;exact⟨hd',by rw[h.blk id k hd' hrb];exact hb,by rw[hsame b hb];exact hh⟩
theorem Ext.mark (h:Ext M w M' w' wr nv) {n:Nat} {d:Deferred} (hm:qF3 w M n d):qF3 w' M' n d:=by
 obtain⟨D,rfl,h1,h2,h3⟩:=hm;have hlt:D<w.heap.size:=(Array.getElem?_eq_some_iff.1 h2).1;refine⟨D,rfl,h1,?_,fun⟨i,k,hv,hb⟩=>?_⟩
 ·rw[h.heap D hlt λi k _ hd hb=>h3 ⟨i,k,hd,hb⟩];exact h2
 ·by_cases hn:nv i k
  ·rcases h.fresh i k D hn hv hb with h4|⟨k',h4,h5⟩
   ·omega
   ·exact h3 ⟨i,k',h4,h5⟩
  ·exact h3 ⟨i,k,(h.ver i k hv).resolve_left hn,by rw[<-h.blk i k hv hn];exact hb⟩
end
def St.app (st:St) (dst:Option Nat) (x:V) (ob:List (Nat×(Nat×O))):St:=
 {slots:=(match dst with|some d=>[(d,x)]|none=>[])++st.slots,objs:=ob++st.objs}
def hits (ob:List (Nat×(Nat×O))) (i:Nat):Prop:=(look i ob).isSome=true
def St.free (nv:Nat->Nat->Prop) (st:St):Prop:=(∀s x,look s st.slots=some x->x.free nv)/\(∀i k o,look i st.objs=some (k,o)->o.free nv)
def qZ (nv:List (Nat×Nat)) (i k:Nat):Prop:=(i,k)∈nv
def StepW (K:Ctx) (st:St) (o:Oper) (nv:List (Nat×Nat)) (ob:List (Nat×(Nat×O))) (x:V):Prop:=
 ∀M a w,Sim K M st a w->(∀i k,(i,k)∈nv->(look i st.objs).isSome=true\/M.ver i=none)->
  o.wp K.P a w (λa' w'=>∃v M',a'=a.put o.dst v/\Ext M w M' w' (hits ob) (qZ nv)/\VRep w' M' x v/\(∀i k o,look i ob=some (k,o)->ORep w' M' i k o)/\
   (∀i,M'.ver i≠none->M.ver i≠none\/hits ob i)) (λ_ _ _=>False)
def AC :Op->Bool
 | .defer _=>false
 |_=>true
theorem qOD {op:Op} (h:AC op=true):∀c,op≠ .defer c:=by
 rintro c rfl;cases h
theorem qMw {r:Option Nat} {n:Nat} (h:(qA3 r).depth.isSome=true):1<=n:=by simp[qA3,Fence.wide] at h
theorem qQq {r:Option Nat} {n:Nat} {P:Program} {f:FuncId} {args:Array Value} {w:World} {R:Ending->World->Prop}:CallsIn (qA3 r) n P f args w R↔Calls P f args w R:=callsIn_wide
theorem qQ3 {r:Option Nat} {n:Nat} {P:Program} {row:String} {args:Array Value} {w:World} {R:Value->World->Prop} (h:Rows P row args w R):RowsIn (qA3 r) n P row args w R:=λc cs _=>by
 obtain⟨v,w',h1,h2⟩:=h c cs;exact⟨v,w',h1,stepsIn_wide.2 h2⟩
theorem Oper.wpIn_of_wp {r:Option Nat} {P:Program} {o:Oper} {a:Act} {w:World} {K:Act->World->Prop} {Q:Exit->Act->World->Prop} (hd:AC o.op=true) (h:o.wp P a w K Q):o.wpIn (qA3 r) 0 P a w K Q:=by
 refine⟨λ_ _=>trivial,?_⟩;rw[Oper.semAt_eq _ _ _ (qOD hd)];unfold Oper.wp at h;generalize (execOp a.eval o).run P w=x at*;cases x with
 |ok n w'=>
  cases n<;>simp only[Oper.upon,Oper.uponIn] at h⊢<;>
   first
    |exact h
    |exact⟨qMw,qQq.2 h⟩
    |exact⟨qMw,qQ3 h⟩
    |exact h.elim
 |halt x w'=>cases x<;>simp only[Oper.upon,Oper.uponIn] at h⊢<;>first|exact h.elim|exact h
def Step (K:Ctx) (st:St) (o:Oper) (nv:List (Nat×Nat)) (ob:List (Nat×(Nat×O))) (x:V):Prop:=
 ∀M a w,Sim K M st a w->(∀i k,(i,k)∈nv->(look i st.objs).isSome=true\/M.ver i=none)->
  o.wpIn K.F 0 K.P a w (λa' w'=>∃v M',a'=a.put o.dst v/\Ext M w M' w' (hits ob) (qZ nv)/\VRep w' M' x v/\(∀i k o,look i ob=some (k,o)->ORep w' M' i k o)/\
   (∀i,M'.ver i≠none->M.ver i≠none\/hits ob i)) (λ_ _ _=>False)
theorem ZF {K:Ctx} {st:St} {o:Oper} {nv:List (Nat×Nat)} {ob:List (Nat×(Nat×O))} {x:V} (hd:AC o.op=true) (h:StepW K st o nv ob x):Step K st o nv ob x:=λM a w hs hn=>Oper.wpIn_of_wp hd (h M a w hs hn)
theorem Sim.step {K:Ctx} {M:Mem} {st:St} {a:Act} {w:World} (h:Sim K M st a w) {dst:Option Nat} {nv:List (Nat×Nat)} {ob:List (Nat×(Nat×O))} {x:V} {v:Value} {M':Mem} {w':World}
  (he:Ext M w M' w' (hits ob) (qZ nv)) (hx:VRep w' M' x v) (ho:∀i k o,look i ob=some (k,o)->ORep w' M' i k o) (hnv:∀i k,(i,k)∈nv->hits ob i)
  (hf:st.free (qZ nv)) (hfx:∀i k,(i,k)∈nv->K.m<=i) (hd:∀d,dst=some d->d<K.nt):Sim K M' (st.app dst x ob) (a.put dst v) w' where
 inj:=he.inj
 rng:=λi k b hv hb=>by
  refine⟨?_,he.rng i k b hv hb⟩;by_cases hn:qZ nv i k
  ·rcases he.fresh i k b hn hv hb with h1|⟨k',h1,h2⟩
   ·exact .inl (Nat.le_trans h.below.size h1)
   ·exact(h.rng i k' b h1 h2).1
  ·exact(h.rng i k b ((he.ver i k hv).resolve_left hn) (by rw[<-he.blk i k hv hn];exact hb)).1
 fix:=λi k him hv=>by
  have hn:¬qZ nv i k:=λhn=>by have:=hfx i k hn;omega
  rw[he.blk i k hv hn];exact h.fix i k him ((he.ver i k hv).resolve_left hn)
 below:=⟨he.os.trans h.below.os,he.tape.trans h.below.tape,he.output.trans h.below.output,Nat.le_trans h.below.size he.size,λb hb hnb=>
  (he.heap b (Nat.lt_of_lt_of_le hb h.below.size) λi k _ hv hbi=>by
   rcases(h.rng i k b hv hbi).1 with h1|h1
   ·omega
   ·exact hnb ⟨i,h1⟩).trans (h.below.block b hb hnb),Nat.le_trans h.below.drawn he.drawn⟩
 shape:=h.shape.trans he.shape
 area:=λb=>by rw[he.area];exact h.area b
 size:=by rw[<-h.size];cases dst<;>simp[Act.put]
 defers:=by
  have:(a.put dst v).defers=a.defers:=by cases dst<;>rfl
  rw[this];exact⟨λd hd=>he.mark (h.defers.1 d hd),h.defers.2⟩
 slots:=λs y hy=>by
  cases dst with
  |none=>exact he.vrep (hf.1 s y hy) (h.slots s y hy)
  |some d=>
   have hlt:d<a.tmps.size:=by rw[h.size];exact hd d rfl
   simp only[St.app,List.cons_append,List.nil_append,look_cons] at hy;by_cases hds:d=s
   ·subst hds;simp only[if_true,Option.some.injEq] at hy;subst hy;have:(a.put (some d) v).tmps.getD d undef=v:=by simp[Act.put,hlt]
    rw[this];exact hx
   ·simp only[hds,if_false] at hy;have:(a.put (some d) v).tmps.getD s undef=a.tmps.getD s undef:=by simp[Act.put,Array.getElem?_setIfInBounds_ne hds]
    rw[this];exact he.vrep (hf.1 s y hy) (h.slots s y hy)
 objs:=λi k o hi=>by
  simp only[St.app,qDo] at hi;cases hl:look i ob with
  |some p=>
   obtain⟨k',o'⟩:=p;rw[hl] at hi;simp only[Option.some_or,Option.some.injEq,Prod.mk.injEq] at hi;obtain⟨rfl,rfl⟩:=hi;exact ho _ _ _ hl
  |none=>
   rw[hl] at hi;simp only[Option.none_or] at hi;exact he.orep h.inj (λi k b hv hb=>(h.rng i k b hv hb).2) hnv (by simp[hits,hl]) (hf.2 i k o hi) (h.objs i k o hi)
end Go.SL

namespace Go.SL
open Go.RowKit
def Sim1 (K:Ctx) (M:Mem) (st:St) (a:Act) (w:World):Prop:=Sim K M st a w/\∀i,M.ver i≠none->hits st.objs i
def Post (K:Ctx) (Q:Exit->St->Prop) (e:Exit) (a:Act) (w:World):Prop:=∃M st,Q e st/\Sim1 K M st a w
def H (K:Ctx) (st:St) (c:Code) (Q:Exit->St->Prop):Prop:=∀M a w,Sim1 K M st a w->c.wpIn K.F 0 K.P (Post K Q) a w
def opAt (ops:Array Oper) (i:Nat):Oper:=(ops[i]?).getD default
theorem XY {ops:Array Oper} {i:Nat} (h:i<ops.size):ops[i]? =some (opAt ops i):=by
 simp[opAt,h]
def gd (ops:Array Oper) (st:St) (o:Oper):Option Bool:=
 match o.guard with
 |none=>some true
 |some (j,want)=>
  match (opAt ops j).dst with
  |none=>none
  |some d=>
   match look d st.slots with
   |some (.v (.one (.val (.bool b))))=>some (b==want)
   |some .undef=>some false
   |_=>none
theorem qEi {K:Ctx} {ops:Array Oper} {st:St} {o:Oper} {M:Mem} {a:Act} {w:World} (h:Sim K M st a w) {b:Bool} (hg:gd ops st o=some b)
  (hj:∀j want,o.guard=some (j,want)->j<ops.size) (hd:∀j d,(opAt ops j).dst=some d->d<K.nt):Region.wanted o (yielded ops a.tmps)=b:=by
 unfold gd at hg;unfold Region.wanted;cases hgd:o.guard with
 |none=>rw[hgd] at hg;simpa using hg
 |some p=>
  obtain⟨j,want⟩:=p;rw[hgd] at hg;simp only at hg⊢;cases hdj:(opAt ops j).dst with
  |none=>rw[hdj] at hg;cases hg
  |some d=>
   rw[hdj] at hg;simp only at hg;have hlt:d<a.tmps.size:=by rw[h.size];exact hd j d hdj
   have hy:yielded ops a.tmps j=match a.tmps.getD d undef with| .bool b=>some b|_=>none:=by
    unfold yielded;rw[XY (hj j want hgd)];simp only[Option.bind_some,hdj,Array.getElem?_eq_getElem hlt,Array.getD_eq_getD_getElem?,Option.getD_some];cases a.tmps[d]<;>rfl
   cases hl:look d st.slots with
   |none=>rw[hl] at hg;cases hg
   |some x=>
    have hr:=h.slots d x hl;rw[hl] at hg;rw[hy];split at hg
    ·rename_i b' heq;cases heq;have hv:=IRep.val_eq hr;rw[hv];simp only[Option.some.injEq] at hg;rw[<-hg];cases b'<;>cases want<;>rfl
    ·rename_i heq;cases heq;have hr':a.tmps.getD d undef=undef:=hr;rw[hr'];simp only[Option.some.injEq] at hg;rw[<-hg];rfl
    ·cases hg
theorem CallsIn.mono' {F:Fence} {n:Nat} {P:Program} {f:FuncId} {args:Array Value} {w:World} {R R':Ending->World->Prop} (h:CallsIn F n P f args w R) (hr:∀e w,R e w->R' e w):CallsIn F n P f args w R':=
 ⟨h.1,λcs hroom=>let ⟨e,w',fr,r,s⟩:=h.2 cs hroom;⟨e,w',fr,hr _ _ r,s⟩⟩
theorem Oper.wp_any {F:Fence} {P:Program} {o:Oper} {a:Act} {w:World} {K K':Act->World->Prop} {Q Q':Exit->Act->World->Prop} (h:∀a w,K a w->K' a w) (hq:∀e a w,Q e a w->Q' e a w)
  (hh:o.wpIn F 0 P a w K Q):o.wpIn F 0 P a w K' Q':=by
 refine⟨hh.1,?_⟩;have hh:=hh.2;generalize (o.semAt F.round a.eval).run P w=r at*;cases r with
 |ok n w'=>
  cases n<;>simp only[Oper.uponIn] at hh⊢<;>
   first
    |exact h _ _ hh
    | exact⟨hh.1,CallsIn.mono' hh.2 (λe w'' he=>by
      cases e with
      |returned v=>exact h _ _ he
      |panicked c=>exact hq _ _ _ he
      |outgrown=>obtain⟨a,w,hq'⟩:=he;exact⟨a,w,hq _ _ _ hq'⟩)⟩
    |exact⟨hh.1,RowsIn.mono hh.2 (λ_ _ he=>h _ _ he)⟩
    | exact⟨hh.1,RoundIn.mono hh.2 (λe w'' he=>by
      cases e with
      |returned v=>exact h _ _ he
      |panicked c=>exact hq _ _ _ he
      |outgrown=>obtain⟨a,w,hq'⟩:=he;exact⟨a,w,hq _ _ _ hq'⟩)⟩
    |exact hh.elim
 |halt x w'=>cases x<;>simp only[Oper.uponIn] at hh⊢<;>first|exact hh.elim|exact hq _ _ _ hh
theorem Ext.same {K:Ctx} {M:Mem} {st:St} {a:Act} {w:World} (h:Sim K M st a w) {w':World} (hh:w'.heap=w.heap) (h1:w'.os=w.os) (h2:w'.tape=w.tape) (h3:w'.output=w.output) (h4:w.drawn<=w'.drawn:=by first|exact Nat.le_refl _|exact Nat.le_succ _):
  Ext M w M w' (hits []) (qZ []):=
 ⟨λ_ _ h=> .inr h,λ_ _ h _=>h,λ_ _ _ _=>rfl,λ_ _ _ h=>(by cases h),h.inj,λi k b h1 h2=>by rw[hh];exact(h.rng i k b h1 h2).2,λ_ _ _=>by rw[hh],λb arr e h=>⟨arr,by rw[hh];exact h,rfl⟩,
  by rw[hh];exact Nat.le_refl _,rfl,h1,h2,h3,h4⟩
def HOps (K:Ctx) (ops:Array Oper) (i:Nat) (st:St) (Q:Exit->St->Prop):Prop:=
 ∀M a w,Sim1 K M st a w->wpOpsIn K.F 0 K.P ops (Post K Q) (List.range' i (ops.size-i)) a w
theorem qNg {K:Ctx} {st:St} {id:Nat} {ops:Array Oper} {Q:Exit->St->Prop} (h:HOps K ops 0 st Q):H K st (.region id ops false) Q:=
 λM a w hs=>wpIn_region (by rw[List.range_eq_range'];exact h M a w hs)
def dstOk (nt:Nat):Option Nat->Bool
 |none=>true
 |some d=>Nat.blt d nt
theorem qR5 {nt:Nat} {dst:Option Nat} (h:dstOk nt dst=true):∀d,dst=some d->d<nt:=by
 rintro d rfl;simpa[dstOk,Nat.blt_eq] using h
def LQ (nt:Nat) (ops:Array Oper):Bool:=
 ops.toList.all λo=>dstOk nt o.dst&&(match o.guard with|none=>true|some (j,_)=>Nat.blt j ops.size)
theorem KU {nt:Nat} {ops:Array Oper} (h:LQ nt ops=true) (j d:Nat) (hd:(opAt ops j).dst=some d):d<nt:=by
 by_cases hj:j<ops.size
 ·have:=List.all_eq_true.1 h (opAt ops j) (by have:=XY hj;exact Array.mem_toList_iff.2 (Array.mem_of_getElem? this));simp only[Bool.and_eq_true] at this;exact qR5 this.1 d hd
 ·simp[opAt,hj] at hd;cases hd
theorem zbQ {nt:Nat} {ops:Array Oper} (h:LQ nt ops=true) {i:Nat} (hi:i<ops.size):∀j want,(opAt ops i).guard=some (j,want)->j<ops.size:=by
 intro j want hg;have:=List.all_eq_true.1 h (opAt ops i) (by have:=XY hi;exact Array.mem_toList_iff.2 (Array.mem_of_getElem? this));simp only[Bool.and_eq_true,hg] at this;simpa[Nat.blt_eq] using this.2
theorem qC8 {i n:Nat} (h:i<n):List.range' i (n-i)=i::List.range' (i+1) (n-(i+1)):=by
 have:n-i=(n-(i+1))+1:=by omega
 rw[this,List.range'_succ]
theorem qR6 (c:C):c.free (qZ []):=by
 have hcp:∀c:C,capFree (qZ []) c:=λc=>by cases c<;>simp[capFree,qZ]
 cases c<;>simp[C.free,qZ,hcp]
theorem qDV (st:St):st.free (qZ []):=by
 have hcp:∀c:C,capFree (qZ []) c:=λc=>by cases c<;>simp[capFree,qZ]
 have hc:∀c:C,c.free (qZ []):=λc=>by cases c<;>simp[C.free,qZ,hcp]
 have hcs:∀cs,qDy (qZ []) cs:=λcs c _=>hc c;have hx:∀x:V1,x.free (qZ []):=λx=>by cases x<;>simp[V1.free,hc,hcs]
 refine⟨λs x _=>?_,λi k o _=>?_⟩
 ·cases x<;>simp[V.free,hx]
 ·cases o<;>simp[O.free,hcs]
def qA6 (nv:List (Nat×Nat)) (i k:Nat):Bool:=nv.any λp=>Nat.beq p.1 i&&Nat.beq p.2 k
theorem qK1 {nv:List (Nat×Nat)} {i k:Nat} (h:(i,k)∈nv):qA6 nv i k=true:=by
 simp only[qA6,List.any_eq_true];exact⟨(i,k),h,by simp⟩
def capFreeB (nv:List (Nat×Nat)):C->Bool
 | .bptr id k _=>!qA6 nv id k
 |_=>true
theorem qJM {nv:List (Nat×Nat)} {c:C} (h:capFreeB nv c=true):capFree (qZ nv) c:=by
 cases c with
 |bptr id k j=>intro hm;simp[capFreeB,qK1 hm] at h
 |_=>trivial
def C.freeB (nv:List (Nat×Nat)):C->Bool
 | .own id k _ _=>!qA6 nv id k
 | .sub id k _ _ _=>!qA6 nv id k
 | .bptr id k _=>!qA6 nv id k
 | .rptr id k _ _ _=>!qA6 nv id k
 | .fn _ caps=>caps.all (capFreeB nv)
 | .yl _ _ _ caps=>caps.all (capFreeB nv)
 |_=>true
theorem C.free_of {nv:List (Nat×Nat)} {c:C} (h:c.freeB nv=true):c.free (qZ nv):=by
 cases c with
 |fn g caps=>exact λc hc=>qJM (List.all_eq_true.1 h c hc)
 |yl R b ts caps=>exact λc hc=>qJM (List.all_eq_true.1 h c hc)
 |_=>first|trivial|(intro hm;simp[C.freeB,qK1 hm] at h)
def V1.freeB (nv:List (Nat×Nat)):V1->Bool
 | .one c=>c.freeB nv
 | .agg cs=>cs.all (C.freeB nv)
def V.freeB (nv:List (Nat×Nat)):V->Bool
 | .v x=>x.freeB nv
 | .tup xs=>xs.all (V1.freeB nv)
 |_=>true
def O.freeB (nv:List (Nat×Nat)):O->Bool
 | .box _ cs=>cs.all (C.freeB nv)
 |_=>true
theorem qFn {nv:List (Nat×Nat)} {cs:List C} (h:cs.all (C.freeB nv)=true):qDy (qZ nv) cs:=λc hc=>C.free_of (List.all_eq_true.1 h c hc)
theorem V1.free_of {nv:List (Nat×Nat)} {x:V1} (h:x.freeB nv=true):x.free (qZ nv):=by
 cases x with
 |one c=>exact C.free_of h
 |agg cs=>exact qFn h
theorem V.free_of {nv:List (Nat×Nat)} {x:V} (h:x.freeB nv=true):x.free (qZ nv):=by
 cases x with
 |v x=>exact V1.free_of h
 |tup xs=>exact λx hx=>V1.free_of (List.all_eq_true.1 h x hx)
 |_=>trivial
theorem O.free_of {nv:List (Nat×Nat)} {o:O} (h:o.freeB nv=true):o.free (qZ nv):=by
 cases o with
 |box e cs=>exact qFn h
 |row e sz n f=>trivial
 |lp R b s j=>trivial
def St.freeB (nv:List (Nat×Nat)) (st:St):Bool:=st.slots.all (λp=>p.2.freeB nv)&&st.objs.all (λp=>p.2.2.freeB nv)
theorem St.free_of {nv:List (Nat×Nat)} {st:St} (h:st.freeB nv=true):st.free (qZ nv):=by
 simp only[St.freeB,Bool.and_eq_true] at h;exact⟨λs x hl=>V.free_of (List.all_eq_true.1 h.1 _ (look_mem hl)),λi k o hl=>O.free_of (List.all_eq_true.1 h.2 _ (look_mem hl))⟩
def nvOk (nv:List (Nat×Nat)) (ob:List (Nat×(Nat×O))):Bool:=nv.all λp=>(look p.1 ob).isSome
theorem qLo {nv:List (Nat×Nat)} {ob:List (Nat×(Nat×O))} (h:nvOk nv ob=true):∀i k,(i,k)∈nv->hits ob i:=λi k hm=>List.all_eq_true.1 h (i,k) hm
def GY (m:Nat) (nv:List (Nat×Nat)):Bool:=nv.all λp=>Nat.ble m p.1
theorem qSk {m:Nat} {nv:List (Nat×Nat)} (h:GY m nv=true):∀i k,(i,k)∈nv->m<=i:=λi k hm=>Nat.le_of_ble_eq_true (List.all_eq_true.1 h (i,k) hm)
theorem qOn {l r:List (Nat×(Nat×O))} {i:Nat}:hits (l++r) i↔hits l i\/hits r i:=by
 simp only[hits,qDo];cases look i l<;>simp
theorem Sim1.step {K:Ctx} {M:Mem} {st:St} {a:Act} {w:World} (h:Sim1 K M st a w) {dst:Option Nat} {nv:List (Nat×Nat)} {ob:List (Nat×(Nat×O))} {x:V} {v:Value} {M':Mem} {w':World}
  (he:Ext M w M' w' (hits ob) (qZ nv)) (hx:VRep w' M' x v) (ho:∀i k o,look i ob=some (k,o)->ORep w' M' i k o) (hv:∀i,M'.ver i≠none->M.ver i≠none\/hits ob i) (hnv:nvOk nv ob=true)
  (hf:st.free (qZ nv)) (hfx:GY K.m nv=true) (hd:∀d,dst=some d->d<K.nt):Sim1 K M' (st.app dst x ob) (a.put dst v) w':=
 ⟨h.1.step he hx ho (qLo hnv) hf (qSk hfx) hd,λi hi=>by
  show hits (ob++st.objs) i;rw[qOn];exact(hv i hi).symm.imp id (h.2 i)⟩
theorem Sim1.drew {K:Ctx} {M:Mem} {st:St} {a:Act} {w:World} (h:Sim1 K M st a w):Sim1 K M st a {w with drawn:=w.drawn+1}:=by
 have he:Ext M w M {w with drawn:=w.drawn+1} (hits []) (qZ []):=Ext.same h.1 rfl rfl rfl rfl;have:=h.step (dst:=none) (nv:=[]) (ob:=[]) (x:= .any) (v:=undef) he trivial (λi k o h=>by cases h) (λi hi=> .inl hi) rfl (qDV st) rfl (λd hd=>by cases hd);exact this
theorem qLv {K:Ctx} {ops:Array Oper} {i:Nat} {st:St} {Q:Exit->St->Prop} (hok:LQ K.nt ops=true) (hi:Nat.blt i ops.size=true) (hg:gd ops st (opAt ops i)=some true)
  {nv:List (Nat×Nat)} {ob:List (Nat×(Nat×O))} {x:V} (hs:Step K st (opAt ops i) nv ob x) (hnv:nvOk nv ob=true) (hf:st.free (qZ nv)) (hfx:GY K.m nv=true)
  (h:HOps K ops (i+1) (st.app (opAt ops i).dst x ob) Q):HOps K ops i st Q:=by
 intro M a w hsim;have hi':i<ops.size:=by simpa[Nat.blt_eq] using hi
 rw[qC8 hi'];simp only[wpOpsIn,XY hi',qEi hsim.1 hg (zbQ hok hi') (KU hok),if_true];refine(Oper.wp_any ?_ (λ_ _ _ hf=>hf.elim) (hs M a w hsim.1 λj k _=>?_))
 ·rintro a' w' ⟨v,M',rfl,he,hx,ho,hv⟩;exact h M' _ w' (hsim.step he hx ho hv hnv hf hfx (KU hok i))
 ·by_cases hv:M.ver j=none
  ·exact .inr hv
  ·exact .inl (hsim.2 j hv)
theorem qQE {K:Ctx} {ops:Array Oper} {i:Nat} {st:St} {Q:Exit->St->Prop} (hok:LQ K.nt ops=true) (hi:Nat.blt i ops.size=true) (hg:gd ops st (opAt ops i)=some false)
  (h:HOps K ops (i+1) (st.app (opAt ops i).dst .undef []) Q):HOps K ops i st Q:=by
 intro M a w hsim;have hi':i<ops.size:=by simpa[Nat.blt_eq] using hi
 rw[qC8 hi'];have hw:=qEi hsim.1 hg (zbQ hok hi') (KU hok);simp only[wpOpsIn,XY hi',hw,Bool.false_eq_true,if_false];refine⟨λ_ _=>trivial,?_⟩;refine h M _ w (hsim.step (nv:=[]) (ob:=[]) (w':=w) (M':=M) ?_ rfl (λi k o h=>by cases h) (λi hi=> .inl hi) rfl (qDV st) rfl (KU hok i));exact⟨λ_ _ h=> .inr h,λ_ _ h _=>h,λ_ _ _ _=>rfl,λ_ _ _ h=>(by cases h),hsim.1.inj,λi k b h1 h2=>(hsim.1.rng i k b h1 h2).2,λ_ _ _=>rfl,λb arr e h=>⟨arr,h,rfl⟩,Nat.le_refl _,rfl,rfl,rfl,rfl,Nat.le_refl _⟩
def qMk (b:Bool):V:= .v (.one (.val (.bool b)))
def qEL (Q:Exit->St->Prop) (N:St->Prop):Exit->St->Prop
 | .normal,st=>N st
 |e,st=>Q e st
theorem Post.mono {K:Ctx} {Q Q':Exit->St->Prop} (h:∀e st,Q e st->Q' e st) {e:Exit} {a:Act} {w:World}:Post K Q e a w->Post K Q' e a w:=
 fun⟨M,st,hq,hs⟩=>⟨M,st,h e st hq,hs⟩
theorem H_mono {K:Ctx} {st:St} {c:Code} {Q Q':Exit->St->Prop} (h:H K st c Q) (hq:∀e st,Q e st->Q' e st):H K st c Q':=
 λM a w hs=>wpIn_mono (h M a w hs) λ_ _ _=>Post.mono hq
theorem H_seq {K:Ctx} {st:St} {x y:Code} {Q:Exit->St->Prop} (h:H K st x (qEL Q λst'=>H K st' y Q)):H K st (.seq x y) Q:=by
 intro M a w hs;refine wpIn_seq (wpIn_mono (h M a w hs) ?_);rintro e a' w' ⟨M',st',hq,hs'⟩;cases e with
 |normal=>exact hq M' a' w' hs'
 |_=>exact⟨M',st',hq,hs'⟩
theorem H_skip {K:Ctx} {st:St} {Q:Exit->St->Prop} (h:Q .normal st):H K st .skip Q:=λM _ _ hs=>wpIn_skip ⟨M,st,h,hs⟩
theorem H_ret {K:Ctx} {st:St} {Q:Exit->St->Prop} (h:Q .ret st):H K st .ret Q:=λM _ _ hs=>wpIn_ret ⟨M,st,h,hs⟩
theorem H_exit {K:Ctx} {st:St} {id:Nat} {Q:Exit->St->Prop} (h:Q (.exit id) st):H K st (.exit id) Q:=λM _ _ hs=>wpIn_exit ⟨M,st,h,hs⟩
def qBw (id:Nat) (Q:Exit->St->Prop):Exit->St->Prop
 | .exit id',st=>bif Nat.beq id' id then Q .normal st else Q (.exit id') st
 |e,st=>Q e st
theorem qJ6 {K:Ctx} {st:St} {id:Nat} {c:Code} {Q:Exit->St->Prop} (h:H K st c (qBw id Q)):H K st (.block id c) Q:=by
 intro M a w hs;refine wpIn_block (wpIn_mono (h M a w hs) ?_);rintro e a' w' ⟨M',st',hq,hs'⟩;cases e with
 |exit id'=>
  simp only[qBw] at hq;simp only[Exit.inBlock];split
  ·rename_i hid;subst hid;rw[Nat.beq_refl] at hq;exact⟨M',st',hq,hs'⟩
  ·rename_i hid;have:Nat.beq id' id=false:=by cases hb:Nat.beq id' id with|false=>rfl|true=>exact absurd (Nat.eq_of_beq_eq_true hb) hid
   rw[this] at hq;exact⟨M',st',hq,hs'⟩
 |_=>exact⟨M',st',hq,hs'⟩
def opB (st:St):Operand->Option Bool
 | .tmp t=>match look t st.slots with|some (.v (.one (.val (.bool b))))=>some b|_=>none
 | .const (.bool b)=>some b
 |_=>none
theorem qLa {K:Ctx} {M:Mem} {st:St} {a:Act} {w:World} (h:Sim K M st a w) {o:Operand} {b:Bool} (ho:opB st o=some b):a.eval o= .bool b:=by
 unfold opB at ho;split at ho
 ·rename_i t;split at ho
  ·rename_i b' heq;cases ho;exact IRep.val_eq (h.slots t _ heq)
  ·cases ho
 ·cases ho;rfl
 ·cases ho
theorem H_cond {K:Ctx} {st:St} {o:Operand} {x y:Code} {Q:Exit->St->Prop} (b:Bool) (ho:opB st o=some b) (ht:b=true->H K st x Q) (hf:b=false->H K st y Q):H K st (.cond o x y) Q:=
 λM a w hs=>wpIn_cond_split (qLa hs.1 ho) (λhb=>ht hb M a w hs) (λhb=>hf hb M a w hs)
def HL (K:Ctx) (c:Code) (Q:Exit->St->Prop) (n:Nat) (st:St):Prop:=∀M a w,Sim1 K M st a w->Code.roundsIn K.F 0 K.P c (Post K Q) n a w
theorem qRs {K:Ctx} {st:St} {c:Code} {Q:Exit->St->Prop} (n:Nat) (h:HL K c Q n st):H K st (.loop c) Q:=λM a w hs=>wpIn_loop_rounds n (h M a w hs)
theorem qM {K:Ctx} {st:St} {c:Code} {Q:Exit->St->Prop} {n:Nat} (h:H K st c (qEL Q λst'=>HL K c Q n st')):HL K c Q (n+1) st:=by
 intro M a w hs;rw[roundsIn_succ];refine wpIn_mono (h M a w hs) ?_;rintro e a' w' ⟨M',st',hq,hs'⟩;cases e with
 |normal=>exact hq M' a' w' hs'
 |_=>exact⟨M',st',hq,hs'⟩
end Go.SL

namespace Go.SL
open Go.RowKit
structure Ent where
  run:Bool
  x:V
  nv:List (Nat×Nat)
  ob:List (Nat×(Nat×O))
  rs:List Nat
  ro:List Nat
def St.only (st:St) (rs ro:List Nat):St:=
  {slots:=rs.filterMap λs=>(look s st.slots).map λx=>(s,x),objs:=ro.filterMap λi=>(look i st.objs).map λx=>(i,x)}
theorem YO {β:Type} {l:List (Nat×β)} {s:Nat} {x:β}:∀{rs:List Nat},look s (rs.filterMap λs=>(look s l).map λx=>(s,x))=some x->s∈rs/\look s l=some x
  | r::rs,h=>by
    simp only[List.filterMap_cons] at h;cases hl:look r l with
    |none=>rw[hl] at h;have:=YO (rs:=rs) h;exact⟨List.mem_cons_of_mem _ this.1,this.2⟩
    | some y=>
      rw[hl] at h;simp only[Option.map_some,look_cons] at h;split at h
      · rename_i he;subst he;cases h;exact⟨List.mem_cons_self,hl⟩
      · have:=YO (rs:=rs) h;exact⟨List.mem_cons_of_mem _ this.1,this.2⟩
def appE (ops:Array Oper) (k:Nat) (e:Ent) (st:St):St:=st.app (opAt ops k).dst e.x e.ob
def stg (ops:Array Oper) (S:Nat->Bool):St->Nat->List Ent->St
  |st,_,[]=>st
  |st,k,e::r=>stg ops S (bif S k then appE ops k e st else st) (k+1) r
def nvRo (st:St) (e:Ent):Bool:=e.nv.all λp=>e.ro.any (Nat.beq p.1)||(look p.1 st.objs).isNone
def qMq (K:Ctx) (ops:Array Oper) (k:Nat) (st:St) (e:Ent):Prop:=
  match e.run with
  |true=>gd ops (st.only e.rs e.ro) (opAt ops k)=some true/\nvRo st e=true/\Step K (st.only e.rs e.ro) (opAt ops k) e.nv e.ob e.x
  |false=>gd ops (st.only e.rs e.ro) (opAt ops k)=some false/\e.x= .undef/\e.ob=[]/\e.nv=[]
def AK (K:Ctx) (ops:Array Oper):Nat->St->List Ent->Prop
  |_,_,[]=>True
  |k,st,e::r=>qMq K ops k st e/\AK K ops (k+1) (appE ops k e st) r
theorem qIk (ops:Array Oper) (S:Nat->Bool):∀(es:List Ent) (st:St) (k:Nat),(∀m,k<=m->S m=false)->stg ops S st k es=st
  |[],_,_,_=>rfl
  | e::r,st,k,h=>by
    simp only[stg,h k (Nat.le_refl k),cond_false];exact qIk ops S r st (k+1) λm hm=>h m (by omega)
theorem AK.get {K:Ctx} {ops:Array Oper}:∀{es:List Ent} {k:Nat} {st:St},AK K ops k st es->∀j e,es[j]? =some e->qMq K ops (k+j) (stg ops (λm=>Nat.blt m (k+j)) st k es) e
  | e::r,k,st,h,0,e',he=>by
    cases he;have:stg ops (λm=>Nat.blt m (k+0)) st k (e::r)=st:=qIk _ _ _ _ _ λm hm=>Bool.eq_false_iff.2 λh=>by rw[Nat.blt_eq] at h;omega
    rw[this];exact h.1
  | e::r,k,st,h,j+1,e',he=>by
    have:=AK.get h.2 j e' he;have hk:k+1+j=k+(j+1):=by omega
    rw[hk] at this;have hb:Nat.blt k (k+(j+1))=true:=by rw[Nat.blt_eq];omega
    simp only[stg,hb,cond_true];exact this
def memB (l:List Nat) (x:Nat):Bool:=l.any (Nat.beq x)
theorem qKQ {l:List Nat} {x:Nat} (h:x∈l):memB l x=true:=by
  simp only[memB,List.any_eq_true];exact⟨x,h,by simp⟩
def keys (ob:List (Nat×(Nat×O))):List Nat:=ob.map (·.1)
def qIO (a b:List Nat):Bool:=a.any (memB b)
def dstIn (dst:Option Nat) (l:List Nat):Bool:=match dst with|none=>false|some d=>memB l d
def sameDst (a b:Option Nat):Bool:=match a,b with|some d,some e=>Nat.beq d e|_,_=>false
theorem qEt {a b:List Nat} {x:Nat} (ha:x∈a) (hb:x∈b):qIO a b=true:=by
  simp only[qIO,List.any_eq_true];exact⟨x,ha,qKQ hb⟩
theorem qA4 {ob:List (Nat×(Nat×O))} {i:Nat} (h:hits ob i):i∈keys ob:=by
  simp only[hits,Option.isSome_iff_exists] at h;obtain⟨p,hp⟩:=h;exact List.mem_map.2 ⟨_,look_mem hp,rfl⟩
def qMm (e:Ent) (nv:List (Nat×Nat)):Bool:=e.x.freeB nv&&e.ob.all λp=>p.2.2.freeB nv
def qGG (ops:Array Oper) (k:Nat) (e:Ent) (l:Nat) (f:Ent):Bool:=
  dstIn (opAt ops k).dst f.rs||dstIn (opAt ops l).dst e.rs||sameDst (opAt ops k).dst (opAt ops l).dst||
  qIO (keys e.ob) f.ro||qIO (keys f.ob) e.ro||qIO (keys e.ob) (keys f.ob)||!qMm f e.nv
def LK (ops:Array Oper) (bm:List Nat) (k:Nat) (e:Ent) (l:Nat) (f:Ent):Bool:=
  ((bm.getD l 0).testBit k||!qGG ops k e l f)&&qMm e f.nv
def pairsFrom (ops:Array Oper) (bm:List Nat) (k:Nat) (e:Ent):Nat->List Ent->Bool
  |_,[]=>true
  |l,f::r=>LK ops bm k e l f&&pairsFrom ops bm k e (l+1) r
def MY (ops:Array Oper) (bm:List Nat):Nat->List Ent->Bool
  |_,[]=>true
  |k,e::r=>pairsFrom ops bm k e (k+1) r&&MY ops bm (k+1) r
theorem qEY {ops:Array Oper} {bm:List Nat} {k:Nat} {e:Ent}:∀{es:List Ent} {l:Nat},pairsFrom ops bm k e l es=true->∀j f,es[j]? =some f->LK ops bm k e (l+j) f=true
  |f::r,l,h,0,f',hf=>by cases hf;simp only[pairsFrom,Bool.and_eq_true] at h;exact h.1
  | f::r,l,h,j+1,f',hf=>by
    simp only[pairsFrom,Bool.and_eq_true] at h;have:=qEY h.2 j f' hf
    rwa [show l+1+j=l+(j+1) by omega] at this
theorem qHj {ops:Array Oper} {bm:List Nat}:∀{es:List Ent} {k:Nat},MY ops bm k es=true->∀i j e f,i<j->es[i]? =some e->es[j]? =some f->LK ops bm (k+i) e (k+j) f=true
  | e::r,k,h,0,j+1,e',f,_,he,hf=>by
    cases he;simp only[MY,Bool.and_eq_true] at h;have:=qEY h.1 j f hf
    rwa [show k+1+j=k+(j+1) by omega] at this
  | e::r,k,h,i+1,j+1,e',f,hij,he,hf=>by
    simp only[MY,Bool.and_eq_true] at h;have:=qHj h.2 i j e' f (by omega) he hf
    rwa [show k+1+i=k+(i+1) by omega,show k+1+j=k+(j+1) by omega] at this
def AF (bm:List Nat):List Edge->Nat
  |[]=>0
  |e::r=>bif Region.binds .any e then(2^e.on|||bm.getD e.on 0)|||AF bm r else AF bm r
def qEb (ops:Array Oper) (bm:List Nat):Bool:=
  (List.range ops.size).all λl=>Nat.beq (bm.getD l 0) (AF bm (opAt ops l).after.toList)&&(opAt ops l).after.toList.all λe=>!Region.binds .any e||Nat.blt e.on l
theorem qBE {bm:List Nat} {k:Nat}:∀{es:List Edge},(AF bm es).testBit k=true->∃e∈es,Region.binds .any e=true/\(e.on=k\/(bm.getD e.on 0).testBit k=true)
  |[],h=>by simp[AF] at h
  | e::r,h=>by
    simp only[AF] at h;cases hb:Region.binds .any e with
    | false=>
      rw[hb] at h;obtain⟨e',hm,h'⟩:=qBE (es:=r) h;exact⟨e',List.mem_cons_of_mem _ hm,h'⟩
    | true=>
      rw[hb] at h;simp only[cond_true,Nat.testBit_or,Bool.or_eq_true] at h;rcases h with(h|h)|h
      · refine⟨e,List.mem_cons_self,hb,.inl ?_⟩;rw[Nat.testBit_two_pow] at h;simpa using h
      · exact⟨e,List.mem_cons_self,hb,.inr h⟩
      · obtain⟨e',hm,h'⟩:=qBE (es:=r) h;exact⟨e',List.mem_cons_of_mem _ hm,h'⟩
def Down (ops:Array Oper) (S:Nat->Bool) (l:Nat):Prop:=∀e∈(opAt ops l).after,Region.binds .any e=true->S e.on=true
theorem anc {ops:Array Oper} {bm:List Nat} (hm:qEb ops bm=true) {S:Nat->Bool} (hS:∀l,l<ops.size->S l=true->Down ops S l):∀(l k:Nat),l<ops.size->Down ops S l->(bm.getD l 0).testBit k=true->S k=true:=by
  intro l
  induction l using Nat.strongRecOn with
  | _ l ih=>
    intro k hl hd hb;have hl':=List.all_eq_true.1 hm l (by simpa using hl);simp only[Bool.and_eq_true] at hl';rw[Nat.eq_of_beq_eq_true hl'.1] at hb;obtain⟨e,he,hbe,h⟩:=qBE hb;have hlt:=List.all_eq_true.1 hl'.2 e he;simp only[hbe,Bool.not_true,Bool.false_or,Nat.blt_eq] at hlt;have hSe:=hd e (by simpa using he) hbe;rcases h with h|h
    · rw[<-h];exact hSe
    · exact ih e.on hlt k (by omega) (hS e.on (by omega) hSe) h
theorem RN {ops:Array Oper} {k:Nat} {e:Ent} {st:St} (s:Nat):look s (appE ops k e st).slots=if(opAt ops k).dst=some s then some e.x else look s st.slots:=by
  unfold appE St.app;cases hd:(opAt ops k).dst with
  |none=>simp
  | some d=>
    simp only[List.cons_append,List.nil_append,look_cons,Option.some.injEq]
theorem JR {ops:Array Oper} {k:Nat} {e:Ent} {st:St} (i:Nat):look i (appE ops k e st).objs=(look i e.ob).or (look i st.objs):=by
  simp only[appE,St.app,qDo]
structure LX (rs ro:List Nat) (a b:St):Prop where
  slot:∀s∈rs,look s a.slots=look s b.slots
  obj:∀i∈ro,look i a.objs=look i b.objs
def qLE (ops:Array Oper) (k:Nat) (e:Ent) (rs ro:List Nat):Prop:=(∀s∈rs,(opAt ops k).dst≠some s)/\∀i∈ro,look i e.ob=none
theorem LX.both {ops:Array Oper} {k:Nat} {e:Ent} {rs ro:List Nat} {a b:St} (h:LX rs ro a b):LX rs ro (appE ops k e a) (appE ops k e b):=
  ⟨λs hs=>by rw[RN,RN,h.slot s hs],λi hi=>by rw[JR,JR,h.obj i hi]⟩
theorem LX.left {ops:Array Oper} {k:Nat} {e:Ent} {rs ro:List Nat} {a b:St} (h:LX rs ro a b) (hu:qLE ops k e rs ro):LX rs ro (appE ops k e a) b:=
  ⟨λs hs=>by rw[RN,if_neg (hu.1 s hs),h.slot s hs],λi hi=>by rw[JR,hu.2 i hi,h.obj i hi];rfl⟩
theorem LX.symm {rs ro:List Nat} {a b:St} (h:LX rs ro a b):LX rs ro b a:=⟨λs hs=>(h.slot s hs).symm,λi hi=>(h.obj i hi).symm⟩
theorem qKX {ops:Array Oper} {S T:Nat->Bool} {rs ro:List Nat}:∀(es:List Ent) (k:Nat) (a b:St),LX rs ro a b->
    (∀j e,es[j]? =some e->S (k+j)≠T (k+j)->qLE ops (k+j) e rs ro)->LX rs ro (stg ops S a k es) (stg ops T b k es)
  |[],_,_,_,h,_=>h
  | e::r,k,a,b,h,hu=>by
    refine qKX r (k+1) _ _ ?_ λj e' he hne=>by
      have:=hu (j+1) e' he;rw[show k+(j+1)=k+1+j by omega] at this;exact this hne
    have h0:=hu 0 e rfl;simp only[Nat.add_zero] at h0;cases hS:S k<;>cases hT:T k
    · exact h
    · exact(h.symm.left (h0 (by simp[hS,hT]))).symm
    · exact h.left (h0 (by simp[hS,hT]))
    · exact h.both
structure qES (a b:St):Prop where
  slot:∀s,look s a.slots=look s b.slots
  obj:∀i,look i a.objs=look i b.objs
theorem Sim1.alike {K:Ctx} {M:Mem} {st st':St} {a:Act} {w:World} (h:Sim1 K M st a w) (he:qES st' st):Sim1 K M st' a w:=
  ⟨⟨h.1.inj,h.1.rng,h.1.fix,h.1.below,h.1.shape,h.1.area,h.1.size,h.1.defers,λs x hx=>h.1.slots s x (by rw[<-he.slot];exact hx),λi k o ho=>h.1.objs i k o (by rw[<-he.obj];exact ho)⟩,
   λi hi=>by unfold hits;rw[he.obj];exact h.2 i hi⟩
def Apart (ops:Array Oper) (k:Nat) (e:Ent) (l:Nat) (f:Ent):Prop:=(∀s,(opAt ops k).dst=some s->(opAt ops l).dst≠some s)/\∀i,look i e.ob≠none->look i f.ob=none
theorem qRI {ops:Array Oper} {k l:Nat} {e f:Ent} {a b:St} (h:qES b (appE ops l f a)) (hap:Apart ops k e l f):qES (appE ops k e b) (appE ops l f (appE ops k e a)):=by
  refine⟨λs=>?_,λi=>?_⟩
  · have:=h.slot s;simp only[RN] at this⊢;by_cases hk:(opAt ops k).dst=some s
    · rw[if_pos hk,if_neg (hap.1 s hk),if_pos hk]
    · rw[if_neg hk,if_neg hk,this]
  · have:=h.obj i;simp only[JR] at this⊢;cases hk:look i e.ob with
    |none=>simp only[Option.none_or];exact this
    |some p=>rw[hap.2 i (by rw[hk];simp)];rfl
def ins (S:Nat->Bool) (l:Nat) (k:Nat):Bool:=S k||Nat.beq k l
theorem qNn {ops:Array Oper} {S:Nat->Bool} {l:Nat} {f:Ent}:∀(es:List Ent) (k:Nat) (a b:St),qES b (appE ops l f a)->l<k->
    (∀j e,es[j]? =some e->S (k+j)=true->Apart ops (k+j) e l f)->qES (stg ops (ins S l) b k es) (appE ops l f (stg ops S a k es))
  |[],_,_,_,h,_,_=>h
  | e::r,k,a,b,h,hl,hap=>by
    have hne:Nat.beq k l=false:=by cases hb:Nat.beq k l with|false=>rfl|true=>have:=Nat.eq_of_beq_eq_true hb;omega
    have hins:ins S l k=S k:=by simp[ins,hne]
    simp only[stg,hins];refine qNn r (k+1) _ _ ?_ (by omega) λj e' he hS=>by
      have:=hap (j+1) e' he;rw[show k+(j+1)=k+1+j by omega] at this;exact this hS
    have h0:=hap 0 e rfl;simp only[Nat.add_zero] at h0;cases hS:S k
    · exact h
    · exact qRI h (h0 hS)
theorem qO8 {ops:Array Oper} {S:Nat->Bool} {l:Nat} {f:Ent}:∀(es:List Ent) (k:Nat) (a:St),k<=l->es[l-k]? =some f->S l=false->
    (∀j e,es[j]? =some e->l<k+j->S (k+j)=true->Apart ops (k+j) e l f)->qES (stg ops (ins S l) a k es) (appE ops l f (stg ops S a k es))
  | e::r,k,a,hk,hf,hS,hap=>by
    by_cases hkl:k=l
    · subst hkl;simp only[Nat.sub_self,List.getElem?_cons_zero,Option.some.injEq] at hf;subst hf;have hins:ins S k k=true:=by simp[ins]
      simp only[stg,hins,hS,cond_true,cond_false];refine qNn r (k+1) _ _ ⟨λ_=>rfl,λ_=>rfl⟩ (by omega) λj e' he hS'=>by
        have:=hap (j+1) e' he;rw[show k+(j+1)=k+1+j by omega] at this;exact this (by omega) hS'
    · have hne:Nat.beq k l=false:=by cases hb:Nat.beq k l with|false=>rfl|true=>exact absurd (Nat.eq_of_beq_eq_true hb) hkl
      have hins:ins S l k=S k:=by simp[ins,hne]
      simp only[stg,hins];have hf':r[l-(k+1)]? =some f:=by rw[show l-k=(l-(k+1))+1 by omega] at hf;simpa using hf
      exact qO8 r (k+1) _ (by omega) hf' hS λj e' he hlt hS'=>by
        have:=hap (j+1) e' he;rw[show k+(j+1)=k+1+j by omega] at this;exact this hlt hS'
theorem qNL {ops:Array Oper} {S:Nat->Bool} {nv:List (Nat×Nat)}:∀(es:List Ent) (k:Nat) (a:St),a.free (qZ nv)->(∀j e,es[j]? =some e->S (k+j)=true->qMm e nv=true)->(stg ops S a k es).free (qZ nv)
  |[],_,_,h,_=>h
  | e::r,k,a,h,hf=>by
    refine qNL r (k+1) _ ?_ λj e' he hS=>by
      have:=hf (j+1) e' he;rw[show k+(j+1)=k+1+j by omega] at this;exact this hS
    have h0:=hf 0 e rfl;simp only[Nat.add_zero] at h0;cases hS:S k
    · exact h
    · have h1:=h0 hS;simp only[qMm,Bool.and_eq_true] at h1;refine⟨λs x hx=>?_,λi k' o ho=>?_⟩
      · simp only[cond_true,RN] at hx;split at hx
        · cases hx;exact V.free_of h1.1
        · exact h.1 s x hx
      · simp only[cond_true,JR] at ho;cases hl:look i e.ob with
        |none=>rw[hl] at ho;exact h.2 i k' o ho
        |some p=>rw[hl] at ho;cases ho;exact O.free_of (List.all_eq_true.1 h1.2 _ (look_mem hl))
theorem qFU {ops:Array Oper} {S:Nat->Bool} {i:Nat}:∀(es:List Ent) (k:Nat) (a:St),look i a.objs=none->(∀j e,es[j]? =some e->S (k+j)=true->look i e.ob=none)->look i (stg ops S a k es).objs=none
  |[],_,_,h,_=>h
  | e::r,k,a,h,hf=>by
    refine qFU r (k+1) _ ?_ λj e' he hS=>by
      have:=hf (j+1) e' he;rw[show k+(j+1)=k+1+j by omega] at this;exact this hS
    have h0:=hf 0 e rfl;simp only[Nat.add_zero] at h0;cases hS:S k
    · exact h
    · simp only[cond_true,JR,h0 hS,Option.none_or];exact h
theorem qFy {ops:Array Oper} {T:Nat->Bool} {i:Nat}:∀(es:List Ent) (k:Nat) (a:St),look i (stg ops T a k es).objs=none->look i a.objs=none/\∀j e,es[j]? =some e->T (k+j)=true->look i e.ob=none
  |[],_,_,h=>⟨h,λj e he=>by cases he⟩
  | e::r,k,a,h=>by
    have ih:=qFy r (k+1) _ h;cases hT:T k with
    | false=>
      rw[hT] at ih;refine⟨ih.1,λj e' he hTj=>?_⟩;cases j with
      |zero=>rw[Nat.add_zero,hT] at hTj;cases hTj
      |succ j=>exact ih.2 j e' he (by rw[show k+1+j=k+(j+1) by omega];exact hTj)
    | true=>
      rw[hT] at ih;have h1:=ih.1;simp only[cond_true,JR] at h1;cases hl:look i e.ob with
      |some p=>rw[hl] at h1;cases h1
      | none=>
        rw[hl] at h1;refine⟨h1,λj e' he hTj=>?_⟩;cases j with
        |zero=>cases he;exact hl
        |succ j=>exact ih.2 j e' he (by rw[show k+1+j=k+(j+1) by omega];exact hTj)
theorem qKz {ops:Array Oper} {S T:Nat->Bool}:∀(es:List Ent) (k:Nat) (a:St),(∀j,j<es.length->S (k+j)=T (k+j))->stg ops S a k es=stg ops T a k es
  |[],_,_,_=>rfl
  | e::r,k,a,h=>by
    have h0:=h 0 (by simp);simp only[Nat.add_zero] at h0;simp only[stg,h0];exact qKz r (k+1) _ λj hj=>by
      have:=h (j+1) (by simp;omega)
      rwa [show k+(j+1)=k+1+j by omega] at this
def qBN (ops:Array Oper):Nat->St->List Ent->St
  |_,st,[]=>st
  |k,st,e::r=>qBN ops (k+1) (appE ops k e st) r
theorem qH5 (ops:Array Oper):∀(es:List Ent) (k:Nat) (a:St),stg ops (λ_=>true) a k es=qBN ops k a es
  |[],_,_=>rfl
  |e::r,k,a=>by simp only[stg,qBN,cond_true];exact qH5 ops r (k+1) _
def qQ (listed:Array Bool) (k:Nat):Bool:=listed.getD k false
theorem qFX {ops:Array Oper} {listed:Array Bool} (hsz:listed.size=ops.size) {i:Nat}:i∈Region.ready .any ops listed↔i<ops.size/\qQ listed i=false/\Down ops (qQ listed) i:=by
  simp only[Region.ready,List.mem_filter,List.mem_range,Bool.and_eq_true,Bool.not_eq_true'];constructor
  · rintro⟨hi,h1,h2⟩;refine⟨hi,?_,?_⟩
    · have hi':i<listed.size:=by omega
      simp only[qQ,Array.getD_eq_getD_getElem?,Array.getElem?_eq_getElem hi',Option.getD_some] at h1⊢;exact h1
    · rw[XY hi] at h2;simp only[Option.map_some,Option.getD_some,Array.all_eq_true_iff_forall_mem] at h2;intro e he hb;have:=h2 e he;simp only[hb,Bool.not_true,Bool.false_or] at this;exact this
  · rintro⟨hi,h1,h2⟩;refine⟨hi,?_,?_⟩
    · have hi':i<listed.size:=by omega
      simp only[qQ,Array.getD_eq_getD_getElem?,Array.getElem?_eq_getElem hi',Option.getD_some] at h1⊢;exact h1
    · rw[XY hi];simp only[Option.map_some,Option.getD_some,Array.all_eq_true_iff_forall_mem];intro e he;cases hb:Region.binds .any e with
      |false=>rfl
      |true=>simp only[Bool.not_true,Bool.false_or];exact h2 e he hb
theorem qQi {listed:Array Bool} {i:Nat} (hi:i<listed.size) (k:Nat):qQ (listed.setIfInBounds i true) k=ins (qQ listed) i k:=by
  simp only[qQ,ins,Array.getD_eq_getD_getElem?,Array.getElem?_setIfInBounds];by_cases h:i=k
  · subst h;simp[hi]
  · have:Nat.beq k i=false:=by cases hb:Nat.beq k i with|false=>rfl|true=>exact absurd (Nat.eq_of_beq_eq_true hb).symm h
    simp[h,this]
theorem count_set {listed:Array Bool} {i:Nat} (hi:i<listed.size) (h:qQ listed i=false):(listed.setIfInBounds i true).toList.count false+1=listed.toList.count false:=by
  have hi':i<listed.toList.length:=by simpa using hi
  have hv:listed.toList[i]=false:=by
    simp only[qQ,Array.getD_eq_getD_getElem?,Array.getElem?_eq_getElem hi,Option.getD_some] at h;simpa using h
  rw[Array.toList_setIfInBounds,List.count_set hi',hv];have:0<listed.toList.count false:=List.count_pos_iff.2 (by rw[<-hv];exact List.getElem_mem hi');simp only[beq_self_eq_true,if_true];have hb:(true==false)=false:=rfl;simp only[hb,Bool.false_eq_true,if_false];omega
theorem qMK {listed:Array Bool} (h:listed.toList.count false=0) {k:Nat} (hk:k<listed.size):qQ listed k=true:=by
  have:=List.count_eq_zero.1 h;cases hv:qQ listed k with
  |true=>rfl
  | false=>
    simp only[qQ,Array.getD_eq_getD_getElem?,Array.getElem?_eq_getElem hk,Option.getD_some] at hv;exact absurd (by rw[<-hv];exact Array.getElem_mem_toList hk) this
theorem qNX {ops:Array Oper} {bm:List Nat} (hm:qEb ops bm=true) {listed:Array Bool} (hsz:listed.size=ops.size) (hr:Region.ready .any ops listed=[]):∀k,k<ops.size->qQ listed k=true:=by
  intro k
  induction k using Nat.strongRecOn with
  | _ k ih=>
    intro hk;cases hv:qQ listed k with
    |true=>rfl
    | false=>
      have:k∈Region.ready .any ops listed:=(qFX hsz).2 ⟨hk,hv,λe he hb=>by
        have hl':=List.all_eq_true.1 hm k (by simpa using hk);simp only[Bool.and_eq_true] at hl';have hlt:=List.all_eq_true.1 hl'.2 e (by simpa using he);simp only[hb,Bool.not_true,Bool.false_or,Nat.blt_eq] at hlt;exact ih e.on hlt (by omega)⟩
      rw[hr] at this;cases this
theorem H_draw {K:Ctx} {st:St} {id:Nat} {ops:Array Oper} {Q:Exit->St->Prop} (es:List Ent) (bm:List Nat) (hok:LQ K.nt ops=true) (hlen:Nat.beq es.length ops.size=true) (hm:qEb ops bm=true)
    (hp:MY ops bm 0 es=true) (hnv:es.all (λe=>nvOk e.nv e.ob&&GY K.m e.nv)=true) (hfree:es.all (λe=>st.freeB e.nv)=true) (hs:AK K ops 0 st es) (hq:Q .normal (qBN ops 0 st es)):
    H K st (.region id ops true) Q:=by
  have hlen':es.length=ops.size:=Nat.eq_of_beq_eq_true hlen;have key:∀(fuel:Nat) (listed:Array Bool) (a:Act) (w:World),listed.size=ops.size->(∀l,l<ops.size->qQ listed l=true->Down ops (qQ listed) l)->listed.toList.count false=fuel->
      (∃M,Sim1 K M (stg ops (qQ listed) st 0 es) a w)->wpAnyIn K.F 0 K.P .any ops (Post K Q) fuel listed a w:=by
    intro fuel
    induction fuel with
    | zero=>
      intro listed a w hsz hdn hc ⟨M,hsim⟩;have hall:∀k,k<ops.size->qQ listed k=true:=λk hk=>qMK hc (by omega);refine⟨?_,M,_,hq,?_⟩
      · rw[List.eq_nil_iff_forall_not_mem];intro i hi;obtain⟨h1,h2,_⟩:=(qFX hsz).1 hi;rw[hall i h1] at h2;cases h2
      · rw[<-qH5,<-qKz (S:=qQ listed) es 0 st λj hj=>by rw[Nat.zero_add];exact hall j (by omega)];exact hsim
    | succ fuel ih=>
      intro listed a w hsz hdn hc ⟨M,hsim⟩;refine⟨λhr=>⟨M,_,hq,?_⟩,λl hl=>?_⟩
      · rw[<-qH5,<-qKz (S:=qQ listed) es 0 st λj hj=>by rw[Nat.zero_add];exact qNX hm hsz hr j (by omega)];exact hsim
      · obtain⟨hl1,hl2,hl3⟩:=(qFX hsz).1 hl;obtain⟨f,hf⟩:∃f,es[l]? =some f:=⟨_,List.getElem?_eq_getElem (by omega)⟩
        have hanc:∀k,(bm.getD l 0).testBit k=true->qQ listed k=true:=λk=>anc hm hdn l k hl1 hl3;have hafter:∀k e,es[k]? =some e->l<k->qQ listed k=true->(bm.getD k 0).testBit l=false:=λk e he hlk hS=>by
          cases hb:(bm.getD k 0).testBit l with
          |false=>rfl
          | true=>
            have hk:k<ops.size:=by rw[<-hlen'];exact(List.getElem?_eq_some_iff.1 he).1
            rw[anc hm hdn k l hk (hdn k hk hS) hb] at hl2;cases hl2
        have hpair:∀i j e g,i<j->es[i]? =some e->es[j]? =some g->LK ops bm i e j g=true:=λi j e g hij he hg=>by
          have:=qHj hp i j e g hij he hg;simpa using this
        have hstep:=hs.get l f hf;rw[Nat.zero_add] at hstep
        -- what the operation looks at is what the text's order would show it
        have hag:LX f.rs f.ro (stg ops (qQ listed) st 0 es) (stg ops (λm=>Nat.blt m l) st 0 es):=by
          refine qKX es 0 st st ⟨λ_ _=>rfl,λ_ _=>rfl⟩ λk e he hne=>?_;rw[Nat.zero_add] at hne⊢;have hkl:k≠l:=by
            rintro rfl;have:Nat.blt k k=false:=Bool.eq_false_iff.2 λh=>by rw[Nat.blt_eq] at h;omega
            rw[hl2,this] at hne;exact hne rfl
          have hc':∀(c:Bool),(c=true->False)->c=false:=λc h=>by cases c<;>simp_all
          rcases Nat.lt_or_gt_of_ne hkl with hlt|hgt
          · have hb:Nat.blt k l=true:=by rw[Nat.blt_eq];exact hlt
            have hS:qQ listed k=false:=by cases hS:qQ listed k with|false=>rfl|true=>rw[hS,hb] at hne;exact absurd rfl hne
            have hpo:=hpair k l e f hlt he hf;have hbit:(bm.getD l 0).testBit k=false:=hc' _ λh=>by rw[hanc k h] at hS;cases hS
            simp only[LK,hbit,Bool.false_or,Bool.and_eq_true,Bool.not_eq_true',qGG,Bool.or_eq_false_iff] at hpo;obtain⟨⟨⟨⟨⟨⟨⟨c1,c2⟩,c3⟩,c4⟩,c5⟩,c6⟩,c7⟩,_⟩:=hpo;refine⟨λs hs' hd=>?_,λi hi=>?_⟩
            · rw[hd] at c1;simp[dstIn,qKQ hs'] at c1
            · cases hlk:look i e.ob with
              |none=>rfl
              |some p=>rw[qEt (qA4 (by simp[hits,hlk])) hi] at c4;cases c4
          · have hb:Nat.blt k l=false:=Bool.eq_false_iff.2 λh=>by rw[Nat.blt_eq] at h;omega
            have hS:qQ listed k=true:=by cases hS:qQ listed k with|true=>rfl|false=>rw[hS,hb] at hne;exact absurd rfl hne
            have hpo:=hpair l k f e hgt hf he;have hbit:=hafter k e he hgt hS;simp only[LK,hbit,Bool.false_or,Bool.and_eq_true,Bool.not_eq_true',qGG,Bool.or_eq_false_iff] at hpo;obtain⟨⟨⟨⟨⟨⟨⟨c1,c2⟩,c3⟩,c4⟩,c5⟩,c6⟩,c7⟩,_⟩:=hpo;refine⟨λs hs' hd=>?_,λi hi=>?_⟩
            · rw[hd] at c2;simp[dstIn,qKQ hs'] at c2
            · cases hlk:look i e.ob with
              |none=>rfl
              |some p=>rw[qEt (qA4 (by simp[hits,hlk])) hi] at c5;cases c5
        have hsee:Sim K M ((stg ops (λm=>Nat.blt m l) st 0 es).only f.rs f.ro) a w:=
          ⟨hsim.1.inj,hsim.1.rng,hsim.1.fix,hsim.1.below,hsim.1.shape,hsim.1.area,hsim.1.size,hsim.1.defers,
            λs x hx=>by have:=YO hx;exact hsim.1.slots s x (by rw[hag.slot s this.1];exact this.2),
            λi k o ho=>by have:=YO ho;exact hsim.1.objs i k o (by rw[hag.obj i this.1];exact this.2)⟩
        -- behind it: the stage with this operation
        have hall:qES (stg ops (ins (qQ listed) l) st 0 es) (appE ops l f (stg ops (qQ listed) st 0 es)):=by
          refine qO8 es 0 st (Nat.zero_le _) (by simpa using hf) hl2 λk e he hlk hS=>?_;rw[Nat.zero_add] at hlk hS⊢;have hpo:=hpair l k f e hlk hf he;have hbit:=hafter k e he hlk hS;simp only[LK,hbit,Bool.false_or,Bool.and_eq_true,Bool.not_eq_true',qGG,Bool.or_eq_false_iff] at hpo;obtain⟨⟨⟨⟨⟨⟨⟨c1,c2⟩,c3⟩,c4⟩,c5⟩,c6⟩,c7⟩,_⟩:=hpo;refine⟨λs hd hd'=>?_,λi hi=>?_⟩
          · rw[hd,hd'] at c3;simp[sameDst] at c3
          · cases hlk':look i f.ob with
            |none=>rfl
            | some p=>
              have h1:hits e.ob i:=by simp[hits,Option.isSome_iff_ne_none,hi]
              rw[qEt (qA4 (by simp[hits,hlk'])) (qA4 h1)] at c6;cases c6
        have hfr:(stg ops (qQ listed) st 0 es).free (qZ f.nv):=by
          refine qNL es 0 st (St.free_of (List.all_eq_true.1 hfree f (List.mem_of_getElem? hf))) λk e he hS=>?_;rw[Nat.zero_add] at hS;have hkl:k≠l:=by rintro rfl;rw[hl2] at hS;cases hS
          rcases Nat.lt_or_gt_of_ne hkl with hlt|hgt
          · have hpo:=hpair k l e f hlt he hf;simp only[LK,Bool.and_eq_true] at hpo;exact hpo.2
          · have hpo:=hpair l k f e hgt hf he;have hbit:=hafter k e he hgt hS;simp only[LK,hbit,Bool.false_or,Bool.and_eq_true,Bool.not_eq_true',qGG,Bool.or_eq_false_iff] at hpo;simpa using hpo.1.2
        have hnvb:(nvOk f.nv f.ob&&GY K.m f.nv)=true:=List.all_eq_true.1 hnv f (List.mem_of_getElem? hf);rw[Bool.and_eq_true] at hnvb;have hnvl:nvOk f.nv f.ob=true:=hnvb.1;have hlsz:l<listed.size:=by omega
        have hnext:∀a' w',(∃M',Sim1 K M' (appE ops l f (stg ops (qQ listed) st 0 es)) a' w')->wpAnyIn K.F 0 K.P .any ops (Post K Q) fuel (listed.setIfInBounds l true) a' w':=by
          rintro a' w' ⟨M',hM'⟩;have hfun:qQ (listed.setIfInBounds l true)=ins (qQ listed) l:=funext (qQi hlsz);refine ih _ a' w' (by simpa using hsz) (λk hk hS e he hb=>?_) (by have:=count_set hlsz hl2;omega) ⟨M',?_⟩
          · rw[hfun] at hS⊢;have hd:Down ops (qQ listed) k:=by
              simp only[ins,Bool.or_eq_true] at hS;rcases hS with hS|hS
              · exact hdn k hk hS
              · rw[Nat.eq_of_beq_eq_true hS];exact hl3
            simp[ins,hd e he hb]
          · rw[hfun];exact hM'.alike hall
        have hgd:=λb hg=>qEi (b:=b) (o:=opAt ops l) hsee hg (zbQ hok hl1) (KU hok);unfold wpOpIn;rw[XY hl1];simp only[];unfold qMq at hstep;cases hrun:f.run with
        | true=>
          rw[hrun] at hstep;obtain⟨hg,hro,hst⟩:=hstep;rw[hgd true hg];simp only[if_true];refine(Oper.wp_any ?_ (λ_ _ _ hf=>hf.elim) (hst M a w hsee λi k hik=>?_))
          · rintro a' w' ⟨v,M',rfl,he,hx,ho,hv⟩;exact hnext _ _ ⟨M',hsim.step he hx ho hv hnvl hfr hnvb.2 (KU hok l)⟩
          · by_cases hmem:i∈f.ro/\look i (stg ops (λm=>Nat.blt m l) st 0 es).objs≠none
            · left;obtain⟨hmem,hne⟩:=hmem;cases hlk:look i (stg ops (λm=>Nat.blt m l) st 0 es).objs with
              |none=>exact absurd hlk hne
              | some p=>
                have:∀ro:List Nat,i∈ro->(look i (ro.filterMap λi=>(look i (stg ops (λm=>Nat.blt m l) st 0 es).objs).map λx=>(i,x))).isSome=true:=by
                  intro ro
                  induction ro with
                  |nil=>intro h;cases h
                  | cons r ro ihr=>
                    intro hm';simp only[List.filterMap_cons];by_cases hri:r=i
                    · subst hri;simp[hlk,look_cons]
                    · have hm2:i∈ro:=by rcases List.mem_cons.1 hm' with h|h;exact absurd h.symm hri;exact h
                      cases hlr:look r (stg ops (λm=>Nat.blt m l) st 0 es).objs with
                      |none=>exact ihr hm2
                      |some q=>simp only[Option.map_some,look_cons,if_neg hri];exact ihr hm2
                exact this f.ro hmem
            · by_cases hv:M.ver i=none
              · exact .inr hv
              · left;have hh:=hsim.2 i hv
                -- i is known to the stage; then the text's order knows it too, and 'ro' names it
                exfalso;have hhit:hits f.ob i:=qLo hnvl i k hik;have hnone:look i (stg ops (qQ listed) st 0 es).objs=none:=by
                  have hn:look i (stg ops (λm=>Nat.blt m l) st 0 es).objs=none:=by
                    have:=List.all_eq_true.1 hro (i,k) hik;simp only[Bool.or_eq_true,Option.isNone_iff_eq_none] at this;rcases this with h1|h1
                    · simp only[List.any_eq_true] at h1;obtain⟨y,hy,hy'⟩:=h1;have hyi:=Nat.eq_of_beq_eq_true hy';rw[<-hyi] at hy;cases hlk:look i (stg ops (λm=>Nat.blt m l) st 0 es).objs with
                      |none=>rfl
                      |some q=>exact absurd ⟨hy,by rw[hlk];simp⟩ hmem
                    · exact h1
                  obtain⟨h0,hbef⟩:=qFy es 0 st hn;refine qFU es 0 st h0 λj e he hS=>?_;rw[Nat.zero_add] at hS;have hjl:j≠l:=by rintro rfl;rw[hl2] at hS;cases hS
                  rcases Nat.lt_or_gt_of_ne hjl with hlt|hgt
                  · exact hbef j e he (by rw[Nat.zero_add,Nat.blt_eq];exact hlt)
                  · have hpo:=hpair l j f e hgt hf he;have hbit:=hafter j e he hgt hS;simp only[LK,hbit,Bool.false_or,Bool.and_eq_true,Bool.not_eq_true',qGG,Bool.or_eq_false_iff] at hpo;obtain⟨⟨⟨⟨⟨⟨⟨c1,c2⟩,c3⟩,c4⟩,c5⟩,c6⟩,c7⟩,_⟩:=hpo;cases hlk:look i e.ob with
                    |none=>rfl
                    |some q=>rw[qEt (qA4 hhit) (qA4 (by simp[hits,hlk]))] at c6;cases c6
                simp[hits,hnone] at hh
        | false=>
          rw[hrun] at hstep;obtain⟨hg,hx,hob,hnv0⟩:=hstep;rw[hgd false hg];simp only[Bool.false_eq_true,if_false];refine⟨λ_ _=>trivial,?_⟩;refine hnext _ _ ⟨M,?_⟩;unfold appE;rw[hx,hob];refine hsim.step (nv:=[]) (ob:=[]) (w':=w) (M':=M) ?_ rfl (λi k o h=>by cases h) (λi hi=> .inl hi) rfl (qDV _) rfl (KU hok l);exact⟨λ_ _ h=> .inr h,λ_ _ h _=>h,λ_ _ _ _=>rfl,λ_ _ _ h=>(by cases h),hsim.1.inj,λi k b h1 h2=>(hsim.1.rng i k b h1 h2).2,λ_ _ _=>rfl,λb arr e h=>⟨arr,h,rfl⟩,Nat.le_refl _,rfl,rfl,rfl,rfl,Nat.le_refl _⟩
  intro M a w hsim;refine wpIn_region_any K.mixed (key ops.size _ a _ (by simp) (λl hl hS=>?_) (by simp) ⟨M,?_⟩)
  · simp[qQ,hl] at hS
  · rw[qIk _ _ _ _ _ λm _=>by simp only[qQ,Array.getD_eq_getD_getElem?,Array.getElem?_replicate];split<;>rfl];exact hsim.drew
end Go.SL

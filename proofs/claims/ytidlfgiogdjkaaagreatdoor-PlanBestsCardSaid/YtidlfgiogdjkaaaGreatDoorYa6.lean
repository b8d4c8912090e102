/- Ranges over a function: the round's contract, the call of yield, the statement. -/
import Derived.Test.YtidlfgiogdjkaaaGreatDoorYa5
import Derived.ChangeArms
import Derived.Shelf.Sort.Plain
import Derived.Shelf.Slices.In.SortNone
import Derived.Shelf.Lay
set_option linter.unusedVariables false
set_option linter.unusedSimpArgs false
namespace Go.SL
open Go.RowKit
end Go.SL

namespace Go.SL
open Go.RowKit
end Go.SL

namespace Go.SL
open Go.RowKit
structure RI (nt:Nat) where
 fn:FuncId
 T:Array Value
 D:Nat
 b:Nat
 hT:T.size=nt
end Go.SL

namespace Go.SL
end Go.SL

namespace Go.SL
open Go.RowKit Go.ChangeShapes Go.WideShapes
def qC7 (P:Program):List Field->Nat
 |[]=>0
 |f::r=>P.cellsOf f.type+qC7 P r
structure qPb (P:Program) (fs:List Field) (off:Nat) {T:Type} (e:T->List C) (wf:T->Prop) (D:∀H:Type,List (DataW H)->T->Prop):Prop where
 sz:∀r,(e r).length=qC7 P fs
 rd:∀(H:Type) (enc:TypeId×Value->H) (w:World) (held:Bool) (fuel:Nat) (cs:List Value) (xs:List (DataW H×List MemPlace)),xs.length=fs.length->(∀(i:Nat) (f:Field),fs[i]? =some f->DataW.trod enc P w 0 (λ_=>true) held fuel f.type ((cs.drop f.offset).take (P.cellsOf f.type))=xs[i]?)->
  ∃r,wf r/\Rc w (e r) ((cs.drop off).take (qC7 P fs))/\D H (xs.map (·.1)) r
def DF (H:Type) (ds:List (DataW H)) (_:Unit):Prop:=ds=[]
def wH {T0 T1:Type} (D0:∀H:Type,DataW H->T0->Prop) (D1:∀H:Type,List (DataW H)->T1->Prop) (H:Type) (ds:List (DataW H)) (r:T0×T1):Prop:=∃d rest,ds=d::rest/\D0 H d r.1/\D1 H rest r.2
def CR {T:Type} (D:∀H:Type,List (DataW H)->T->Prop) (H:Type) (d:DataW H) (r:T):Prop:=∃ds,d= .agg ds/\D H ds r
def CH {T S:Type} (g:T->S) (D:∀H:Type,DataW H->T->Prop) (H:Type) (d:DataW H) (s:S):Prop:=∃r,g r=s/\D H d r
theorem HD {P:Program} (off:Nat):qPb P [] off (λ_:Unit=>[]) (λ_=>True) DF:=
 ⟨λ_=>rfl,λH enc w held fuel cs xs hl _=>⟨(),trivial,⟨by simp[qC7],λj hj=>by simp at hj⟩,by rw[DF];simpa using hl⟩⟩
theorem wL {P:Program} {f:Field} {fs:List Field} {off off':Nat} {T0 T1:Type} {e0:T0->List C} {e1:T1->List C} {wf0:T0->Prop} {wf1:T1->Prop} {D0:∀H:Type,DataW H->T0->Prop} {D1:∀H:Type,List (DataW H)->T1->Prop}
  (h0:yR P f.type e0 wf0 D0) (h1:qPb P fs off' e1 wf1 D1) (ho:f.offset=off) (ho':off+P.cellsOf f.type=off'):qPb P (f::fs) off (λr:T0×T1=>e0 r.1++e1 r.2) (λr=>wf0 r.1/\wf1 r.2) (wH D0 D1):=by
 refine⟨λr=>by rw[kS,h0.sz,h1.sz];rfl,λH enc w held fuel cs xs hl hf=>?_⟩
 match xs,hl with
 |x::xs,hl=>
  have k0:=hf 0 f rfl;rw[List.getElem?_cons_zero] at k0;obtain⟨r0,w0,c0,d0⟩:=h0.rd _ _ _ _ _ _ _ k0;obtain⟨r1,w1,c1,d1⟩:=h1.rd H enc w held fuel cs xs (by simpa using hl) (λi f' hi=>by
   have:=hf (i+1) f' (by simpa using hi);simpa using this)
  refine⟨(r0,r1),⟨w0,w1⟩,?_,⟨x.1,xs.map (·.1),rfl,d0,d1⟩⟩;have:=c0.append c1;rw[ho] at this;have e:(cs.drop off).take (P.cellsOf f.type)++(cs.drop off').take (qC7 P fs)=(cs.drop off).take (qC7 P (f::fs)):=by
   rw[<-ho',<-List.drop_drop,qC7,List.take_add]
  rwa [e] at this
theorem yZ {P:Program} {t:TypeId} {fs:Array Field} {T:Type} {e:T->List C} {wf:T->Prop} {D:∀H:Type,List (DataW H)->T->Prop} (ht:P.underlying t=some (.struct fs)) (h:qPb P fs.toList 0 e wf D) (hs:P.cellsOf t=qC7 P fs.toList):yR P t e wf (CR D):=by
 refine⟨λr=>by rw[h.sz,hs],λH enc w held fuel cs x hx=>?_⟩;obtain⟨xs,n,_,rfl,hl,hlen,hf⟩:=DataW.trod_struct ht hx;obtain⟨r,h1,h2,h3⟩:=h.rd H enc w held n cs xs (by simpa using hlen) (λi f hi=>hf i f (by simpa using hi));refine⟨r,h1,?_,⟨_,rfl,h3⟩⟩;rw[gc,List.take_of_length_le (by omega)] at h2;exact h2
theorem WM {P:Program} {t:TypeId} {T S:Type} {e:T->List C} {wf:T->Prop} {D:∀H:Type,DataW H->T->Prop} (h:yR P t e wf D) (g:T->S) {e':S->List C} {wf':S->Prop} (he:∀r,e' (g r)=e r) (hsz:∀s,(e' s).length=P.cellsOf t) (hw:∀r,wf r->wf' (g r)):yR P t e' wf' (CH g D):=
 qZ1 h g he hsz hw (λ_ _ r hd=>⟨r,rfl,hd⟩)
def strok (s:ByteArray):Prop:=s.size<=maxLen
def qOu (H:Type) (d:DataW H) (s:ByteArray):Prop:=d= .lit (.string s.data.toList)
theorem qVg {P:Program} {t:TypeId} (ht:P.underlying t=some .string) (hc:P.cellsOf t=1):yR P t e_str strok qOu:=by
 refine⟨λ_=>hc.symm,λH enc w held fuel cs x h=>?_⟩;obtain⟨s,rfl,rfl,hs⟩:=DataW.trod_string ht h;exact⟨s,hs,Rc.one (.val _ rfl),rfl⟩
end Go.SL

namespace Go.SL
theorem q1B {w:World} {g:Nat} {cs:Array Value} {e:TypeId} {fz:Nat×Nat} {xs:List C} (hh:w.heap[g]? =some (.cells cs e fz)) (h:Rc w xs cs.toList):
  IRep w (λ_=>True) (.lptr xs) (.pointer (some ⟨g,0,none⟩)):=by
 refine .lptr g 0 xs (λj=>cs.toList.getD j undef) (λ_ _=>trivial) (λj hj=>?_) (λj hj=>h.2 j hj);have hl:j<cs.size:=by rw[<-h.1] at hj;simpa using hj
 simp[World.cell?,hh,kw,kg,hl]
end Go.SL

namespace Go.SL
open Go.RowKit Go.Proofs Go.Shelf Go.Sort Go.Lib
section
variable (w :World) (blk m:Nat) (d:Array Int) (os:Array Obj)
def qIF :World:=grow (putRow (Value.int .i64) (Sort.ahead w m) blk 0 d) os
theorem qPV {c:Nat} (hc:c<w.heap.size) (hne:c≠blk):(qIF w blk m d os).heap[c]? =w.heap[c]? :=by
 unfold qIF grow putRow mapBlock Sort.ahead;rw[uL (by simpa using hc),Array.getElem?_modify,if_neg (Ne.symm hne)]
theorem qP0 {arr:Array Value} {e:TypeId} (hh:w.heap[blk]? =some (.cells arr e (0,0))):(qIF w blk m d os).heap[blk]? =some (.cells (putCells (Value.int .i64) 0 d arr) e (0,0)):=by
 have hb:blk<w.heap.size:=(uk.1 hh).1;unfold qIF grow putRow mapBlock Sort.ahead;rw[uL (by simpa using hb),Array.getElem?_modify,if_pos rfl];show(w.heap[blk]?).map _=_;rw[hh];rfl
theorem qYf :w.heap.size<=(qIF w blk m d os).heap.size:=by
 unfold qIF grow putRow mapBlock Sort.ahead;simp
theorem si_get {arr:Array Value} {n i:Nat} (hd:d.size=n) (hn:n<=arr.size) (hi:i<n):(putCells (Value.int .i64) 0 d arr).getD i undef= .int .i64 d[i]! :=by
 unfold putCells;rw[ks,Array.getElem?_mapIdx,kD (by omega)];simp only[kQ,kA];rw[if_pos ⟨ud _,by omega⟩,kF]
end
theorem qMU {α:Type} (a:Array α) {i:Nat} (h:i<a.size) (d:α):a.getD i d=a[i]:=by rw[ks,kD h];rfl
theorem qXN (l:List Int):GO (λx y=>decide (x<=y)) l=l.mergeSort λx y=>decide (x<=y):=by
 have ht:∀x y z:Int,decide (x<=y)=true->decide (y<=z)=true->decide (x<=z)=true:=by
  intro x y z h1 h2;simp only[decide_eq_true_eq] at*;omega
 have hto:∀x y:Int,decide (x<=y)=true\/decide (y<=x)=true:=by
  intro x y;simp only[decide_eq_true_eq];omega
 refine List.Perm.eq_of_pairwise (le:=λx y:Int=>decide (x<=y)=true) ?_ (qFj ht hto l) ?_ ((EV _ l).trans (List.mergeSort_perm l _).symm)
 ·intro a b _ _ h1 h2;simp only[decide_eq_true_eq] at*;omega
 ·exact List.pairwise_mergeSort (λa b c h1 h2=>ht a b c h1 h2) (λa b=>by have:=hto a b;simpa using this) l
theorem qZX {P:Program} {ρ:Ren} {gl:List (Nat×C)} (L:Lays.n189 P ρ) (eid:Nat) (l:List Int) (hlt:l.length<4611686018427387904):
  CtX P gl (ρ.f 189) 1 1 [.one (.own 0 0 1 l.length)] [(0,(0,.row eid 1 l.length (rowf (λx:Int=>[C.val (.int .i64 x)]) du l)))] .undef [(0,(0,.row eid 1 (GO (λx y=>decide (x<=y)) l).length (rowf (λx:Int=>[C.val (.int .i64 x)]) du (GO (λx y=>decide (x<=y)) l))))]:=by
 intro w M vs hgl hin ha;obtain⟨hsz,hargs⟩:=ha;have hr:=hin.objs 0 0 _ rfl;have a0:=hargs 0 (by simp);have hsz1:vs.size=1:=by simpa using hsz
 have hlen:(GO (λx y=>decide (x<=y)) l).length=l.length:=(EV _ l).length_eq;rcases a0 with⟨hl0,a,e0⟩|⟨b,cap,e0,hlc,hcm,hb⟩
 ·have hl:l=[]:=List.eq_nil_of_length_eq_zero hl0;subst hl;have hvs:vs= #[.slice a 0 0]:=by
   apply Array.ext
   ·simpa using hsz1
   ·intro i hi1 hi2;have:i=0:=by simp at hi2;omega
    subst this;rw[<-qMU _ hi1 undef,e0];rfl
  rw[hvs];refine(Any.slices_Sort_int_none L a 0 w).mono ?_;rintro e w' ⟨he,rfl⟩;refine⟨undef,{M with A:=λb=>M.A b\/w'.heap.size<=b},he,⟨rfl,rfl,rfl,ki _,λc hc hno=>rfl,ki _⟩,?_,?_⟩
  ·intro c arr' e' hc;exact⟨arr',hc,rfl⟩
  ·refine⟨λi hi=>?_,hin.inj,λi k' b hv hb=>?_,λi k' k'' _ _ _=>rfl,λb=>Iff.rfl,rfl,λi k' o ho=>?_⟩
   ·have:=hin.only i hi;unfold hits at this⊢;rw[look_cons] at this⊢;split at this
    ·rename_i h;rw[if_pos h];rfl
    ·cases this
   ·exact⟨.inr ⟨⟨k',hv⟩,hb⟩,(hin.rng i k' b hv hb).2.1⟩
   ·rw[look_cons] at ho;split at ho
    ·rename_i h;subst h;cases ho;obtain⟨hver,hrow⟩:=hr;refine⟨hver,?_⟩;rcases hrow with⟨hn,h0⟩|⟨b',arr',hb',hh',hns,hcr⟩
     ·exact .inl ⟨hn,rfl⟩
     ·exact .inr ⟨b',arr',hb',hh',ud _,λi hi=>absurd hi (by simp[GO])⟩
    ·cases ho
 obtain⟨hbl,arr,et,hh,has⟩:=hb hr.ver;obtain⟨hver,hrow⟩:=hr;rcases hrow with⟨hn,_⟩|⟨b',arr',hb',hh',hns,hcr⟩
 ·rw[hbl] at hn;cases hn
 have:b'=b:=kJ (hb'.symm.trans hbl);subst this;rw[hh] at hh';cases hh';have hvs:vs= #[.slice (some ⟨b',0,none⟩) l.length cap]:=by
  apply Array.ext
  ·simpa using hsz1
  ·intro i hi1 hi2;have:i=0:=by simp at hi2;omega
   subst this;rw[<-qMU _ hi1 undef,e0];rfl
 have hblt:b'<w.heap.size:=(uk.1 hh).1;have hnA:¬M.A b':=(hin.rng 0 0 b' hver hbl).2.2;rw[Nat.mul_one] at hns;have hcell:∀i,i<l.length->arr.getD i undef= .int .i64 (l.getD i du):=by
  intro i hi;have:=(hcr i hi).2 0 (by omega);rw[Nat.mul_one,un] at this;unfold rowf at this;simp only[uv] at this;exact this.val_eq
 have hH:Holds (Value.int .i64) w b' 0 l.toArray:=by
  intro t ht;have ht':t<l.length:=by simpa using ht
  have htlt:t<arr.size:=by omega
  refine⟨?_,?_⟩
  ·rw[show(0+t)=t by omega];have:w.cell? ⟨b',t,none⟩=arr[t]? :=by unfold World.cell?;rw[hh];rfl
   rw[this,kD htlt];have hc:=hcell t ht';rw[qMU _ htlt] at hc;rw[hc]
   congr 2
   rw[kg,kt ht',getElem!_pos _ _ (by simpa using ht')];rfl
  ·unfold World.frozen?;rw[hh];simp
 have key:=Any.slices_Sort_int L b' 0 cap l w hH hblt hlt;rw[hvs];refine key.mono ?_;rintro e w' ⟨he,n,os,hw'⟩;have hw2:w'=qIF w b' n (GO (λx y=>decide (x<=y)) l).toArray os:=by rw[hw',qXN];rfl
 subst hw2;refine⟨undef,{M with A:=λb=>M.A b\/w.heap.size<=b},he,⟨rfl,rfl,rfl,qYf _ _ _ _ _,λc hc hno=>qPV _ _ _ _ _ hc λh=>hno ⟨0,0,hver,by rw[h];exact hbl⟩,Nat.le_add_right _ _⟩,?_,?_⟩
 ·intro c arr' e' hc;by_cases hcb:c=b'
  ·subst hcb;rw[hh] at hc;cases hc;exact⟨_,qP0 _ _ _ _ _ hh,by simp[putCells]⟩
  ·exact⟨arr',by rw[qPV _ _ _ _ _ (uk.1 hc).1 hcb];exact hc,rfl⟩
 ·refine⟨λi hi=>?_,hin.inj,λi k' b hv hb=>?_,λi k' k'' _ _ _=>rfl,λb=>Iff.rfl,rfl,λi k' o ho=>?_⟩
  ·have:=hin.only i hi;unfold hits at this⊢;rw[look_cons] at this⊢;split at this
   ·rename_i h;rw[if_pos h];rfl
   ·cases this
  ·exact⟨.inr ⟨⟨k',hv⟩,hb⟩,uD (hin.rng i k' b hv hb).2.1 (qYf _ _ _ _ _)⟩
  ·rw[look_cons] at ho;split at ho
   ·rename_i h;subst h;cases ho;refine⟨hver,.inr ⟨b',_,hbl,qP0 _ _ _ _ _ hh,?_,λi hi=>⟨rfl,λj hj=>?_⟩⟩⟩
    ·rw[hlen];simpa[putCells] using hns
    ·rw[hlen] at hi;have:j=0:=by omega
     subst this;rw[Nat.mul_one,un,si_get (n:=l.length) _ (by simpa using hlen) hns hi];unfold rowf;simp only[uv];have hge:(GO (λx y=>decide (x<=y)) l).toArray[i]! =(GO (λx y=>decide (x<=y)) l).getD i du:=by
      rw[kg,kt (by omega),getElem!_pos _ _ (by simpa using(by omega:i<(GO (λx y=>decide (x<=y)) l).length))];rfl
     rw[hge];exact .val _ rfl
   ·cases ho
end Go.SL

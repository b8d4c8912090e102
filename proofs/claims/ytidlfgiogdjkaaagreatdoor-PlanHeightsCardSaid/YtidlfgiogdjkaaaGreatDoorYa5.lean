/- A region carried out at once, by computation. -/
import Derived.Test.YtidlfgiogdjkaaaGreatDoorYa4
import Derived.Deep.Slices
import Derived.OpenShut
import Derived.WideShapes
import Derived.Carry
import Derived.WalkKit
import Derived.ProofKit
import Derived.Deep.DeepHandedRow
set_option linter.unusedVariables false
set_option linter.unusedSimpArgs false
namespace Go.SL
open Go.RowKit
inductive Fin where
  |own (s id e sz:Nat) (f:Nat->List C)
  |ownB (bx j id e sz:Nat) (f:Nat->List C)
  |frz (id:Nat)
  |row (id n:Nat) (f:Nat->List C)
  |len (id n:Nat)
  |swp (i j:Nat)
  |lpn (id:Nat) (s:LoopState) (j:Option Code)
def fin1 (K:Ctx) (st:St):Fin->Option (St×Option Prop)
  | .own s id e sz f=>match look s st.slots with
    |some (.v (.one .emp))=>bif st.freeB [(id,0)]&&(Nat.blt s K.nt&&Nat.ble K.m id) then some (st.app (some s) (.v (.one (.own id 0 sz 0))) [(id,(0,.row e sz 0 f))],none) else none
    |_=>none
  | .ownB bx j id e sz f=>match look bx st.objs with
    | some (kb,.box eb cs)=>(match cs[j]? with
      |some .emp=>bif st.freeB [(id,0)]&&(!Nat.beq bx id&&Nat.ble K.m id) then some (st.app none .any [(bx,(kb,.box eb (cs.set j (.own id 0 sz 0)))),(id,(0,.row e sz 0 f))],none) else none
      |_=>none)
    |_=>none
  | .frz id=>bif Nat.ble K.n id&&Nat.ble K.m id then st.frz id else none
  | .row id n' f'=>match look id st.objs with|some (k,.row e sz n f)=>some (st.app none .any [(id,(k,.row e sz n' f'))],some (n'<=n/\∀i,i<n'->f' i=f i))|_=>none
  | .len id n'=>st.len id n'
  | .swp i j=>bif Nat.ble K.n i&&(Nat.ble K.m i&&(Nat.ble K.n j&&Nat.ble K.m j)) then some (st.swp i j,none) else none
  | .lpn id s' j'=>match look id st.objs with|some (k,.lp R b s j)=>some (st.app none .any [(id,(k,.lp R b s' j'))],some (s=s'/\j=j'))|_=>none
def LH (K:Ctx):List Fin->St->Option (St×Option Prop)
  |[],st=>some (st,none)
  |x::r,st=>match fin1 K st x with|some (st1,p)=>(match LH K r st1 with|some (st2,q)=>some (st2,an p q)|none=>none)|none=>none
theorem qSA {K:Ctx} {M:Mem} {a:Act} {w:World} {st st':St} {x:Fin} {q:Option Prop} (h:fin1 K st x=some (st',q)) (hq:oP q) (hs:Sim1 K M st a w):∃M',Sim1 K M' st' a w:=by
  cases x with
  | own s id e sz f=>
    simp only[fin1] at h;split at h
    · rename_i hl;cases hb:st.freeB [(id,0)]&&(Nat.blt s K.nt&&Nat.ble K.m id) with
      |false=>rw[hb] at h;cases h
      | true=>
        rw[hb] at h;cases h;simp only[Bool.and_eq_true] at hb;exact⟨_,hs.own s id e sz f hl hb.1 hb.2.2 hb.2.1⟩
    · cases h
  | ownB bx j id e sz f=>
    simp only[fin1] at h;split at h
    · rename_i kb eb cs hl;split at h
      · rename_i hj;cases hb:st.freeB [(id,0)]&&(!Nat.beq bx id&&Nat.ble K.m id) with
        |false=>rw[hb] at h;cases h
        | true=>
          rw[hb] at h;cases h;simp only[Bool.and_eq_true,Bool.not_eq_true'] at hb;exact⟨_,hs.ownB bx kb eb j id e sz cs f hl hj hb.1 hb.2.2 hb.2.1⟩
      · cases h
    · cases h
  | frz id=>
    simp only[fin1] at h;cases hb:Nat.ble K.n id&&Nat.ble K.m id with
    |false=>rw[hb] at h;cases h
    | true=>
      rw[hb] at h;rw[Bool.and_eq_true,Nat.ble_eq,Nat.ble_eq] at hb;exact⟨_,hs.frz (by omega) h hq⟩
  | row id n' f'=>
    simp only[fin1] at h;split at h
    · rename_i k e sz n f hl;cases h;exact⟨_,hs.respell id k e sz n n' f f' hl hq.1 hq.2⟩
    · cases h
  |len id n'=>exact⟨_,hs.len h hq⟩
  | swp i j=>
    simp only[fin1] at h;cases hb:Nat.ble K.n i&&(Nat.ble K.m i&&(Nat.ble K.n j&&Nat.ble K.m j)) with
    |false=>rw[hb] at h;cases h
    | true=>
      rw[hb] at h;cases h;simp only[Bool.and_eq_true,Nat.ble_eq] at hb;exact⟨_,hs.swap i j (by omega) (by omega)⟩
  | lpn id s' j'=>
    simp only[fin1] at h;split at h
    · rename_i k R b s j hl;cases h;obtain⟨rfl,rfl⟩:s=s'/\j=j':=hq;refine⟨M,⟨hs.1.inj,hs.1.rng,hs.1.fix,hs.1.below,hs.1.shape,hs.1.area,hs.1.size,hs.1.defers,λx y hx=>hs.1.slots x y hx,λi k' o ho=>?_⟩,λi hi=>?_⟩
      · simp only[St.app,List.cons_append,List.nil_append,look_cons] at ho;split at ho
        · rename_i e;subst e;cases ho;exact hs.1.objs _ _ _ hl
        · exact hs.1.objs i k' o ho
      · have:=hs.2 i hi;unfold hits at this⊢;simp only[St.app,List.cons_append,List.nil_append,look_cons];split
        · rfl
        · exact this
    · cases h
theorem tkP {α:Type} (enc:α->List C) (d:α) (l:List α) (n n':Nat) (h:n'<=n):n'<=n/\∀i,i<n'->rowf enc d (l.take n') i=rowf enc d l i:=⟨h,qRr enc d l n'⟩
theorem NJ {K:Ctx} {a:Act} {w:World}:∀{l:List Fin} {M:Mem} {st st':St} {q:Option Prop},LH K l st=some (st',q)->oP q->Sim1 K M st a w->∃M',Sim1 K M' st' a w
  |[],M,_,_,_,h,_,hs=>by cases h;exact⟨M,hs⟩
  | x::r,M,st,st',q,h,hq,hs=>by
    simp only[LH] at h;split at h
    · rename_i st1 p h1;split at h
      · rename_i st2 q2 h2;cases h;obtain⟨p1,p2⟩:=QR hq;obtain⟨M1,hs1⟩:=qSA h1 p1 hs;exact NJ h2 p2 hs1
      · cases h
    · cases h
structure Dir where
  pre:List Fin
  fx:Option Bool
  ex:Option Ent
  rw:Option (Nat×Nat×(Nat->List C))
def noOb :Op->Bool
  | .binOp .quo _ _ _ _| .binOp .rem _ _ _ _| .binOp .shl _ _ _ _| .binOp .shr _ _ _ _=>false
  | .move _| .assign _| .pick _ _ _| .unOp _ _ _| .convert _ _ _| .fieldAddr _ _ _| .field _ _ _| .extract _ _| .nilCheck _| .makeFunc _ _ _| .call _| .binOp _ _ _ _ _| .build _ _=>true
  |_=>false
def oev (P:Program) (gl:List (Nat×C)) (st:St) (nid:Nat) (op:Op):Option (V×List (Nat×Nat)×List (Nat×(Nat×O))×Option Prop×List Nat):=
  match op with
  | .box e x=>match op1 gl st x with|some y=>bif y.freeB [(nid,0)] then some (.v (.one (.bptr nid 0 0)),[(nid,0)],[(nid,(0,.box e y.cells))],none,[]) else none|none=>none
  | .alloc e=>match NQ P e with|some cs=>bif cs.all (C.freeB [(nid,0)]) then some (.v (.one (.bptr nid 0 0)),[(nid,0)],[(nid,(0,.box e cs))],none,[]) else none|none=>none
  | .store t p x=>match op1 gl st p,op1 gl st x with
    | some (.one (.bptr id k j)),some y=>(match look id st.objs with
      |some (k',.box e cs)=>bif Nat.beq k k'&&(Nat.beq (szOf P t) y.cells.length&&((P.info? t).isSome&&Nat.ble (j+y.cells.length) cs.length)) then some (.undef,[],[(id,(k,.box e (QA cs j y.cells)))],none,[id]) else none
      |_=>none)
    |_,_=>none
  | .load t p=>match pev2 P gl st op,op1 gl st p with
    |some (y,_),some (.one (.bptr id _ _))=>some (y,[],[],none,[id])
    |some (y,ob),some (.one (.rptr id _ _ _ _))=>some (y,[],[],some ob,[id])
    |some (y,_),some (.one (.lptr _))=>some (y,[],[],none,[])
    |some (y,_),some (.one (.aptr _ _ _))=>some (y,[],[],none,[])
    |_,_=>none
  |_=>match pev2 P gl st op with|some (y,ob)=>some (y,[],[],bif noOb op then none else some ob,[])|none=>none
section
variable {P :Program} {gl:List (Nat×C)} {st:St}
theorem qFB {t:TypeId} {p:Operand} {y:V} {ob:Prop} (h:pev P gl st (.load t p)=some (y,ob)) (hc:(∃id k j,op1 gl st p=some (.one (.bptr id k j)))\/(∃cs,op1 gl st p=some (.one (.lptr cs)))\/∃n sz f,op1 gl st p=some (.one (.aptr n sz f))):ob:=by
  simp only[pev] at h;split at h
  · rename_i x hx;unfold qMl at h;rcases hc with⟨id,k,j,hc⟩|⟨cs,hc⟩|⟨n,sz,f,hc⟩
    · rw[hx] at hc;cases hc;simp only at h;split at h
      · rename_i cs o heq;rw[Option.map_eq_some_iff] at h;obtain⟨_,_,h⟩:=h;cases h;unfold BM at heq;simp only at heq;split at heq
        · rename_i k' e cs' hl;cases hk:Nat.beq k k' with
          |false=>rw[hk] at heq;cases heq
          |true=>rw[hk] at heq;cases heq;trivial
        · cases heq
      · cases h
    · rw[hx] at hc;cases hc;simp only at h;split at h
      · rename_i cs o heq;rw[Option.map_eq_some_iff] at h;obtain⟨_,_,h⟩:=h;cases h;unfold BM at heq;cases heq;trivial
      · cases h
    · rw[hx] at hc;cases hc;simp only at h;split at h
      · rename_i cs o heq;rw[Option.map_eq_some_iff] at h;obtain⟨_,_,h⟩:=h;cases h;unfold BM at heq;simp only at heq;cases hk:Nat.ble n 64&&(List.range n).all (λi=>Nat.beq (f i).length sz) with
        |false=>rw[hk] at heq;cases heq
        |true=>rw[hk] at heq;cases heq;trivial
      · cases h
  · cases h
theorem binV_true {op:BinOp} {t:TypeId} {x y:V1} {z:V1} {ob:Prop} (h:binV P op t x y=some (z,ob)) (h1:op≠ .quo) (h2:op≠ .rem) (h3:op≠ .shl) (h4:op≠ .shr):ob:=by
  unfold binV at h;split at h
  · rw[if_neg h3,if_neg h4] at h;split at h
    · split at h<;>first|(cases h;trivial)|exact absurd rfl h1|exact absurd rfl h2|cases h
    · cases h
  · split at h<;>first|(cases h;trivial)|cases h
  · split at h<;>first|(cases h;trivial)|cases h
  · split at h
    · cases hg:P.eqGuardType P.depth t with
      |true=>rw[hg] at h;cases h
      |false=>rw[hg] at h;simp only[cond_false] at h;split at h<;>first|(cases h;trivial)|cases h
    · cases hg:P.eqGuardType P.depth t with
      |true=>rw[hg] at h;cases h
      |false=>rw[hg] at h;simp only[cond_false] at h;split at h<;>first|(cases h;trivial)|cases h
    · cases h
  · cases h
theorem qMN {op:Op} {y:V} {ob:Prop} (hn:noOb op=true) (h:pev P gl st op=some (y,ob)):ob:=by
  cases op with
  |move x=>simp only[pev] at h;split at h<;>cases h;trivial
  |assign x=>simp only[pev] at h;split at h<;>cases h;trivial
  | pick c a b=>
    simp only[pev] at h;split at h
    · split at h<;>cases h;trivial
    · cases h
  | binOp o t x z t2=>
    have h1:o≠ .quo:=λe=>by subst e;cases hn
    have h2:o≠ .rem:=λe=>by subst e;cases hn
    have h3:o≠ .shl:=λe=>by subst e;cases hn
    have h4:o≠ .shr:=λe=>by subst e;cases hn
    simp only[pev] at h;split at h
    · split at h
      · rename_i hb;cases h;exact binV_true hb h1 h2 h3 h4
      · cases h
    · cases h
  | unOp o t x=>
    simp only[pev] at h;split at h
    · unfold unV at h;split at h<;>first|(cases h;trivial)|cases h
    · cases h
  | convert s d x=>
    simp only[pev] at h;split at h
    · unfold qMt at h;split at h<;>first|(cases h;trivial)|cases h
    · cases h
  | fieldAddr s x f=>
    simp only[pev] at h;split at h
    · unfold qJJ at h;split at h
      · split at h
        · split at h
          · rename_i i _;cases hz:Nat.beq i.size 0 with
            |true=>rw[hz] at h;cases h
            | false=>
              rw[hz] at h;simp only[cond_false,Option.map_eq_some_iff] at h;obtain⟨_,_,h⟩:=h;cases h;trivial
          · cases h
        · cases h
      · cases h
    · cases h
  | field s x f=>
    simp only[pev] at h;split at h
    · split at h
      · split at h<;>first|(cases h;trivial)|cases h
      · cases h
    · cases h
  | extract x i=>
    simp only[pev] at h;split at h
    · split at h<;>first|(cases h;trivial)|cases h
    · cases h
  |nilCheck x=>simp only[pev] at h;split at h<;>first|(cases h;trivial)|cases h
  | build t ps=>
    simp only[pev] at h;split at h
    · unfold qI9 at h;split at h
      · rename_i fs z _ _;cases hf:fs.toList.all (λf=>(P.info? f.type).isSome) with
        |false=>rw[hf] at h;cases h
        | true=>
          rw[hf] at h;simp only[cond_true,Option.map_eq_some_iff] at h;obtain⟨_,_,h⟩:=h;cases h;trivial
      · split at h
        · rw[Option.map_eq_some_iff] at h;obtain⟨_,_,h⟩:=h;cases h;trivial
        · cases h
      · cases h
    · cases h
  | call c=>
    obtain⟨callee,args,ats⟩:=c;cases callee with
    | builtin b=>
      simp only[pev] at h;split at h
      · unfold lenV at h;split at h<;>first|(cases h;trivial)|cases h
      · split at h<;>first|(cases h;trivial)|cases h
      · split at h<;>first|(cases h;trivial)|cases h
      · cases h
    |_=>cases h
  |makeFunc f a b=>cases h
  |_=>cases hn
theorem qQU {op:Op} {y:V} {ob:Prop} (hn:noOb op=true) (h:pev2 P gl st op=some (y,ob)):ob:=by
  unfold pev2 at h;split at h
  · split at h
    · split at h<;>first|(cases h;trivial)|cases h
    · cases h
  · cases hn
  · cases hn
  · split at h
    · split at h<;>first|(cases h;trivial)|cases h
    · exact qMN hn h
  · exact qMN hn h
end
theorem qRS {K:Ctx} {st:St} {o:Oper} {nid:Nat} {x:V} {nv:List (Nat×Nat)} {ob:List (Nat×(Nat×O))} {q:Option Prop} {ro:List Nat} (h:oev K.P K.globs st nid o.op=some (x,nv,ob,q,ro)) (hq:oP q):Step K st o nv ob x:=by
  unfold oev at h;split at h
  · rename_i e y hop;split at h
    · rename_i z hz;cases hf:z.freeB [(nid,0)] with
      |false=>rw[hf] at h;cases h
      |true=>rw[hf] at h;cases h;exact Step_box e y nid 0 z hop hz hf
    · cases h
  · rename_i e hop;split at h
    · rename_i cs hz;cases hf:cs.all (C.freeB [(nid,0)]) with
      |false=>rw[hf] at h;cases h
      |true=>rw[hf] at h;cases h;exact Step_alloc e nid 0 cs hop hz hf
    · cases h
  · rename_i t p y hop;split at h
    · rename_i id k j z hp hy;split at h
      · rename_i k' e cs hl;cases hb:Nat.beq k k'&&(Nat.beq (szOf K.P t) z.cells.length&&((K.P.info? t).isSome&&Nat.ble (j+z.cells.length) cs.length)) with
        |false=>rw[hb] at h;cases h
        | true=>
          rw[hb] at h;cases h;simp only[Bool.and_eq_true] at hb;obtain⟨h1,h2,h3,h4⟩:=hb;have hk:=Nat.eq_of_beq_eq_true h1;subst hk;exact qKq t p y id k j e cs z _ hop hp hy hl (Nat.eq_of_beq_eq_true h2) h3 h4 rfl
      · cases h
    · cases h
  · rename_i t p hop;have hpe:∀r,pev2 K.P K.globs st o.op=r->pev K.P K.globs st (.load t p)=r:=λr hr=>by rw[hop] at hr;exact hr
    split at h
    · rename_i y ob' id k j h1 h2;cases h;exact Step_pure2 h1 (qFB (hpe _ h1) (.inl ⟨_,_,_,h2⟩))
    · rename_i y ob' id k sz i j h1 h2;cases h;exact Step_pure2 h1 hq
    · rename_i y ob' cs h1 h2;cases h;exact Step_pure2 h1 (qFB (hpe _ h1) (.inr (.inl ⟨_,h2⟩)))
    · rename_i y ob' n sz f h1 h2;cases h;exact Step_pure2 h1 (qFB (hpe _ h1) (.inr (.inr ⟨_,_,_,h2⟩)))
    · cases h
  · split at h
    · rename_i y ob' h1;cases h;cases hn:noOb o.op with
      |true=>exact Step_pure2 h1 (qQU hn h1)
      |false=>rw[hn] at hq;exact Step_pure2 h1 hq
    · cases h
def rowEv (P:Program) (gl:List (Nat×C)) (st:St) (r:Nat×Nat×(Nat->List C)) (op:Op):Option (V×List (Nat×Nat)×List (Nat×(Nat×O))×Option Prop×List Nat):=
  match op with
  | .makeSlice t l c=>match op1 gl st l,op1 gl st c,P.underlying t with
    | some (.one (.val (.int _ z))),some (.one (.val (.int _ z'))),some (.slice e)=>(match P.info? e,NQ P e with
      |some i,some cs=>bif Nat.beq cs.length i.size&&(cs.all C.isImm&&Nat.blt 0 i.size) then
          some (.v (.one (.own r.1 r.2.1 i.size z.toNat)),[(r.1,r.2.1)],[(r.1,(r.2.1,.row e i.size z.toNat r.2.2))],some (z'=z/\(0<=z/\(i.bytes:Int)*z<=140737488355328/\z<=9223372036854775807)/\∀m,m<z.toNat->r.2.2 m=cs),[]) else none
      |_,_=>none)
    |_,_,_=>none
  | .buildSlice t len parts=>match qDG gl st parts.toList,P.underlying t with
    | some ps,some (.slice e)=>(match P.info? e,NQ P e with
      | some i,some cs=>(match qA1 (λj=>some (j*i.size,i.size)) ((List.range (len*i.size)).map λj=>cs.getD (j % i.size) .unk) ps with
        |some out=>bif Nat.beq cs.length i.size&&(Nat.blt 0 i.size&&(Nat.ble (len*i.size) 16777216&&(out.all C.isImm&&Nat.beq out.length (len*i.size)))) then
            some (.v (.one (.own r.1 r.2.1 i.size len)),[(r.1,r.2.1)],[(r.1,(r.2.1,.row e i.size len r.2.2))],some (∀m,m<len->r.2.2 m=qCq out i.size m),[]) else none
        |none=>none)
      |_,_=>none)
    |_,_=>none
  | .store t p x=>match op1 gl st p,op1 gl st x with
    | some (.one (.rptr id k sz i j)),some y=>(match look id st.objs with
      |some (k',.row e sz' n f)=>bif Nat.beq k k'&&(Nat.beq sz sz'&&(Nat.beq (szOf P t) y.cells.length&&((P.info? t).isSome&&(y.cells.all C.isImm&&Nat.ble (j+y.cells.length) sz)))) then
          some (.undef,[],[(id,(k,.row e sz n r.2.2))],some (i<n/\∀m,m<n->r.2.2 m=if m=i then QA (f i) j y.cells else f m),[id]) else none
      |_=>none)
    |_,_=>none
  | .slice t x lo hi mx=>match pev2 P gl st (.slice t x lo hi mx) with
    |some (.v (.one (.lst n f)),ob)=>some (.v (.one (.lst r.1 r.2.2)),[],[],some (ob/\n=r.1/\∀i,i<n->r.2.2 i=f i),[])
    |_=>none
  | .call c=>match qMp (.call c) with
   |some (s,t)=>(match op1 gl st s,P.underlying t with
    | some (.one (.sub id k sz off len)),some (.slice e)=>(match P.info? e,NQ P e,look id st.objs with
      |some _,some cs,some (k',.row e' sz' n f)=>bif Nat.beq k k'&&(Nat.beq sz sz'&&(Nat.beq e' e&&Nat.beq cs.length sz)) then some (.undef,[],[(id,(k,.row e sz off f))],some (off+len<=n),[id]) else none
      |_,_,_=>none)
    |_,_=>none)
   |none=>match qGw (.call c) with
    | some (s,x,t)=>(match op1 gl st s,op1 gl st x,P.underlying t with
      | some (.one (.own id k sz len)),some xv,some (.slice e)=>(match look id st.objs,P.info? e,qGB st xv with
        | some (k',.row e' sz' n f),some i,some (m,g,ob)=>(match i.zero with
          |some z=>bif Nat.beq k k'&&(Nat.beq sz i.size&&(Nat.beq sz' i.size&&(Nat.beq e' e&&(Nat.beq z.cells.size i.size&&(Nat.blt 0 i.size&&Nat.blt 0 i.bytes))))) then
              some (.v (.one (.own id r.2.1 i.size (len+m))),[(id,r.2.1)],[(id,(r.2.1,.row e i.size (len+m) r.2.2))],
                some (ob/\(∀j,j<m->(g j).length=i.size)/\len<=n/\(len+m)*i.bytes<=140737488355328/\∀j,j<len+m->r.2.2 j=if j<len then f j else g (j-len)),id::srcIds xv) else none
          |none=>none)
        |_,_,_=>none)
      | some (.one .emp),some xv,some (.slice e)=>(match P.info? e,qGB st xv with
        | some i,some (m,g,ob)=>(match i.zero with
          |some z=>bif Nat.beq z.cells.size i.size&&(Nat.blt 0 i.size&&Nat.blt 0 i.bytes) then
              some (.v (.one (.own r.1 r.2.1 i.size m)),[(r.1,r.2.1)],[(r.1,(r.2.1,.row e i.size m g))],some (ob/\(∀j,j<m->(g j).length=i.size)/\m*i.bytes<=140737488355328),srcIds xv) else none
          |none=>none)
        |_,_=>none)
      |_,_,_=>none)
    |none=>none
  |_=>none
where
  srcIds:V1->List Nat
    | .one (.own id _ _ _)=>[id]
    | .one (.sub id _ _ _ _)=>[id]
    |_=>[]
theorem qQe {K:Ctx} {st:St} {o:Oper} {r:Nat×Nat×(Nat->List C)} {x:V} {nv:List (Nat×Nat)} {ob:List (Nat×(Nat×O))} {q:Option Prop} {ro:List Nat} (h:rowEv K.P K.globs st r o.op=some (x,nv,ob,q,ro)) (hq:oP q):Step K st o nv ob x:=by
  unfold rowEv at h;split at h
  · rename_i t l c hop;split at h
    · rename_i kl z kc z' e hl hc ht;split at h
      · rename_i i cs hi hz;cases hb:Nat.beq cs.length i.size&&(cs.all C.isImm&&Nat.blt 0 i.size) with
        |false=>rw[hb] at h;cases h
        | true=>
          rw[hb] at h;cases h;simp only[Bool.and_eq_true (a:=Nat.beq cs.length i.size),Bool.and_eq_true (a:=cs.all C.isImm)] at hb;obtain⟨rfl,⟨h0,h1,h2⟩,h3⟩:=hq;exact qQ6 t e l c r.1 r.2.1 kl kc z' i cs hop hl hc ht hi hz hb.1 hb.2.1 hb.2.2 h0 h1 h2 r.2.2 h3
      · cases h
    · cases h
  · rename_i t len parts hop;split at h
    · rename_i ps e hps ht;split at h
      · rename_i i cs hi hz;split at h
        · rename_i out hout;cases hb:Nat.beq cs.length i.size&&(Nat.blt 0 i.size&&(Nat.ble (len*i.size) 16777216&&(out.all C.isImm&&Nat.beq out.length (len*i.size)))) with
          |false=>rw[hb] at h;cases h
          | true=>
            rw[hb] at h;cases h;simp only[Bool.and_eq_true (a:=Nat.beq cs.length i.size),Bool.and_eq_true (a:=Nat.blt 0 i.size),Bool.and_eq_true (a:=Nat.ble (len*i.size) 16777216),Bool.and_eq_true (a:=out.all C.isImm)] at hb;exact qR3 t e len parts r.1 r.2.1 i cs ps out hop hps ht hi hz hb.1 hb.2.1 hb.2.2.1 hout hb.2.2.2.1 hb.2.2.2.2 r.2.2 hq
        · cases h
      · cases h
    · cases h
  · rename_i t p y hop;split at h
    · rename_i id k sz i j z hp hy;split at h
      · rename_i k' e sz' n f hl;cases hb:Nat.beq k k'&&(Nat.beq sz sz'&&(Nat.beq (szOf K.P t) z.cells.length&&((K.P.info? t).isSome&&(z.cells.all C.isImm&&Nat.ble (j+z.cells.length) sz)))) with
        |false=>rw[hb] at h;cases h
        | true=>
          rw[hb] at h;cases h;simp only[Bool.and_eq_true (a:=Nat.beq k k'),Bool.and_eq_true (a:=Nat.beq sz sz'),Bool.and_eq_true (a:=Nat.beq (szOf K.P t) z.cells.length),Bool.and_eq_true (a:=(K.P.info? t).isSome),Bool.and_eq_true (a:=z.cells.all C.isImm)] at hb;obtain⟨h1,h2,h3,h4,h5,h6⟩:=hb;have e1:=Nat.eq_of_beq_eq_true h1;have e2:=Nat.eq_of_beq_eq_true h2;subst e1 e2;obtain⟨q1,q2⟩:=hq;exact qJ2 t p y id k sz i j e n f r.2.2 z hop hp hy hl (Nat.eq_of_beq_eq_true h3) h4 h5 h6 q1 q2
      · cases h
    · cases h
  · rename_i t x lo hi mx hop;split at h
    · rename_i n f ob' hp;cases h;obtain⟨q1,q2,q3⟩:=hq;exact qQf (by rw[hop];exact hp) q1 q2 q3
    · cases h
  · rename_i c hop;split at h
    · rename_i s t hc;split at h
      · rename_i id k sz off len e hs ht;split at h
        · rename_i i cs k' e' sz' n f hi hz hl;cases hb:Nat.beq k k'&&(Nat.beq sz sz'&&(Nat.beq e' e&&Nat.beq cs.length sz)) with
          |false=>rw[hb] at h;cases h
          | true=>
            rw[hb] at h;cases h;simp only[Bool.and_eq_true] at hb;obtain⟨h1,h2,h3,h4⟩:=hb;have e1:=Nat.eq_of_beq_eq_true h1;have e2:=Nat.eq_of_beq_eq_true h2;have e3:=Nat.eq_of_beq_eq_true h3;have e4:=Nat.eq_of_beq_eq_true h4;subst e1 e2 e3;exact qPN s t e' id k sz off len i cs n f (by rw[hop];exact hc) hs ht hi hz e4 hl hq
        · cases h
      · cases h
    · split at h
      · rename_i s y t ha;split at h
        · rename_i id k sz len xv e hs hx ht;split at h
          · rename_i k' e' sz' n f i m g ob' hl hi hsrc;split at h
            · rename_i z hz;cases hb:Nat.beq k k'&&(Nat.beq sz i.size&&(Nat.beq sz' i.size&&(Nat.beq e' e&&(Nat.beq z.cells.size i.size&&(Nat.blt 0 i.size&&Nat.blt 0 i.bytes))))) with
              |false=>rw[hb] at h;cases h
              | true=>
                rw[hb] at h;cases h;simp only[Bool.and_eq_true] at hb;obtain⟨h1,h2,h3,h4,h5,h6,h7⟩:=hb;have e1:=Nat.eq_of_beq_eq_true h1;have e2:=Nat.eq_of_beq_eq_true h2;have e3:=Nat.eq_of_beq_eq_true h3;have e4:=Nat.eq_of_beq_eq_true h4;subst e1 e2 e3 e4;obtain⟨q1,q2,q3,q4,q5⟩:=hq;exact qOW s y t e' id k r.2.1 len n m i z f g r.2.2 xv ob' (by rw[hop];exact ha) hs hl ht hi hz h5 h6 h7 hx hsrc q1 q2 q3 q4 q5
            · cases h
          · cases h
        · rename_i xv e hs hx ht;split at h
          · rename_i i m g ob' hi hsrc;split at h
            · rename_i z hz;cases hb:Nat.beq z.cells.size i.size&&(Nat.blt 0 i.size&&Nat.blt 0 i.bytes) with
              |false=>rw[hb] at h;cases h
              | true=>
                rw[hb] at h;cases h;simp only[Bool.and_eq_true] at hb;obtain⟨q1,q2,q3⟩:=hq;exact qM2 s y t e r.1 r.2.1 m i z g xv ob' (by rw[hop];exact ha) hs ht hi hz hb.1 hb.2.1 hb.2.2 hx hsrc q1 q2 q3
            · cases h
          · cases h
        · cases h
      · cases h
  · cases h
def opEv (P:Program) (gl:List (Nat×C)) (st:St) (nid:Nat) (rw:Option (Nat×Nat×(Nat->List C))) (op:Op):Option (V×List (Nat×Nat)×List (Nat×(Nat×O))×Option Prop×List Nat):=
  match rw with
  |some r=>rowEv P gl st r op
  |none=>oev P gl st nid op
theorem qLt {K:Ctx} {st:St} {o:Oper} {nid:Nat} {rw:Option (Nat×Nat×(Nat->List C))} {x:V} {nv:List (Nat×Nat)} {ob:List (Nat×(Nat×O))} {q:Option Prop} {ro:List Nat} (h:opEv K.P K.globs st nid rw o.op=some (x,nv,ob,q,ro)) (hq:oP q):Step K st o nv ob x:=by
  cases rw with
  |some r=>exact qQe h hq
  |none=>exact qRS h hq
theorem mkP {α:Type} (enc:α->List C) (d x:α) (z:Int) (b:Nat) (cs:List C) (hg:0<=z/\(b:Int)*z<=140737488355328/\z<=9223372036854775807) (hx:enc x=cs):z=z/\(0<=z/\(b:Int)*z<=140737488355328/\z<=9223372036854775807)/\∀m,m<z.toNat->rowf enc d (List.replicate z.toNat x) m=cs:=
  ⟨rfl,hg,qRQ enc d x z.toNat cs hx⟩
theorem stP {α:Type} (enc:α->List C) (d x:α) (l:List α) (n i j:Nat) (xs:List C) (hn:l.length=n) (hi:i<n) (hx:enc x=QA (enc (l.getD i d)) j xs):i<n/\∀m,m<n->rowf enc d (l.set i x) m=if m=i then QA (rowf enc d l i) j xs else rowf enc d l m:=⟨hi,qRK enc d x l n i j xs hn hx⟩
theorem apP {α:Type} (enc:α->List C) (d:α) (l r:List α) (n m sz b:Nat) (ob:Prop) (hob:ob) (hl:l.length=n) (hr:r.length=m) (hs:∀x,(enc x).length=sz) (hroom:(n+m)*b<=140737488355328):
    ob/\(∀j,j<m->(rowf enc d r j).length=sz)/\n<=n/\(n+m)*b<=140737488355328/\∀j,j<n+m->rowf enc d (l++r) j=if j<n then rowf enc d l j else rowf enc d r (j-n):=
  ⟨hob,λ_ _=>hs _,Nat.le_refl _,hroom,qSF enc d l r n m hl hr⟩
theorem slPlo {α:Type} (enc:α->List C) (d:α) (l:List α) (z:Int) (h:0<=z/\z<=((l.length:Nat):Int)):(0<=z/\z<=((l.length:Nat):Int))/\l.length-z.toNat=(l.drop z.toNat).length/\∀i,i<l.length-z.toNat->rowf enc d (l.drop z.toNat) i=rowf enc d l (z.toNat+i):=
  ⟨h,by simp,λi _=>by unfold rowf;simp[List.getD_eq_getElem?_getD,List.getElem?_drop]⟩
theorem slPhi {α:Type} (enc:α->List C) (d:α) (l:List α) (z:Int) (h:0<=z/\z<=((l.length:Nat):Int)):(0<=z/\z<=((l.length:Nat):Int))/\z.toNat-0=(l.take z.toNat).length/\∀i,i<z.toNat-0->rowf enc d (l.take z.toNat) i=rowf enc d l (0+i):=
  ⟨h,by simp;omega,λi hi=>by unfold rowf;rw[Nat.zero_add];simp only[List.getD_eq_getElem?_getD,List.getElem?_take];rw[if_pos (by omega)]⟩
theorem litP {α:Type} (enc:α->List C) (d:α) (sz:Nat) (hs:∀x,(enc x).length=sz):∀(l:List α) (n:Nat),l.length=n->∀m,m<n->rowf enc d l m=qCq (l.flatMap enc) sz m
  |[],_,rfl,m,hm=>by simp at hm
  | a::l,_,rfl,0,_=>by
    unfold rowf qCq;simp only[List.getD_cons_zero,Nat.zero_mul,List.drop_zero,List.flatMap_cons];rw[List.take_append_of_le_length (by rw[hs];exact Nat.le_refl _),List.take_of_length_le (by rw[hs];exact Nat.le_refl _)]
  | a::l,_,rfl,m+1,hm=>by
    have ih:=litP enc d sz hs l l.length rfl m (by simpa using hm);unfold rowf qCq at ih⊢;rw[List.getD_cons_succ,ih,List.flatMap_cons]
    congr 1
    rw[show(m+1)*sz=(enc a).length+m*sz by rw[hs,Nat.add_mul];omega,List.drop_append,List.drop_of_length_le (l:=enc a) (by omega),Nat.add_sub_cancel_left,List.nil_append]
end Go.SL

namespace Go.SL
open Go.RowKit
theorem qSe {K:Ctx} {M:Mem} {st:St} {a:Act} {w:World} (h:Sim K M st a w) (rs ro:List Nat):Sim K M (st.only rs ro) a w:=
 ⟨h.inj,h.rng,h.fix,h.below,h.shape,h.area,h.size,h.defers,λs x hx=>h.slots s x (YO hx).2,λi k o ho=>h.objs i k o (YO ho).2⟩
theorem qQ7 {st:St} {rs ro:List Nat} {i:Nat} (hm:i∈ro) (h:(look i st.objs).isSome=true):(look i (st.only rs ro).objs).isSome=true:=by
 show(look i (ro.filterMap λi=>(look i st.objs).map λx=>(i,x))).isSome=true
 induction ro with
 |nil=>cases hm
 |cons r ro ih=>
  simp only[List.filterMap_cons];by_cases hri:r=i
  ·subst hri;obtain⟨x,hx⟩:=Option.isSome_iff_exists.1 h;simp[hx,look_cons]
  ·have hm2:i∈ro:=by rcases List.mem_cons.1 hm with h|h;exact absurd h.symm hri;exact h
   cases hlr:look r st.objs with
   |none=>exact ih hm2
   |some q=>simp only[Option.map_some,look_cons,if_neg hri];exact ih hm2
theorem qQW {K:Ctx} {st:St} {o:Oper} {e:Ent} (hro:nvRo st e=true) (h:Step K (st.only e.rs e.ro) o e.nv e.ob e.x):Step K st o e.nv e.ob e.x:=by
 intro M a w hs hn;refine h M a w (qSe hs _ _) λi k hik=>?_;rcases hn i k hik with h1|h1
 ·left;have:=List.all_eq_true.1 hro (i,k) hik;simp only[Bool.or_eq_true,Option.isNone_iff_eq_none] at this;rcases this with h2|h2
  ·rw[List.any_eq_true] at h2;obtain⟨y,hy,hb⟩:=h2;have e1:=Nat.eq_of_beq_eq_true hb;exact qQ7 (by rw[show i=y from e1];exact hy) h1
  ·rw[h2] at h1;cases h1
 ·exact .inr h1
def Dir.none :Dir:=⟨[],.none,.none,.none⟩
def qCV (dirs:List (Nat×Dir)) (i:Nat):Dir:=match look i dirs with|some d=>d|_=>Dir.none
def fixV (d:Option Bool) (x:V):Option (V×Option Prop):=
 match d,x with
 |none,x=>some (x,none)
 |some t,.v (.one (.val (.bool b)))=>some (qMk t,some (b=t))
 |_,_=>none
theorem qPC {d:Option Bool} {x x':V} {q:Option Prop} (h:fixV d x=some (x',q)) (hq:oP q):x'=x:=by
 unfold fixV at h;split at h
 ·cases h;rfl
 ·cases h;cases hq;rfl
 ·cases h
def nxt (nid:Nat) (nv:List (Nat×Nat)):Nat:=nv.foldl (λm p=>bif Nat.ble m p.1 then p.1+1 else m) nid
def runO (K:Ctx) (ops:Array Oper) (dirs:List (Nat×Dir)):Nat->Nat->St->Nat->Option (St×Option Prop)
 |0,_,st,_=>some (st,none)
 |c+1,i,st,nid=>
  match LH K (qCV dirs i).pre st with
  |none=>none
  |some (st1,p)=>
   match gd ops st1 (opAt ops i) with
   |none=>none
   |some false=>(match runO K ops dirs c (i+1) (st1.app (opAt ops i).dst .undef []) nid with|some (st2,q)=>some (st2,an p q)|none=>none)
   |some true=>
    match (qCV dirs i).ex with
    | some e=>bif nvOk e.nv e.ob&&(GY K.m e.nv&&(st1.freeB e.nv&&nvRo st1 e)) then
      (match runO K ops dirs c (i+1) (st1.app (opAt ops i).dst e.x e.ob) (nxt nid e.nv) with|some (st2,q)=>some (st2,an p (an (some (Step K (st1.only e.rs e.ro) (opAt ops i) e.nv e.ob e.x)) q))|none=>none) else none
    |none=>
     match opEv K.P K.globs st1 nid (qCV dirs i).rw (opAt ops i).op with
     |none=>none
     | some (x,nv,ob,p1,_)=>bif nvOk nv ob&&(GY K.m nv&&st1.freeB nv) then
       (match fixV (qCV dirs i).fx x with
       |none=>none
       |some (x',p2)=>(match runO K ops dirs c (i+1) (st1.app (opAt ops i).dst x' ob) (nxt nid nv) with|some (st2,q)=>some (st2,an p (an p1 (an p2 q)))|none=>none)) else none
theorem qKD {K:Ctx} {ops:Array Oper} {i:Nat} {st st1:St} {l:List Fin} {p:Option Prop} {Q:Exit->St->Prop} (hf:LH K l st=some (st1,p)) (hp:oP p) (h:HOps K ops i st1 Q):HOps K ops i st Q:=λM a w hs=>by
 obtain⟨M',hs'⟩:=NJ hf hp hs;exact h M' a w hs'
theorem SG {K:Ctx} {ops:Array Oper} {dirs:List (Nat×Dir)} {Q:Exit->St->Prop} (hok:LQ K.nt ops=true):∀{c i:Nat} {st st':St} {nid:Nat} {q:Option Prop},runO K ops dirs c i st nid=some (st',q)->oP q->i+c<=ops.size->HOps K ops (i+c) st' Q->HOps K ops i st Q
 |0,_,_,_,_,_,h,_,_,hk=>by cases h;exact hk
 |c+1,i,st,st',nid,q,h,hq,hle,hk=>by
  have hlt:Nat.blt i ops.size=true:=by rw[Nat.blt_eq];omega
  rw[show i+(c+1)=i+1+c by omega] at hk;simp only[runO] at h;split at h
  ·cases h
  ·rename_i st1 p hf;split at h
   ·cases h
   ·rename_i hg;split at h
    ·rename_i st2 q2 hr;cases h;obtain⟨h1,h2⟩:=QR hq;exact qKD hf h1 (qQE hok hlt hg (SG hok hr h2 (by omega) hk))
    ·cases h
   ·rename_i hg;split at h
    ·rename_i e he;cases hb:nvOk e.nv e.ob&&(GY K.m e.nv&&(st1.freeB e.nv&&nvRo st1 e)) with
     |false=>rw[hb] at h;cases h
     |true=>
      rw[hb] at h;simp only[cond_true] at h;simp only[Bool.and_eq_true] at hb;split at h
      ·rename_i st2 q2 hr;cases h;obtain⟨h1,h2⟩:=QR hq;obtain⟨h3,h4⟩:=QR h2;exact qKD hf h1 (qLv hok hlt hg (qQW hb.2.2.2 h3) hb.1 (St.free_of hb.2.2.1) hb.2.1 (SG hok hr h4 (by omega) hk))
      ·cases h
    ·split at h
     ·cases h
     ·rename_i x nv ob p1 ro ho;cases hb:nvOk nv ob&&(GY K.m nv&&st1.freeB nv) with
      |false=>rw[hb] at h;cases h
      |true=>
       rw[hb] at h;simp only[cond_true] at h;simp only[Bool.and_eq_true] at hb;split at h
       ·cases h
       ·rename_i x' p2 hx;split at h
        ·rename_i st2 q2 hr;cases h;obtain⟨h1,h2⟩:=QR hq;obtain⟨h3,h4⟩:=QR h2;obtain⟨h5,h6⟩:=QR h4;have:=qPC hx h5;subst this;exact qKD hf h1 (qLv hok hlt hg (qLt ho h3) hb.1 (St.free_of hb.2.2) hb.2.1 (SG hok hr h6 (by omega) hk))
        ·cases h
def seen (want:St) (r:Option (St×Option Prop)):Option (List (Option V)×List (Option (Nat×O))×Option Prop):=
 match r with
 |some (st,q)=>some (want.slots.map (λp=>look p.1 st.slots),want.objs.map (λp=>look p.1 st.objs),q)
 |none=>none
def wish (want:St) (q:Option Prop):Option (List (Option V)×List (Option (Nat×O))×Option Prop):=some (want.slots.map (λp=>some p.2),want.objs.map (λp=>some p.2),q)
theorem qEm {want:St} {r:Option (St×Option Prop)} {q:Option Prop} (h:seen want r=wish want q):∃st,r=some (st,q)/\Sub want st:=by
 unfold seen wish at h;split at h
 ·rename_i st q';simp only[Option.some.injEq,Prod.mk.injEq] at h;obtain⟨h1,h2,rfl⟩:=h;exact⟨st,rfl,h1,h2⟩
 ·cases h
theorem H_fin {K:Ctx} {st:St} {c:Code} {Q:Exit->St->Prop} (fins:List Fin) (want:St) {q:Option Prop} (hq:oP q) (hf:seen want (LH K fins st)=wish want q) (h:H K want c Q):H K st c Q:=λM a w hs=>by
 obtain⟨st',h1,hsub⟩:=qEm hf;obtain⟨M',hs'⟩:=NJ h1 hq hs;exact h _ a w (hs'.sub hsub)
def runF (K:Ctx) (ops:Array Oper) (dirs:List (Nat×Dir)) (fin:List Fin) (st:St) (nid:Nat):Option (St×Option Prop):=
 bif LQ K.nt ops then(match runO K ops dirs ops.size 0 st nid with|some (st1,p)=>(match LH K fin st1 with|some (st2,q)=>some (st2,an p q)|none=>none)|none=>none) else none
section
variable {K :Ctx} {st:St} {Q:Exit->St->Prop}
theorem R_rn (fn:Func) (nn id:Nat) (dirs:List (Nat×Dir)) (fin:List Fin) (nid:Nat) (want:St) {q:Option Prop} (hq:oP q) (hc:nd fn nn= .region id (rg fn nn) false) (h:seen want (runF K (rg fn nn) dirs fin st nid)=wish want q) (hk:Q .normal want):H K st (nd fn nn) Q:=by
 rw[hc];generalize rg fn nn=ops at h;obtain⟨st',h1,hs⟩:=qEm h;unfold runF at h1;cases hok:LQ K.nt ops with
 |false=>rw[hok] at h1;cases h1
 |true=>
  rw[hok] at h1;simp only[cond_true] at h1;split at h1
  ·rename_i st1 p hr;split at h1
   ·rename_i st2 q2 hf;cases h1;obtain⟨p1,p2⟩:=QR hq;refine qNg (SG hok hr p1 (by omega) ?_);intro M a w hsim;obtain⟨M',hs'⟩:=NJ hf p2 hsim;rw[Nat.zero_add,Nat.sub_self];exact⟨_,want,hk,hs'.sub hs⟩
   ·cases h1
  ·cases h1
def qGp (op:Op):List Nat:=op.operands.toList.filterMap fun| .tmp t=>some t|_=>none
def qBr (ops:Array Oper) (o:Oper):List Nat:=match o.guard with|none=>[]|some (j,_)=>(match (opAt ops j).dst with|some d=>[d]|none=>[])
def qGC (K:Ctx) (ops:Array Oper) (dirs:List (Nat×Dir)):Nat->Nat->St->Nat->Option (List Ent×Option Prop)
 |0,_,_,_=>some ([],none)
 |c+1,i,st,nid=>
  match gd ops (st.only (qBr ops (opAt ops i)) []) (opAt ops i) with
  |none=>none
  |some false=>(match qGC K ops dirs c (i+1) (st.app (opAt ops i).dst .undef []) nid with|some (es,q)=>some (⟨false,.undef,[],[],qBr ops (opAt ops i),[]⟩::es,q)|none=>none)
  |some true=>
   match (qCV dirs i).ex with
   |some e=>(match gd ops (st.only e.rs e.ro) (opAt ops i) with
    | some true=>bif e.run&&nvRo st e then
      (match qGC K ops dirs c (i+1) (st.app (opAt ops i).dst e.x e.ob) (nxt nid e.nv) with|some (es,q)=>some (e::es,an (some (Step K (st.only e.rs e.ro) (opAt ops i) e.nv e.ob e.x)) q)|none=>none) else none
    |_=>none)
   |none=>
    match opEv K.P K.globs st nid (qCV dirs i).rw (opAt ops i).op with
    |none=>none
    |some (_,_,_,_,ro)=>
     match opEv K.P K.globs (st.only (qGp (opAt ops i).op++qBr ops (opAt ops i)) ro) nid (qCV dirs i).rw (opAt ops i).op,gd ops (st.only (qGp (opAt ops i).op++qBr ops (opAt ops i)) ro) (opAt ops i) with
     |some (x,nv,ob,p1,_),some true=>(match fixV (qCV dirs i).fx x with
      |none=>none
      | some (x',p2)=>bif nvRo st ⟨true,x',nv,ob,qGp (opAt ops i).op++qBr ops (opAt ops i),ro⟩ then
        (match qGC K ops dirs c (i+1) (st.app (opAt ops i).dst x' ob) (nxt nid nv) with|some (es,q)=>some (⟨true,x',nv,ob,qGp (opAt ops i).op++qBr ops (opAt ops i),ro⟩::es,an p1 (an p2 q))|none=>none) else none)
     |_,_=>none
theorem IM {ops:Array Oper} {dirs:List (Nat×Dir)}:∀{c i:Nat} {st:St} {nid:Nat} {es:List Ent} {q:Option Prop},qGC K ops dirs c i st nid=some (es,q)->oP q->es.length=c/\AK K ops i st es
 |0,_,_,_,_,_,h,_=>by cases h;exact⟨rfl,trivial⟩
 |c+1,i,st,nid,es,q,h,hq=>by
  simp only[qGC] at h;split at h
  ·cases h
  ·rename_i hg;split at h
   ·rename_i es' q' hr;cases h;obtain⟨i1,i2⟩:=IM hr hq;exact⟨by simp[i1],⟨hg,rfl,rfl,rfl⟩,i2⟩
   ·cases h
  ·rename_i hg0;split at h
   ·rename_i e he;split at h
    ·rename_i hg;cases hb:e.run&&nvRo st e with
     |false=>rw[hb] at h;cases h
     |true=>
      rw[hb] at h;simp only[cond_true] at h;rw[Bool.and_eq_true] at hb;split at h
      ·rename_i es' q' hr;cases h;obtain⟨h1,h2⟩:=QR hq;obtain⟨i1,i2⟩:=IM hr h2;refine⟨by simp[i1],?_,i2⟩;unfold qMq;rw[hb.1];exact⟨hg,hb.2,h1⟩
      ·cases h
    ·cases h
   ·split at h
    ·cases h
    ·rename_i ro _;split at h
     ·rename_i x nv ob p1 _ ho hg;split at h
      ·cases h
      ·rename_i x' p2 hx;cases hb:nvRo st ⟨true,x',nv,ob,qGp (opAt ops i).op++qBr ops (opAt ops i),ro⟩ with
       |false=>rw[hb] at h;cases h
       |true=>
        rw[hb] at h;simp only[cond_true] at h;split at h
        ·rename_i es' q' hr;cases h;obtain⟨h1,h2⟩:=QR hq;obtain⟨h3,h4⟩:=QR h2;obtain⟨i1,i2⟩:=IM hr h4;have:=qPC hx h3;subst this;exact⟨by simp[i1],⟨hg,hb,qLt ho h1⟩,i2⟩
        ·cases h
     ·cases h
def drawF (K:Ctx) (ops:Array Oper) (dirs:List (Nat×Dir)) (fin:List Fin) (bm:List Nat) (st:St) (nid:Nat):Option (St×Option Prop):=
 match qGC K ops dirs ops.size 0 st nid with
 | some (es,p)=>bif LQ K.nt ops&&(qEb ops bm&&(MY ops bm 0 es&&(es.all (λe=>nvOk e.nv e.ob&&GY K.m e.nv)&&es.all (λe=>st.freeB e.nv)))) then
   (match LH K fin (qBN ops 0 st es) with|some (st2,q)=>some (st2,an p q)|none=>none) else none
 |none=>none
theorem R_draw0 {c:Code} (id:Nat) (ops:Array Oper) (dirs:List (Nat×Dir)) (fin:List Fin) (bm:List Nat) (nid:Nat) (want:St) {st':St} {q:Option Prop} (hq:oP q) (hc:c= .region id ops true) (h1:drawF K ops dirs fin bm st nid=some (st',q)) (hs:Sub want st') (hk:Q .normal want):H K st c Q:=by
 subst hc;unfold drawF at h1;split at h1
 ·rename_i es p hr;cases hb:LQ K.nt ops&&(qEb ops bm&&(MY ops bm 0 es&&(es.all (λe=>nvOk e.nv e.ob&&GY K.m e.nv)&&es.all (λe=>st.freeB e.nv)))) with
  |false=>rw[hb] at h1;cases h1
  |true=>
   rw[hb] at h1;simp only[cond_true] at h1;simp only[Bool.and_eq_true (a:=LQ K.nt ops),Bool.and_eq_true (a:=qEb ops bm),Bool.and_eq_true (a:=MY ops bm 0 es),Bool.and_eq_true (a:=es.all (λe=>nvOk e.nv e.ob&&GY K.m e.nv))] at hb;obtain⟨b1,b2,b3,b4,b5⟩:=hb;split at h1
   ·rename_i st2 q2 hf;cases h1;obtain⟨p1,p2⟩:=QR hq;obtain⟨i1,i2⟩:=IM hr p1;have hH:H K st (.region id ops true) (λe st'=>match e with| .normal=>st'=qBN ops 0 st es|_=>False):=H_draw es bm b1 (by rw[i1];simp) b2 b3 b4 b5 i2 rfl;intro M a w hsim;refine wpIn_mono (hH M a w hsim) ?_;rintro e a' w' ⟨M',st3,hq3,hs3⟩;cases e with
    |normal=>
     obtain rfl:st3=qBN ops 0 st es:=hq3;obtain⟨M4,hs4⟩:=NJ hf p2 hs3;exact⟨_,want,hk,hs4.sub hs⟩
    |_=>exact hq3.elim
   ·cases h1
 ·cases h1
def qGu (K:Ctx) (ops:Array Oper) (pre:List Fin) (dirs:List (Nat×Dir)) (fin:List Fin) (bm:List Nat) (st:St) (nid:Nat):Option (St×Option Prop):=
 match LH K pre st with
 |some (st0,p)=>(match drawF K ops dirs fin bm st0 nid with|some (st2,q)=>some (st2,an p q)|none=>none)
 |none=>none
theorem R_dr (fn:Func) (nn id:Nat) (pre:List Fin) (dirs:List (Nat×Dir)) (fin:List Fin) (bm:List Nat) (nid:Nat) (want:St) {q:Option Prop} (hq:oP q) (hc:nd fn nn= .region id (rg fn nn) true) (h:seen want (qGu K (rg fn nn) pre dirs fin bm st nid)=wish want q) (hk:Q .normal want):H K st (nd fn nn) Q:=by
 rw[hc];generalize rg fn nn=ops at h;obtain⟨st',h1,hs⟩:=qEm h;unfold qGu at h1;split at h1
 ·rename_i st0 p0 h0;split at h1
  ·rename_i st2 q2 h2;cases h1;obtain⟨p1,p2⟩:=QR hq;intro M a w hsim;obtain⟨M0,hs0⟩:=NJ h0 p1 hsim;exact R_draw0 id ops dirs fin bm nid want p2 rfl h2 hs hk M0 a w hs0
  ·cases h1
 ·cases h1
end
end Go.SL

namespace Go.SL
open Go.RowKit Go.ChangeShapes Go.WideShapes
def Rc (w:World) (xs:List C) (cs:List Value):Prop:=cs.length=xs.length/\∀j,j<xs.length->IRep w (λ_=>True) (xs.getD j .unk) (cs.getD j undef)
theorem Rc.append {w:World} {xs ys:List C} {cs ds:List Value} (h:Rc w xs cs) (k:Rc w ys ds):Rc w (xs++ys) (cs++ds):=by
 refine⟨by simp[h.1,k.1],λj hj=>?_⟩;rw[List.length_append] at hj;by_cases hx:j<xs.length
 ·have:=h.2 j hx;simpa[List.getD_eq_getElem?_getD,List.getElem?_append_left hx,List.getElem?_append_left (show j<cs.length by rw[h.1];exact hx)] using this
 ·have:=k.2 (j-xs.length) (by omega);simpa[List.getD_eq_getElem?_getD,List.getElem?_append_right (show xs.length<=j by omega),List.getElem?_append_right (show cs.length<=j by rw[h.1];omega),h.1] using this
theorem Rc.one {w:World} {c:C} {v:Value} (h:IRep w (λ_=>True) c v):Rc w [c] [v]:=by
 refine⟨rfl,λj hj=>?_⟩;obtain rfl:j=0:=by simpa using hj
 exact h
structure ZJ (P:Program) (t:TypeId) {T:Type} (e:T->List C) (wf:T->Prop) (D:∀H:Type,DataW H->T->Prop):Prop where
 sz:∀r,(e r).length=P.cellsOf t
 rd:∀(H:Type) (enc:TypeId×Value->H) (w:World) (held:Bool) (fuel:Nat) (cs:List Value) (x:DataW H×List MemPlace),DataW.trod enc P w 0 (λ_=>true) held fuel t cs=some x->∃r,wf r/\Rc w (e r) cs/\D H x.1 r
def TF (n:Int):Prop:= -9223372036854775808<=n/\n<=9223372036854775807
def PM (H:Type) (d:DataW H) (n:Int):Prop:=d= .lit (.int .i64 n)
def D_sl {T:Type} (D:∀H:Type,DataW H->T->Prop) (H:Type) (d:DataW H) (r:List T):Prop:=(d= .nil/\r=[])\/∃ds sp,d= .slice ds sp/\ds.length=r.length/\∀(i:Nat) (d:DataW H) (x:T),ds[i]? =some d->r[i]? =some x->D H d x
theorem qRA {P:Program} {t:TypeId} (ht:P.underlying t=some (.int .i64)) (hc:P.cellsOf t=1):ZJ P t e_i64 TF PM:=by
 refine⟨λ_=>hc.symm,λH enc w held fuel cs x h=>?_⟩;obtain⟨n,rfl,rfl,hw⟩:=DataW.trod_int ht h;refine⟨n,?_,Rc.one (.val _ rfl),rfl⟩;simp only[Lit.wf,Bool.and_eq_true,decide_eq_true_eq] at hw;exact hw
theorem qRv {P:Program} {t:TypeId} {T S:Type} {e:T->List C} {wf:T->Prop} {D:∀H:Type,DataW H->T->Prop} (h:ZJ P t e wf D) (g:T->S) {e':S->List C} {wf':S->Prop} {D':∀H:Type,DataW H->S->Prop}
  (he:∀r,e' (g r)=e r) (hsz:∀s,(e' s).length=P.cellsOf t) (hw:∀r,wf r->wf' (g r)) (hd:∀H d r,D H d r->D' H d (g r)):ZJ P t e' wf' D':=by
 refine⟨hsz,λH enc w held fuel cs x hx=>?_⟩;obtain⟨r,h1,h2,h3⟩:=h.rd _ _ _ _ _ _ _ hx;exact⟨g r,hw r h1,by rw[he];exact h2,hd _ _ _ h3⟩
theorem qNR {w:World} {a:Addr} {n:Nat} {cs:List Value} (h:w.cells? 0 a n=some cs):cs.length=n/\∀j,j<n->w.cell? (a.add j)=cs[j]? :=by
 obtain⟨_,h1,h2⟩:=World.cells?_some h;exact⟨h1,h2⟩
theorem qN0 (b o j:Nat):(⟨b,o,none⟩:Addr).add j=⟨b,o+j,none⟩:=add_plain ..
theorem IQ {P:Program} {t e:TypeId} {T:Type} [Inhabited T] {eT:T->List C} {wf:T->Prop} {D:∀H:Type,DataW H->T->Prop} (ht:P.underlying t=some (.slice e)) (hc:P.cellsOf t=1) (hpos:0<P.cellsOf e) (h:ZJ P e eT wf D):
  ZJ P t (λl:List T=>[tl eT default l]) (λl=>l.length<=maxLen/\∀x∈l,wf x) (D_sl D):=by
 refine⟨λ_=>hc.symm,λH enc w held fuel cs x hx=>?_⟩;rcases Deep.open_slice ht hx with⟨rfl,rfl⟩|⟨a,len,cap,m,n,DD,Pl,rfl,_,hl,hm,hmm,rfl,hel⟩
 ·exact⟨[],⟨Nat.zero_le _,λ_ hx=>by cases hx⟩,Rc.one (.lst0 _ _),Or.inl ⟨rfl,rfl⟩⟩
 ·have hmm':m=cap:=by simpa using hmm
  subst hmm';have hex:∀i,i<m->∃y:T×List Value,w.cells? 0 (a.add (i*P.cellsOf e)) (P.cellsOf e)=some y.2/\wf y.1/\Rc w (eT y.1) y.2/\D H (DD i) y.1:=λi hi=>by
   obtain⟨cs',h1,h2⟩:=hel i hi;obtain⟨r,h3,h4,h5⟩:=h.rd _ _ _ _ _ _ _ h2;exact⟨(r,cs'),h1,h3,h4,h5⟩
  obtain⟨f,hf⟩:=Deep.choose_lt hex;by_cases hm0:m=0
  ·subst hm0;obtain rfl:len=0:=by omega
   exact⟨[],⟨Nat.zero_le _,λ_ hx=>by cases hx⟩,Rc.one (.lst0 _ _),Or.inr ⟨[],_,rfl,rfl,λi d x hi=>by simp at hi⟩⟩
  ·have hsp:a.spot=none:=by
    have h0:=(qNR (hf 0 (by omega)).1)
    have h1:=h0.2 0 hpos;obtain⟨v,hv⟩:∃v,(f 0).2[0]? =some v:=⟨(f 0).2[0]'(by rw[h0.1];exact hpos),List.getElem?_eq_getElem _⟩
    rw[hv] at h1;simpa[Addr.add] using World.cell?_spot h1
   obtain⟨b,o,sp⟩:=a;simp only at hsp;subst hsp;refine⟨(List.range len).map λi=>(f i).1,⟨by simpa using Nat.le_trans hl hm,λx hx=>?_⟩,Rc.one ?_,Or.inr ⟨_,_,rfl,by simp,λi d x hi hx=>?_⟩⟩
   ·obtain⟨i,hi,rfl⟩:=List.mem_map.1 hx;exact(hf i (by have:=List.mem_range.1 hi;omega)).2.1
   ·have key:∀i,i<len->rowf eT default ((List.range len).map λi=>(f i).1) i=eT (f i).1:=λi hi=>by
     simp[rowf,List.getD_eq_getElem?_getD,hi]
    have hlen:((List.range len).map λi=>(f i).1).length=len:=by simp
    unfold tl;rw[hlen];refine .lst b o len m (P.cellsOf e) _ (λi j=>(f i).2.getD j undef) hl hm (λi hi=>?_) (λ_ _ _ _=>trivial) (λi j hi hj=>?_) (λi j hi hj=>?_)
    ·rw[key i hi];exact h.sz _
    ·have h1:=qNR (hf i (by omega)).1;have h2:=h1.2 j hj;rw[qN0,qN0,Nat.add_assoc] at h2;rw[h2,List.getD_eq_getElem?_getD,List.getElem?_eq_getElem (by rw[h1.1];exact hj)];rfl
    ·rw[key i hi];exact(hf i (by omega)).2.2.1.2 j (by rw[h.sz];exact hj)
   ·simp only[List.getElem?_map,Option.map_eq_some_iff] at hi hx;obtain⟨k,hk,rfl⟩:=hi;obtain⟨k',hk',rfl⟩:=hx;obtain rfl:k=k':=Option.some.inj (hk.symm.trans hk');have:=List.mem_range.1 (List.mem_of_getElem? hk);exact(hf k (by omega)).2.2.2
theorem v1_one {w:World} {c:C} {v:Value} (h:IRep w (λ_=>True) c v):qR w (Mem.of λ_=>True) (.one c) v:=by
 have h2:IRep w (Mem.of λ_=>True).imm c v:=h.move (λ_ _ _=>rfl) λb _ _=>⟨trivial,fun⟨_,_,hv,_⟩=>by cases hv⟩
 cases h<;>exact h2
end Go.SL

namespace Go.SL
open Go.RowKit Go.ChangeShapes Go.WideShapes
theorem qEX {H:Type} {enc:TypeId×Value->H} {P:Program} (hl:laidOutB P=true) {W W':World} {sp':Nat->Bool} (hb:Below W.heap.size W W'):
  ∀{ts:List TypeId} {vs:List Value} {ds:List (DataW H)} {ps:List MemPlace},(ts.all λt=>P.readableRec t&&decide (t<P.types.size))=true->DataW.TrodAll enc P W 0 (λ_=>true) true ts vs ds ps->
   (∀p∈ps,p.block<W.heap.size)->(∀p∈ps,sp' p.block=true)->DataW.TrodAll enc P W' 0 sp' true ts vs ds ps
 |[],_,_,_,_,h,_,_=>by
  obtain⟨rfl,rfl,rfl⟩:=trodAll_nil h;exact trodAll_mk0
 |t::ts,_,_,_,hr,h,hlt,hsp=>by
  obtain⟨v,vs1,d,ds1,a,b,rfl,rfl,rfl,h1,h2⟩:=trodAll_cons h;simp only[List.all_cons,Bool.and_eq_true,decide_eq_true_eq] at hr;refine⟨a,b,WideElems.Trod_stays hl hr.1.1 hr.1.2 h1 (λx hx=>hb.same (hlt x (List.mem_append_left _ hx))) (λx hx=>hsp x (List.mem_append_left _ hx)),?_,rfl⟩;exact qEX hl hb hr.2 h2 (λx hx=>hlt x (List.mem_append_right _ hx)) (λx hx=>hsp x (List.mem_append_right _ hx))
theorem qRb {H:Type} {enc:TypeId×Value->H} {P:Program} {f:Func} {s:ChangeSpec} {tb:TypeId} {apart fresh handsOn again:Bool} {W W':World} {args:Array Value} {ds gs:List (DataW H)} {before:List MemPlace}
  (hl:laidOutB P=true) (hpar:(f.params.toList.all λt=>P.readableRec t&&decide (t<P.types.size))=true) (hrt:f.resultTypes= #[tb]) (htb:P.underlying tb=some .bool) (hv:s.vars=[])
  (hfn:s.fn H ds={results:=[.lit (.bool true)],args:=ds})
  (hW:DataW.Whole enc P f.params.toList s.vars apart W args.toList ds gs before) (hb:Below W.heap.size W W'):s.post enc P f apart fresh handsOn again W args (.bool true) W':=by
 have hW0:=hW;have hold:∀p∈before,p.block<W.heap.size:=λp hp=>hW.lt p hp;obtain⟨p,q,hA,hV,hpq,hz,hn⟩:=hW;rw[hv] at hV;obtain⟨rfl,rfl⟩:=trodVars_none hV;rw[List.append_nil] at hpq;subst hpq;have hargs:∀sp:Nat->Bool,(∀p∈before,sp p.block=true)->DataW.TrodAll enc P W' 0 sp true f.params.toList args.toList (s.fn H (ds++[])).args before:=λsp hsp=>by
  rw[List.append_nil,hfn];exact qEX hl hb hpar hA hold hsp
 have hres:∀(b:Nat) (sp:Nat->Bool) (hd:Bool),DataW.TrodAll enc P W' b sp hd f.resultTypes.toList ((Value.bool true).resultList f.resultTypes.size) (s.fn H (ds++[])).results []:=λb sp hd=>by
  rw[List.append_nil,hfn,hrt];exact trodAll_cons_mk (shut_bool htb _) trodAll_mk0
 have hvars:∀sp:Nat->Bool,DataW.TrodVars enc P W' sp s.vars (s.fn H (ds++[])).vars []:=λsp=>by
  rw[List.append_nil,hfn,hv];rfl
 refine⟨ds,[],before,[],before,[],hW0,hres _ _ _,hargs _ (λp hp=>by simpa using hold p hp),hvars _,World.keptBut_mono (λp hp=>⟨hp,Or.inr (.inl hp)⟩) (hb.frame (·∈before)),λ_=>?_⟩;refine⟨?_,_,_,([]++before)++[],⟨[]++before,[],trodAll_append (hargs _ (λ_ _=>rfl)) (hres _ _ _),hvars _,rfl,?_,?_⟩,?_⟩
 ·intro j t r hj hr;rw[hrt] at hj hr
  match j,hj,hr with
  |0,hj,hr=>
   simp[Value.resultList] at hj hr;subst hj;subst hr;exact okWide_bool_mk htb _
 ·intro b off hp;have hp':MemPlace.cell b off∈before:=by simpa using hp
  rw[hb.frozen (p:=⟨b,off,none⟩) (hold _ hp')];exact hz b off hp'
 ·intro ha;simpa using hn ha
 ·intro p hp _;simpa using hp
abbrev Ct (P:Program) (gl:List (Nat×C)) (f:FuncId) (xs:List V1) (x:V) (ob:List (Nat×(Nat×O))):Prop:=CtX P gl f 0 0 xs [] x ob
abbrev qO0 (w:World) (A:Nat->Prop) (xs:List V1) (vs:Array Value):Prop:=qIr w (Mem.of A) xs vs
theorem CtX.top {P:Program} {gl:List (Nat×C)} {f:FuncId} {xs:List V1} {x:V} {ob:List (Nat×(Nat×O))} (h:CtX P gl f 0 0 xs [] x ob) (w:World) (A:Nat->Prop) (vs:Array Value) (hg:qEF gl w A) (ha:qO0 w A xs vs):
  Calls P f vs w λe w'=>∃v,e= .returned v/\Below w.heap.size w w'/\∃M',qIL w w' (Mem.of A) M' 0 x ob v:=
 (h w (Mem.of A) vs hg ⟨λi j k l b hi=>(by cases hi),λi k b hi=>(by cases hi),λi hi=>absurd rfl hi,λi k o ho=>(by cases ho)⟩ ha).mono λe w' ⟨v,M',he,hb,_,hr⟩=>
  ⟨v,he,hb.below λb ⟨i,k,hv,_⟩=>(by cases hv),M',hr⟩
theorem qRX {w w':World} {A:Nat->Prop} {v:Value} (h:∃M',qIL w w' (Mem.of A) M' 0 (.v (.one (.val (.bool true)))) [] v):v= .bool true:=by
 obtain⟨M,hr⟩:=h;exact IRep.val_eq hr.val
theorem qSu {w:World} {A:Nat->Prop} {x0 x1:V1} {v0 v1:Value} (h0:qR w (Mem.of A) x0 v0) (h1:qR w (Mem.of A) x1 v1):qO0 w A [x0,x1] #[v0,v1]:=⟨rfl,λj hj=>by
 match j,hj with
 |0,_=>exact h0
 |1,_=>exact h1⟩
theorem qEW {P:Program} {t e:TypeId} {T:Type} [Inhabited T] {eT:T->List C} {wf:List T->Prop} {D:∀H:Type,DataW H->List T->Prop} (hr:ZJ P t (λl:List T=>[tl eT default l]) wf D) (ht:P.underlying t=some (.slice e)) {H:Type} {enc:TypeId×Value->H} {w:World} {r:Reach} {b0:Nat} {v:Value} {d:DataW H} {ps:List MemPlace}
  (hval:Value.okWide P w r b0 t v) (hd:DataW.Trod enc P w 0 (λ_=>true) true t v d ps):∃x:List T,wf x/\D H d x/\qR w (Mem.of λ_=>True) (.one (tl eT default x)) v:=by
 obtain⟨a,n,c,rfl⟩:=okWide_slice ht hval;obtain⟨fuel,hf⟩:=hd;obtain⟨x,h1,h2,h3⟩:=hr.rd _ _ _ _ _ _ _ hf;exact⟨x,h1,h3,v1_one (by simpa[Value.cells] using h2.2 0 (by simp))⟩
theorem qQN {P:Program} {w:World} {n:String} {d:DataW Unit} {rest:List (String×DataW Unit)} {ps:List MemPlace} (h:DataW.LaidVars P w ((n,d)::rest) ps) {g t:Nat} (hg:P.globalNamed n=some g) (ht:(P.globals[g]?).map (·.type)=some t):
  ∃(cs:Array Value) (e:TypeId) (fz:Nat×Nat) (fuel:Nat) (p:List MemPlace),w.heap[g]? =some (.cells cs e fz)/\DataW.trod (λ_=>()) P w 0 (λ_=>true) false fuel t cs.toList=some (d,p)/\∃q,DataW.LaidVars P w rest q:=by
 obtain⟨g',t',cs,fuel,p,q,hg',ht',hvar,hd,hr,_⟩:=h;obtain rfl:=Option.some.inj (hg.symm.trans hg');obtain rfl:=Option.some.inj (ht.symm.trans ht');unfold World.var? at hvar;rw[hg] at hvar;simp only[Option.bind_some] at hvar;split at hvar
 ·rename_i cs' e fz hh;cases hvar;exact⟨cs,e,fz,fuel,p,hh,hd,q,hr⟩
 ·cases hvar
end Go.SL

namespace Go.SL
open Go.RowKit
def qQX (id:Nat) (x:V) (ob:List (Nat×(Nat×O))):Option (V×List (Nat×(Nat×O))×Option Prop):=
 match look id ob with
 |some (k,.row _ sz n f)=>bif Nat.blt 0 sz then some ((phV (frzC id k sz n f) x).1,(phB (frzC id k sz n f) id ob).1,an (phV (frzC id k sz n f) x).2 (phB (frzC id k sz n f) id ob).2) else none
 |_=>none
theorem CtX.frz {P:Program} {gl:List (Nat×C)} {f n m:Nat} {xs:List V1} {oi:List (Nat×(Nat×O))} {x x':V} {ob ob':List (Nat×(Nat×O))} (h:CtX P gl f n m xs oi x ob) (id:Nat) {q:Option Prop} (hq:oP q) (hf:(Nat.ble n id&&Nat.ble m id,qQX id x ob)=(true,some (x',ob',q))):CtX P gl f n m xs oi x' ob':=by
 simp only[Prod.mk.injEq,Bool.and_eq_true,Nat.ble_eq] at hf;obtain⟨⟨hn,hm⟩,hf⟩:=hf;intro w M vs hg hin ha;refine(h w M vs hg hin ha).mono ?_;rintro e w' ⟨v,R,he,hb,hsh,hr⟩;unfold qQX at hf;split at hf
 ·rename_i k e' sz nn ff hl;cases hp:Nat.blt 0 sz with
  |false=>rw[hp] at hf;cases hf
  |true=>
   rw[hp] at hf;cases hf;obtain⟨q1,q2⟩:=QR hq;have hpos:0<sz:=by simpa[Nat.blt_eq] using hp
   have hor:=hr.objs id k _ hl;have hver:=hor.ver;have hown:∀b,R.blk id=some b->(R.drop id).imm b:=λb hbk=>by
    refine⟨?_,fun⟨i,k',hv,hbi⟩=>?_⟩
    ·refine(hr.area b).2 (.inr ?_);rcases(hr.rng id k b hver hbk).1 with h1|⟨⟨k',h1⟩,h2⟩
     ·exact h1
     ·have:=(hin.rng id k' b h1 h2).1;omega
    ·obtain⟨h1,h2⟩:=wN hv;exact h1 (hr.inj i id k' k b h2 hver hbi hbk)
   have hφ:=qMF hor hpos hown;refine⟨v,R.drop id,he,hb,hsh,⟨λi hi=>?_,λi j k l b hi hj hbi hbj=>hr.inj i j k l b (wN hi).2 (wN hj).2 hbi hbj,λi k b hv hbk=>hr.rng i k b (wN hv).2 hbk,λi k k' him hk hv=>hr.fix i k k' him hk (wN hv).2,hr.area,qPf hφ q1 hr.val,λi k' o ho=>?_⟩⟩
   ·obtain⟨k',hk'⟩:=Option.ne_none_iff_exists'.1 hi;obtain⟨h1,h2⟩:=wN hk';exact phB_hits (hr.only i (by rw[h2];simp)) h1
   ·obtain⟨hne,o',h1,h2,rfl⟩:=qEl q2 ho;have hor':=hr.objs i k' o' h1;have hv:(R.drop id).ver i=some k':=by simp only[Mem.drop,hne,if_false];exact hor'.ver
    cases o' with
    |box e cs=>obtain⟨_,b,arr,e1,e2,e3⟩:=hor';exact⟨hv,b,arr,e1,e2,qEA hφ h2 e3⟩
    |row e sz n f=>
     refine⟨hv,?_⟩;rcases hor'.2 with h0|⟨b,arr,e1,e2,e3,e4⟩
     ·exact .inl h0
     ·exact .inr ⟨b,arr,e1,e2,e3,λi hi=>⟨(e4 i hi).1,λj hj=>YF ((e4 i hi).2 j hj)⟩⟩
    |lp R b s j=>exact⟨hv,hor'.2.1,hor'.2.2⟩
 ·cases hf
theorem eq_nil {P:Program} {w:World} {t e:TypeId} (ht:P.underlying t=some (.slice e)) (d:Nat) (a:Option Addr) (n c:Nat):(Op.equalIn (d+1) t (.slice a n c) (.slice none 0 0)).run P w= .ok a.isNone w:=by
 cases a<;>simp[Op.equalIn,run_underlying ht]
theorem qO2 {P:Program} {w:World} {t e:TypeId} (ht:P.underlying t=some (.slice e)) (a:Option Addr) (n c:Nat) (x y:Operand):
  (do eqGuard .eql t x y (.slice a n c) (.slice none 0 0);binOp .eql t (.slice a n c) (.slice none 0 0):Sem Value).run P w= .ok (.bool a.isNone) w:=by
 have he:(Op.equal t (.slice a n c) (.slice none 0 0)).run P w= .ok a.isNone w:=eq_nil ht 9999 a n c;have hg:(eqGuard .eql t x y (.slice a n c) (.slice none 0 0)).run P w= .ok () w:=rfl;rw[Sem.run_bind,hg];show((do pure (.bool (<-Op.equal t (.slice a n c) (.slice none 0 0)))):Sem Value).run P w=_;rw[Sem.run_bind,he];rfl
theorem R_nil {K:Ctx} {st:St} {Q:Exit->St->Prop} (fn:Func) (nn id c:Nat) (want:St) (t t' e d:Nat) (x:Operand) (n:Nat) (f:Nat->List C) (hc:nd fn nn= .region id (rg fn nn) false)
  (h:(LQ K.nt (rg fn nn),(rg fn nn).size,seen want (runO K (rg fn nn) [] c 0 st 0))=(true,c+1,wish want none))
  (hg:(gd (rg fn nn) want (opAt (rg fn nn) c),(opAt (rg fn nn) c).dst,(opAt (rg fn nn) c).op,op1 K.globs want x,K.P.underlying t)=(some true,some d,.binOp .eql t x (.const (.slice none 0 0)) t',some (.one (.lst n f)),some (.slice e)))
  (hk:∀b:Bool,(b=true->n=0)->Q .normal (want.app (some d) (qMk b) [])):H K st (nd fn nn) Q:=by
 rw[hc];generalize rg fn nn=ops at h hg;simp only[Prod.mk.injEq] at h hg;obtain⟨hok,hsz,hs⟩:=h;obtain⟨st',h1,hsub⟩:=qEm hs;obtain⟨g1,g2,g3,g4,g5⟩:=hg;refine qNg (SG hok h1 trivial (by omega) ?_);intro M a w hsim;have hs1:=hsim.sub hsub;have hi':c<ops.size:=by omega
 have hv:IRep w (M.keep want.objs).imm (.lst n f) (a.eval x):=op1_rep hs1.1 g4;have key:∃b:Bool,(b=true->n=0)/\(execOp a.eval (opAt ops c)).run K.P w= .ok (.value (.bool b)) w:=by
  have hgen:∀u,IRep w (M.keep want.objs).imm (.lst n f) u->∃b:Bool,(b=true->n=0)/\(do eqGuard .eql t x (.const (.slice none 0 0)) u (.slice none 0 0);binOp .eql t u (.slice none 0 0):Sem Value).run K.P w= .ok (.bool b) w:=by
   intro u hu;cases hu with
   |lst0 b=>exact⟨b.isNone,λ_=>rfl,qO2 g5 b 0 0 _ _⟩
   |lst b o n cap sz f g hn hm hl hb hc hr=>exact⟨false,λhb=>(by cases hb),qO2 g5 (some ⟨b,o,none⟩) n cap _ _⟩
  obtain⟨b,hb,hr⟩:=hgen _ hv;refine⟨b,hb,?_⟩;unfold execOp;rw[g3];exact ZH hr
 obtain⟨b,hb,hrun⟩:=key;rw[Nat.zero_add,qC8 hi'];simp only[wpOpsIn,XY hi',qEi hs1.1 g1 (zbQ hok hi') (KU hok),if_true];refine Oper.wpIn_of_wp (by rw[g3];rfl) ?_;unfold Oper.wp;rw[hrun];have hst:=hs1.step (dst:=(opAt ops c).dst) (nv:=[]) (ob:=[]) (x:=qMk b) (v:= .bool b) (Ext.same hs1.1 rfl rfl rfl rfl) (QF _ rfl) (λi k o h=>by cases h) (λi hi=> .inl hi) rfl (qDV want) rfl (KU hok c);rw[show ops.size-(c+1)=0 by omega];rw[g2] at hst;refine⟨M.keep want.objs,want.app (some d) (qMk b) [],hk b hb,?_⟩;rw[g2];exact hst
theorem of_beq {a b:Nat} (h:(a==b)=true):a=b:=eq_of_beq h
def insB {α:Type} (le:α->α->Bool) (x:α):List α->List α
 |[]=>[x]
 |y::r=>bif le x y then x::y::r else y::insB le x r
def PQ {α:Type} (le:α->α->Bool):List α->List α
 |[]=>[]
 |x::r=>insB le x (PQ le r)
theorem insB_perm {α:Type} (le:α->α->Bool) (x:α):∀l,(insB le x l).Perm (x::l)
 |[]=>List.Perm.refl _
 |y::r=>by
  unfold insB;cases le x y with
  |true=>exact List.Perm.refl _
  |false=>exact((insB_perm le x r).cons y).trans (List.Perm.swap x y r)
theorem NG {α:Type} (le:α->α->Bool):∀l,(PQ le l).Perm l
 |[]=>List.Perm.refl _
 |x::r=>(insB_perm le x _).trans ((NG le r).cons x)
theorem qHk {α:Type} {le:α->α->Bool} (ht:∀x y z,le x y=true->le y z=true->le x z=true) (htot:∀x y,le x y=true\/le y x=true) (x:α):∀l,l.Pairwise (λa b=>le a b=true)->(insB le x l).Pairwise (λa b=>le a b=true)
 |[],_=>List.pairwise_singleton _ _
 |y::r,h=>by
  obtain⟨h1,h2⟩:=List.pairwise_cons.1 h;unfold insB;cases hxy:le x y with
  |true=>
   refine List.pairwise_cons.2 ⟨λz hz=>?_,h⟩;rcases List.mem_cons.1 hz with rfl|hz
   ·exact hxy
   ·exact ht _ _ _ hxy (h1 z hz)
  |false=>
   refine List.pairwise_cons.2 ⟨λz hz=>?_,qHk ht htot x r h2⟩;rcases List.mem_cons.1 ((insB_perm le x r).mem_iff.1 hz) with rfl|hz
   ·exact(htot z y).resolve_left (by simp[hxy])
   ·exact h1 z hz
theorem qBC {α:Type} {le:α->α->Bool} (ht:∀x y z,le x y=true->le y z=true->le x z=true) (htot:∀x y,le x y=true\/le y x=true):∀l,(PQ le l).Pairwise (λa b=>le a b=true)
 |[]=>List.Pairwise.nil
 |x::r=>qHk ht htot x _ (qBC ht htot r)
def vi (n:Int):V:= .v (.one (.val (.int .i64 n)))
def vb (b:Bool):V:= .v (.one (.val (.bool b)))
def vp (id j:Nat):V:= .v (.one (.bptr id 0 j))
def vo (id k sz n:Nat):V:= .v (.one (.own id k sz n))
def vc (c:C):V:= .v (.one c)
def va (cs:List C):V:= .v (.agg cs)
def ci (n:Int):C:= .val (.int .i64 n)
def cb (b:Bool):C:= .val (.bool b)
def cs (s:ByteArray):C:= .val (.string s)
def rf {α:Type} [Inhabited α] (e:α->List C) (l:List α):Nat->List C:=rowf e default l
def bx (e:Nat) (cs:List C):Nat×O:=(0,.box e cs)
def ro (k e sz n:Nat) (f:Nat->List C):Nat×O:=(k,.row e sz n f)
def dfx (b:Bool):Dir:=⟨[],some b,none,none⟩
def drw (id k:Nat) (f:Nat->List C):Dir:=⟨[],none,none,some (id,k,f)⟩
def dex (e:Ent):Dir:=⟨[],none,some e,none⟩
def dpr (p:List Fin) (d:Dir):Dir:={d with pre:=p}
def cen (ren:List (Nat×Nat)) (outs:List Nat) (c m:Nat) (x:V) (ob:List (Nat×(Nat×O))) (rs ro:List Nat):Ent:=⟨true,x.out ⟨ren,outs,c⟩,qCs ⟨ren,outs,c⟩ m ob,NL ⟨ren,outs,c⟩ ob,rs,ro⟩
theorem wJ {K:Ctx} (st:St) (op:Oper) (ren:List (Nat×Nat)) (outs:List Nat) (c:Nat) {f:FuncId} {m:Nat} {xs' xs:List V1} {p:Option Prop} {b:Bool} {oi:List (Nat×(Nat×O))} {x:V} {ob:List (Nat×(Nat×O))} (hp:oP p) (hxs:xs'=xs) (hct:CtX K.P K.globs f ren.length m xs oi x ob) (hb:b=true\/(x.noLst=true/\jU ob))
  (hin:(qDK K.globs st ren op.op,fnOk K.P f,Out.ok ⟨ren,outs,c⟩ m ob&&(x.closed ob&&ob.all (λq=>q.2.2.closed ob)))=(some (f,xs',p,b,oi),true,true)):
  Step K st op (qCs ⟨ren,outs,c⟩ m ob) (NL ⟨ren,outs,c⟩ ob) (x.out ⟨ren,outs,c⟩):=by
 simp only[Prod.mk.injEq] at hin;exact qPO hin.1 hp hxs hct hin.2.1 hin.2.2 hb
end Go.SL

namespace Go.SL
open Go.RowKit
def cLe :C->C->Prop
 | .emp,.lst n _=>n=0
 |c,d=>c=d
def csLe :List C->List C->Prop
 |[],[]=>True
 |c::r,d::s=>cLe c d/\csLe r s
 |_,_=>False
def v1Le :V1->V1->Prop
 | .one c,.one d=>cLe c d
 | .agg cs,.agg ds=>csLe cs ds
 |_,_=>False
def vsLe :List V1->List V1->Prop
 |[],[]=>True
 |c::r,d::s=>v1Le c d/\vsLe r s
 |_,_=>False
theorem qPH {w:World} {M:Mem} {c d:C} {v:Value} (h:cLe c d) (hr:CRep w M c v):CRep w M d v:=by
 unfold cLe at h;split at h
 ·subst h;cases hr with
  |emp a=>exact IRep.lst0 a _
 ·subst h;exact hr
theorem qNV :∀{cs ds:List C},csLe cs ds->cs.length=ds.length
 |[],[],_=>rfl
 |_::r,_::s,h=>by simp[qNV h.2]
 |[],_::_,h=>h.elim
 |_::_,[],h=>h.elim
theorem qNW :∀{cs ds:List C},csLe cs ds->∀j,j<cs.length->cLe (cs.getD j .unk) (ds.getD j .unk)
 |_::r,_::s,h,0,_=>h.1
 |_::r,_::s,h,j+1,hj=>by
  have:=qNW h.2 j (by simpa using hj);simpa using this
 |[],[],_,j,hj=>by simp at hj
 |[],_::_,h,_,_=>h.elim
 |_::_,[],h,_,_=>h.elim
theorem qSn {w:World} {M:Mem} {c d:V1} {v:Value} (h:v1Le c d) (hr:qR w M c v):qR w M d v:=by
 cases c with
 |one c=>cases d with
  |one d=>exact qPH h hr
  |agg ds=>exact h.elim
 |agg cs=>cases d with
  |one d=>exact h.elim
  |agg ds=>
   obtain⟨vs,hv,hl,hh⟩:=hr;have e:=qNV h;exact⟨vs,hv,by omega,λj hj=>qPH (qNW h j (by omega)) (hh j (by omega))⟩
theorem qMQ :∀{cs ds:List V1},vsLe cs ds->cs.length=ds.length
 |[],[],_=>rfl
 |_::r,_::s,h=>by simp[qMQ h.2]
 |[],_::_,h=>h.elim
 |_::_,[],h=>h.elim
theorem qMP :∀{cs ds:List V1},vsLe cs ds->∀j,j<cs.length->v1Le (cs.getD j (.one .unk)) (ds.getD j (.one .unk))
 |_::r,_::s,h,0,_=>h.1
 |_::r,_::s,h,j+1,hj=>by
  have:=qMP h.2 j (by simpa using hj);simpa using this
 |[],[],_,j,hj=>by simp at hj
 |[],_::_,h,_,_=>h.elim
 |_::_,[],h,_,_=>h.elim
theorem CtX.emp {P:Program} {gl:List (Nat×C)} {f n m:Nat} {xs' xs:List V1} {oi:List (Nat×(Nat×O))} {x:V} {ob:List (Nat×(Nat×O))} (h:CtX P gl f n m xs oi x ob) (hl:vsLe xs' xs):CtX P gl f n m xs' oi x ob:=by
 intro w M vs hg hin ha;refine h w M vs hg hin ?_;have e:=qMQ hl;exact⟨by have:=ha.1;omega,λj hj=>qSn (qMP hl j (by omega)) (ha.2 j (by omega))⟩
end Go.SL

namespace Go.SL
open Go.RowKit
def St.up (st:St) (ds:List Nat) (as:List (Nat×V)) (dob:List Nat) (aob:List (Nat×(Nat×O))):St:=
 ⟨as++st.slots.filter (λp=>!(ds.any (Nat.beq p.1))),aob++st.objs.filter (λp=>!(dob.any (Nat.beq p.1)))⟩
def qMh :Code->Operand
 | .cond o _ _=>o
 |_=> .tmp 0
def IJ :Code->Nat
 | .region id _ _=>id
 |_=>0
structure Ev (K:Ctx) (ops:Array Oper) where
 i:Nat
 d:Dir
 p:Option Prop
 h:oP p
def Ev.ds {K:Ctx} {ops:Array Oper}:List (Ev K ops)->List (Nat×Dir)
 |[]=>[]
 |e::l=>(e.i,e.d)::Ev.ds l
def Ev.ps {K:Ctx} {ops:Array Oper}:List (Ev K ops)->Option Prop
 |[]=>none
 |e::l=>an e.p (Ev.ps l)
theorem an_oP {p q:Option Prop} (h:oP p) (k:oP q):oP (an p q):=by
 cases p with
 |none=>exact k
 |some p=>cases q with
  |none=>exact h
  |some q=>exact⟨h,k⟩
theorem Ev.oP {K:Ctx} {ops:Array Oper}:∀l:List (Ev K ops),oP (Ev.ps l)
 |[]=>trivial
 |e::l=>an_oP e.h (Ev.oP l)
def qc {K:Ctx} {ops:Array Oper} (i:Nat) (rs:List Nat) (c:Nat) {f:FuncId} {m:Nat} {xs:List V1} {x:V} {ob:List (Nat×(Nat×O))} (hct:CtX K.P K.globs f 0 m xs [] x ob)
  (hin:(qDK K.globs ⟨rs.zip (xs.map V.v),[]⟩ [] (opAt ops i).op,fnOk K.P f,Out.ok ⟨[],[],c⟩ m ob&&(x.closed ob&&ob.all (λq=>q.2.2.closed ob)))=(some (f,xs,none,true,[]),true,true):=by kernel_rfl):Ev K ops:=
 ⟨i,dex (cen [] [] c m x ob rs []),some (Step K ⟨rs.zip (xs.map V.v),[]⟩ (opAt ops i) (qCs ⟨[],[],c⟩ m ob) (NL ⟨[],[],c⟩ ob) (x.out ⟨[],[],c⟩)),wJ _ _ [] [] c o0 rfl hct (.inl rfl) hin⟩
def qk {K:Ctx} {ops:Array Oper} (i:Nat) (rs:List Nat) (c:Nat) (st:St) {f:FuncId} {m:Nat} {xs:List V1} {x:V} {ob:List (Nat×(Nat×O))} (hct:CtX K.P K.globs f 0 m xs [] x ob)
  (hin:(qDK K.globs st [] (opAt ops i).op,fnOk K.P f,Out.ok ⟨[],[],c⟩ m ob&&(x.closed ob&&ob.all (λq=>q.2.2.closed ob)))=(some (f,xs,none,true,[]),true,true):=by kernel_rfl):Ev K ops:=
 ⟨i,dex (cen [] [] c m x ob rs []),some (Step K st (opAt ops i) (qCs ⟨[],[],c⟩ m ob) (NL ⟨[],[],c⟩ ob) (x.out ⟨[],[],c⟩)),wJ _ _ [] [] c o0 rfl hct (.inl rfl) hin⟩
def qd {K:Ctx} {ops:Array Oper} (i:Nat) (d:Dir) {p:Prop} (h:p):Ev K ops:=⟨i,d,some p,h⟩
def qf {K:Ctx} {ops:Array Oper} (i:Nat) {x b:Bool} (h:x=b):Ev K ops:=⟨i,dfx b,some (x=b),h⟩
theorem bif_c {α:Type} {c:Bool} {A B:Option α} {r:α} (h:(bif c then A else B)=some r):(c=true/\A=some r)\/(c=false/\B=some r):=by cases c;exact .inr ⟨rfl,h⟩;exact .inl ⟨rfl,h⟩
theorem oi {α:Type} {a b:α} (h:some a=some b):a=b:=Option.some.inj h
section
variable {K :Ctx} {st:St} {Q:Exit->St->Prop} {fn:Func} {n:Nat}
theorem q_sq (h:H K st (nd fn (2*n)) (qEL Q λst'=>H K st' (nd fn (2*n+1)) Q)) (hc:nd fn n= .seq (nd fn (2*n)) (nd fn (2*n+1)):=by kernel_rfl):H K st (nd fn n) Q:=R_sq fn _ _ hc h
theorem q_cn (x:Bool) (ht:x=true->H K st (nd fn (2*n)) Q) (hf:x=false->H K st (nd fn (2*n+1)) Q) (hc:nd fn n= .cond (qMh (nd fn n)) (nd fn (2*n)) (nd fn (2*n+1)):=by kernel_rfl) (ho:opB st (qMh (nd fn n))=some x:=by kernel_rfl):H K st (nd fn n) Q:=R_cn fn _ _ _ hc x ho ht hf
theorem q_bk (id:Nat) (h:H K st (nd fn (2*n)) (qBw id Q)) (hc:nd fn n= .block id (nd fn (2*n)):=by kernel_rfl):H K st (nd fn n) Q:=R_bk fn id _ hc h
theorem q_sk {c:Code} (h:Q .normal st) (hc:c= .skip:=by kernel_rfl):H K st c Q:=qQJ hc h
theorem q_rt {c:Code} (h:Q .ret st) (hc:c= .ret:=by kernel_rfl):H K st c Q:=R_ret hc h
theorem q_ex {c:Code} (id:Nat) (h:Q (.exit id) st) (hc:c= .exit id:=by kernel_rfl):H K st c Q:=R_exit id hc h
theorem q_vn (es:List (Ev K (rg fn n))) (nid:Nat) (want:St) (hk:Q .normal want) (hc:nd fn n= .region (IJ (nd fn n)) (rg fn n) false:=by kernel_rfl) (h:seen want (runF K (rg fn n) (Ev.ds es) [] st nid)=wish want (Ev.ps es):=by kernel_rfl):H K st (nd fn n) Q:=R_rn fn n _ (Ev.ds es) [] nid want (Ev.oP es) hc h hk
theorem q_dn (es:List (Ev K (rg fn n))) (bm:List Nat) (nid:Nat) (want:St) (hk:Q .normal want) (hc:nd fn n= .region (IJ (nd fn n)) (rg fn n) true:=by kernel_rfl) (h:seen want (qGu K (rg fn n) [] (Ev.ds es) [] bm st nid)=wish want (Ev.ps es):=by kernel_rfl):H K st (nd fn n) Q:=R_dr fn n _ [] (Ev.ds es) [] bm nid want (Ev.oP es) hc h hk
theorem q_vu (es:List (Ev K (rg fn n))) (nid:Nat) (ds:List Nat) (as:List (Nat×V)) (dob:List Nat) (aob:List (Nat×(Nat×O))) (hk:Q .normal (st.up ds as dob aob)) (hc:nd fn n= .region (IJ (nd fn n)) (rg fn n) false:=by kernel_rfl) (h:seen (st.up ds as dob aob) (runF K (rg fn n) (Ev.ds es) [] st nid)=wish (st.up ds as dob aob) (Ev.ps es):=by kernel_rfl):H K st (nd fn n) Q:=R_rn fn n _ (Ev.ds es) [] nid _ (Ev.oP es) hc h hk
theorem q_wu (es:List (Ev K (rg fn n))) (fin:List Fin) {fo:Option Prop} (hf:oP fo) (nid:Nat) (ds:List Nat) (as:List (Nat×V)) (dob:List Nat) (aob:List (Nat×(Nat×O))) (hk:Q .normal (st.up ds as dob aob)) (hc:nd fn n= .region (IJ (nd fn n)) (rg fn n) false:=by kernel_rfl) (h:seen (st.up ds as dob aob) (runF K (rg fn n) (Ev.ds es) fin st nid)=wish (st.up ds as dob aob) (an (Ev.ps es) fo):=by kernel_rfl):H K st (nd fn n) Q:=R_rn fn n _ (Ev.ds es) fin nid _ (an_oP (Ev.oP es) hf) hc h hk
theorem q_du (es:List (Ev K (rg fn n))) (bm:List Nat) (nid:Nat) (ds:List Nat) (as:List (Nat×V)) (dob:List Nat) (aob:List (Nat×(Nat×O))) (hk:Q .normal (st.up ds as dob aob)) (hc:nd fn n= .region (IJ (nd fn n)) (rg fn n) true:=by kernel_rfl) (h:seen (st.up ds as dob aob) (qGu K (rg fn n) [] (Ev.ds es) [] bm st nid)=wish (st.up ds as dob aob) (Ev.ps es):=by kernel_rfl):H K st (nd fn n) Q:=R_dr fn n _ [] (Ev.ds es) [] bm nid _ (Ev.oP es) hc h hk
theorem q_cm {ρ:Type} {x:Bool} {A B:Option ρ} {r:ρ} (hm:(bif x then A else B)=some r) (ht:x=true->A=some r->H K st (nd fn (2*n)) Q) (hf:x=false->B=some r->H K st (nd fn (2*n+1)) Q) (hc:nd fn n= .cond (qMh (nd fn n)) (nd fn (2*n)) (nd fn (2*n+1)):=by kernel_rfl) (ho:opB st (qMh (nd fn n))=some x:=by kernel_rfl):H K st (nd fn n) Q:=q_cn x (λh=>ht h (bif_t h hm)) (λh=>hf h (bif_f h hm)) hc ho
theorem s_vn (es:List (Ev K (rg fn (2*n)))) (nid:Nat) (want:St) (hk:H K want (nd fn (2*n+1)) Q) (hs:nd fn n= .seq (nd fn (2*n)) (nd fn (2*n+1)):=by kernel_rfl) (hc:nd fn (2*n)= .region (IJ (nd fn (2*n))) (rg fn (2*n)) false:=by kernel_rfl) (h:seen want (runF K (rg fn (2*n)) (Ev.ds es) [] st nid)=wish want (Ev.ps es):=by kernel_rfl):H K st (nd fn n) Q:=q_sq (q_vn es nid want hk hc h) hs
theorem s_dn (es:List (Ev K (rg fn (2*n)))) (bm:List Nat) (nid:Nat) (want:St) (hk:H K want (nd fn (2*n+1)) Q) (hs:nd fn n= .seq (nd fn (2*n)) (nd fn (2*n+1)):=by kernel_rfl) (hc:nd fn (2*n)= .region (IJ (nd fn (2*n))) (rg fn (2*n)) true:=by kernel_rfl) (h:seen want (qGu K (rg fn (2*n)) [] (Ev.ds es) [] bm st nid)=wish want (Ev.ps es):=by kernel_rfl):H K st (nd fn n) Q:=q_sq (q_dn es bm nid want hk hc h) hs
theorem s_vu (es:List (Ev K (rg fn (2*n)))) (nid:Nat) (ds:List Nat) (as:List (Nat×V)) (dob:List Nat) (aob:List (Nat×(Nat×O))) (hk:H K (st.up ds as dob aob) (nd fn (2*n+1)) Q) (hs:nd fn n= .seq (nd fn (2*n)) (nd fn (2*n+1)):=by kernel_rfl) (hc:nd fn (2*n)= .region (IJ (nd fn (2*n))) (rg fn (2*n)) false:=by kernel_rfl) (h:seen (st.up ds as dob aob) (runF K (rg fn (2*n)) (Ev.ds es) [] st nid)=wish (st.up ds as dob aob) (Ev.ps es):=by kernel_rfl):H K st (nd fn n) Q:=q_sq (q_vu es nid ds as dob aob hk hc h) hs
theorem s_wu (es:List (Ev K (rg fn (2*n)))) (fin:List Fin) {fo:Option Prop} (hf:oP fo) (nid:Nat) (ds:List Nat) (as:List (Nat×V)) (dob:List Nat) (aob:List (Nat×(Nat×O))) (hk:H K (st.up ds as dob aob) (nd fn (2*n+1)) Q) (hs:nd fn n= .seq (nd fn (2*n)) (nd fn (2*n+1)):=by kernel_rfl) (hc:nd fn (2*n)= .region (IJ (nd fn (2*n))) (rg fn (2*n)) false:=by kernel_rfl) (h:seen (st.up ds as dob aob) (runF K (rg fn (2*n)) (Ev.ds es) fin st nid)=wish (st.up ds as dob aob) (an (Ev.ps es) fo):=by kernel_rfl):H K st (nd fn n) Q:=q_sq (q_wu es fin hf nid ds as dob aob hk hc h) hs
theorem s_du (es:List (Ev K (rg fn (2*n)))) (bm:List Nat) (nid:Nat) (ds:List Nat) (as:List (Nat×V)) (dob:List Nat) (aob:List (Nat×(Nat×O))) (hk:H K (st.up ds as dob aob) (nd fn (2*n+1)) Q) (hs:nd fn n= .seq (nd fn (2*n)) (nd fn (2*n+1)):=by kernel_rfl) (hc:nd fn (2*n)= .region (IJ (nd fn (2*n))) (rg fn (2*n)) true:=by kernel_rfl) (h:seen (st.up ds as dob aob) (qGu K (rg fn (2*n)) [] (Ev.ds es) [] bm st nid)=wish (st.up ds as dob aob) (Ev.ps es):=by kernel_rfl):H K st (nd fn n) Q:=q_sq (q_du es bm nid ds as dob aob hk hc h) hs
theorem q_jn {ι:Type} (S:ι->St) (J:ι->Prop) (hk:∀i,J i->H K (S i) (nd fn (2*n+1)) Q) (h:H K st (nd fn (2*n)) (qEL Q λst'=>∃i,J i/\Sub (S i) st'.rev)) (hc:nd fn n= .seq (nd fn (2*n)) (nd fn (2*n+1)):=by kernel_rfl):H K st (nd fn n) Q:=R_join _ _ hc S J hk h
theorem q_fn {c:Code} (fins:List Fin) (want:St) {q:Option Prop} (hq:oP q) (h:H K want c Q) (hf:seen want (LH K fins st)=wish want q:=by kernel_rfl):H K st c Q:=H_fin fins want hq hf h
end
theorem q_J {ι:Type} {S:ι->St} {J:ι->Prop} {st:St} (i:ι) (hj:J i) (h1:(S i).slots.map (λp=>look p.1 st.rev.slots)=(S i).slots.map λp=>some p.2:=by kernel_rfl) (h2:(S i).objs.map (λp=>look p.1 st.rev.objs)=(S i).objs.map λp=>some p.2:=by kernel_rfl):∃i,J i/\Sub (S i) st.rev:=J_mk i hj h1 h2
theorem q_rm {P:Program} {fn:Func} {x:V} {ob:List (Nat×(Nat×O))} {st:St} (h1:retV P st.rev fn.results.toList=some x:=by kernel_rfl) (h2:ob.map (λp=>look p.1 st.rev.objs)=ob.map λp=>some p.2:=by kernel_rfl):RetQ P fn x ob .ret st:=qMz h1 h2
theorem q_hl {K:Ctx} {st:St} {c:Code} {Q:Exit->St->Prop} {n:Nat} (st':St) (h:HL K c Q n st') (h1:st'.slots.map (λp=>look p.1 st.rev.slots)=st'.slots.map λp=>some p.2:=by kernel_rfl) (h2:st'.objs.map (λp=>look p.1 st.rev.objs)=st'.objs.map λp=>some p.2:=by kernel_rfl):HL K c Q n st:=qSC st' h1 h2 h
end Go.SL

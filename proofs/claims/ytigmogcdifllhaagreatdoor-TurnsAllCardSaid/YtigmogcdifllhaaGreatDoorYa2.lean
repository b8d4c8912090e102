/- Operations that leave memory as it is: what they come to, by computation on what is known. -/
import Derived.Test.YtigmogcdifllhaaGreatDoorYa1
import Derived.Laws.StructEq
import Derived.ChangeKeysEq
import Derived.Laws.Concat
import Derived.Laws.BytesString
set_option linter.unusedVariables false
set_option linter.unusedSimpArgs false
namespace Go.SL
open Go.RowKit
def C.isImm :C->Bool
  | .own .. | .sub .. | .bptr .. | .rptr .. | .fn .. | .yl .. | .unk=>false
  |_=>true
theorem qC6 {w:World} {M:Mem} {c:C} {v:Value} (hc:c.isImm=true) (h:IRep w M.imm c v):CRep w M c v:=by
  cases c<;>first|exact h|cases hc
def qJD :Value->C
  | .slice none 0 0=> .emp
  |v=> .val v
theorem constC_rep {w:World} {M:Mem} {v:Value} (h:v.oneCell'=true):CRep w M (qJD v) v:=by
  unfold qJD;split
  · exact .emp none
  · exact .val v h
def qRH :Value->Option V
  | .agg cs=>bif cs.toList.all Value.oneCell' then some (.v (.agg (cs.toList.map qJD))) else none
  |v=>bif v.oneCell' then some (.v (.one (qJD v))) else none
theorem qVC {w:World} {M:Mem} {v:Value} {x:V} (h:qRH v=some x):VRep w M x v:=by
  unfold qRH at h;split at h
  · rename_i cs;cases hb:cs.toList.all Value.oneCell' with
    |false=>rw[hb] at h;cases h
    | true=>
      rw[hb] at h;cases h;refine⟨cs,rfl,by simp,λj hj=>?_⟩;have hj':j<cs.toList.length:=by simpa using hj
      have:=constC_rep (w:=w) (M:=M) (kB.1 hb _ (uJ hj'));simpa[ki,kI,ks hj',kw,kE (show j<cs.size by simpa using hj')] using this
  · cases hb:v.oneCell' with
    |false=>rw[hb] at h;cases h
    |true=>rw[hb] at h;cases h;exact constC_rep hb
def opV (gl:List (Nat×C)) (st:St):Operand->Option V
  | .tmp t=>look t st.slots
  | .const v=>qRH v
  | .global g=>match look g gl with|some c=>bif c.isImm then some (.v (.one c)) else none|none=>none
  | .func f=>some (.v (.one (.fn f [])))
theorem Sim.globR {K:Ctx} {M:Mem} {st:St} {a:Act} {w:World} (h:Sim K M st a w) {g:Nat} {c:C} (hl:look g K.globs=some c):IRep w M.imm c (.pointer (some ⟨g,0,none⟩)):=
  (K.glob g c hl).move (λb ha hb=>h.below.block b hb fun⟨i,hB⟩=>(K.hIn i b hB).2.2 ha) λb ha hb=>⟨(h.area b).2 (.inl ha),fun⟨i,k,hv,hbk⟩=>by
    rcases(h.rng i k b hv hbk).1 with h1|h1
    · omega
    · exact(K.hIn i b h1).2.2 ha⟩
theorem opV_rep {K:Ctx} {M:Mem} {st:St} {a:Act} {w:World} (h:Sim K M st a w) {o:Operand} {x:V} (ho:opV K.globs st o=some x):VRep w M x (a.eval o):=by
  cases o with
  |tmp t=>exact h.slots t x ho
  |const v=>exact qVC ho
  |func f=>cases ho;exact⟨#[],rfl,rfl,λj hj=>absurd hj (gt j)⟩
  | global g=>
    simp only[opV] at ho;cases hl:look g K.globs with
    |none=>rw[hl] at ho;cases ho
    | some c=>
      rw[hl] at ho;simp only at ho;cases hc:c.isImm with
      |false=>rw[hc] at ho;cases ho
      | true=>
        rw[hc] at ho;cases ho;exact qC6 hc (h.globR hl)
def op1 (gl:List (Nat×C)) (st:St) (o:Operand):Option V1:=match opV gl st o with|some (.v x)=>some x|_=>none
theorem op1_rep {K:Ctx} {M:Mem} {st:St} {a:Act} {w:World} (h:Sim K M st a w) {o:Operand} {x:V1} (ho:op1 K.globs st o=some x):zC w M x (a.eval o):=by
  unfold op1 at ho;split at ho
  · rename_i y heq;cases ho;exact opV_rep h heq
  · cases ho
theorem v1_val {w:World} {M:Mem} {x v:Value} (h:zC w M (.one (.val x)) v):v=x:=IRep.val_eq h
theorem jL {w:World} {M:Mem} (v:Value) (h:v.oneCell'=true):zC w M (.one (.val v)) v:=IRep.val v h
def qJG :TypeDesc->Bool
  | .struct _| .array _ _=>true
  |_=>false
theorem qDh {P:Program} {t:TypeId} {d:TypeDesc} (h:P.underlying t=some d) (w:World):(isAgg t).run P w= .ok (qJG d) w:=by
  simp only[isAgg,Sem.run_bind,run_underlying h,Result.andThen_ok];cases d<;>rfl
theorem wK {P:Program} {t:TypeId} {i:TypeInfo} (h:P.info? t=some i) (w:World):(sizeOf t).run P w= .ok i.size w:=by
  simp[sizeOf,typeInfo,h]
def qFl (P:Program) (t:TypeId) (cs:List C):Option V1:=
  match P.underlying t,P.info? t with
  |some d,some i=>bif qJG d then(bif Nat.ble i.size cs.length then some (.agg (cs.take i.size)) else none) else(match cs with|c::_=>some (.one c)|[]=>none)
  |_,_=>none
theorem qVG {w:World} {M:Mem} {cs:List C} {n:Nat} {g:Nat->Value} (hn:n<=cs.length) (hr:∀j,j<cs.length->CRep w M (cs.getD j .unk) (g j)):
    yQ w M (cs.take n) ((List.range n).map g).toArray:=by
  refine⟨by simp[gu hn],λj hj=>?_⟩;have hj':j<n:=by simp at hj;omega
  have:=hr j (by omega);simp only[ki,uh,hj',if_true] at this⊢;simpa[hj'] using this
theorem qKH {P:Program} {w:World} {M:Mem} {t:TypeId} {cs:List C} {x:V1} {b o:Nat} {g:Nat->Value} (ht:qFl P t cs=some x)
    (hc:∀j,j<cs.length->w.cell? ⟨b,o+j,none⟩=some (g j)) (hr:∀j,j<cs.length->CRep w M (cs.getD j .unk) (g j)):
    ∃v,(loadVar t ⟨b,o,none⟩).run P w= .ok v w/\zC w M x v:=by
  unfold qFl at ht;split at ht
  · rename_i d i hd hi;cases ha:qJG d with
    | true=>
      rw[ha] at ht;simp only[kp] at ht;cases hb:Nat.ble i.size cs.length with
      |false=>rw[hb] at ht;cases ht
      | true=>
        rw[hb] at ht;cases ht;have hn:=kW hb;refine⟨.agg ((List.range i.size).map g).toArray,?_,_,rfl,qVG hn hr⟩;have hl:=run_loadCells (P:=P) w ⟨b,o,none⟩ i.size g λj hj=>by rw[Addr.add_lit];exact hc j (by omega)
        simp[loadVar,qDh hd,ha,wK hi,hl]
    | false=>
      rw[ha] at ht;simp only[kr] at ht;split at ht
      · rename_i c cs';cases ht;have h0:=hc 0 (by simp);refine⟨g 0,?_,show CRep w M c (g 0) by simpa using hr 0 (by simp)⟩;simp only[ug] at h0;simp[loadVar,qDh hd,ha,h0]
      · cases ht
  · cases ht
def AC (st:St):C->Option (List C×Prop)
  | .bptr id k j=>match look id st.objs with|some (k',.box _ cs)=>bif Nat.beq k k' then some (cs.drop j,True) else none|_=>none
  | .rptr id k sz i j=>match look id st.objs with|some (k',.row _ sz' n f)=>bif Nat.beq k k'&&Nat.beq sz sz' then some ((f i).drop j,i<n) else none|_=>none
  | .lptr cs=>some (cs,True)
  | .aptr n sz f=>bif Nat.ble n 64&&(List.range n).all (λi=>Nat.beq (f i).length sz) then some (((List.range n).map f).flatten,True) else none
  |_=>none
theorem qPF {f:Nat->List C} {sz:Nat}:∀(n:Nat),(∀i,i<n->(f i).length=sz)->(((List.range n).map f).flatten).length=n*sz/\∀i j,i<n->j<sz->(((List.range n).map f).flatten).getD (i*sz+j) .unk=(f i).getD j .unk
  |0,_=>⟨by simp,λi j hi=>by omega⟩
  | n+1,h=>by
    obtain⟨h1,h2⟩:=qPF n λi hi=>h i (by omega);rw[ul,kU,List.flatten_append];simp only[ut,dI,List.flatten_cons,List.flatten_nil,uQ];refine⟨by rw[ub,h1,h n (by omega),uo,dg],λi j hi hj=>?_⟩;simp only[ki];by_cases hin:i<n
    · have:(i+1)*sz<=n*sz:=kS _ hin;rw[uo,dg] at this;rw[kL (by omega)];have:=h2 i j hin hj;simpa only[ki] using this
    · have hie:i=n:=by omega
      subst hie;rw[kH (by omega),h1,Nat.add_sub_cancel_left]
theorem cell_of_row' {w:World} {b j:Nat} {arr:Array Value} {e:TypeId} {fr:Nat×Nat} (h:w.heap[b]? =some (.cells arr e fr)) (hj:j<arr.size):w.cell? ⟨b,j,none⟩=some (arr.getD j undef):=by
  rw[cell_of_row w b j arr e fr h];simp[hj]
theorem getD_drop {cs:List C} {j m:Nat}:(cs.drop j).getD m .unk=cs.getD (j+m) .unk:=by
  simp[ki]
theorem IRep.isImm {w:World} {ok:Nat->Prop} {c:C} {v:Value} (h:IRep w ok c v):c.isImm=true:=by cases h<;>rfl
theorem qJl {K:Ctx} {M:Mem} {st:St} {a:Act} {w:World} (h:Sim K M st a w) {c:C} {v:Value} (hv:CRep w M c v) {cs:List C} {ob:Prop} (hp:AC st c=some (cs,ob)) (hob:ob):
    ∃(b o:Nat) (g:Nat->Value),v= .pointer (some ⟨b,o,none⟩)/\(∀j,j<cs.length->w.cell? ⟨b,o+j,none⟩=some (g j))/\∀j,j<cs.length->CRep w M (cs.getD j .unk) (g j):=by
  unfold AC at hp;split at hp
  · rename_i id k j;split at hp
    · rename_i _ k' e cs' hl;cases hk:Nat.beq k k' with
      |false=>rw[hk] at hp;cases hp
      | true=>
        rw[hk] at hp;cases hp;have hkk:=ku hk;subst hkk;obtain⟨hver,b,arr,hb,hh,hsz,hc⟩:=h.objs id k _ hl;obtain⟨b',rfl,hb'⟩:=hv;have hb':=hb' hver;rw[hb] at hb';cases hb';refine⟨b,j,λm=>arr.getD (j+m) undef,rfl,λm hm=>?_,λm hm=>?_⟩
        · simp only[uv] at hm;exact cell_of_row' hh (by omega)
        · simp only[uv] at hm;rw[getD_drop];exact hc (j+m) (by omega)
    · cases hp
  · rename_i id k sz i j;split at hp
    · rename_i k' e sz' n f hl;cases hk:Nat.beq k k'&&Nat.beq sz sz' with
      |false=>rw[hk] at hp;cases hp
      | true=>
        rw[hk] at hp;cases hp;simp only[kv] at hk;have hkk:=ku hk.1;have hss:=ku hk.2;subst hkk hss;obtain⟨hver,hrow⟩:=h.objs id k _ hl;rcases hrow with⟨_,h0⟩|⟨b,arr,hb,hh,hsz,hc⟩
        · omega
        · obtain⟨b',rfl,hb'⟩:=hv;have hb':=hb' hver;rw[hb] at hb';cases hb';have hin:i*sz+sz<=n*sz:=by
            have:(i+1)*sz<=n*sz:=kS _ hob;rw[uo,dg] at this;exact this
          refine⟨b,i*sz+j,λm=>arr.getD (i*sz+j+m) undef,rfl,λm hm=>?_,λm hm=>?_⟩
          · simp only[uv,(hc i hob).1] at hm;exact cell_of_row' hh (by omega)
          · simp only[uv,(hc i hob).1] at hm;have:=(hc i hob).2 (j+m) (by omega);rw[getD_drop];show CRep w M _ (arr.getD (i*sz+j+m) undef);rw[uX];exact qC6 this.isImm this
    · cases hp
  · rename_i cs';cases hp;cases hv with
    |lptr b o cs g hb hc hr=>exact⟨b,o,g,rfl,hc,λj hj=>qC6 (hr j hj).isImm (hr j hj)⟩
  · rename_i n sz f;cases hk:Nat.ble n 64&&(List.range n).all (λi=>Nat.beq (f i).length sz) with
    |false=>rw[hk] at hp;cases hp
    | true=>
      rw[hk] at hp;cases hp;cases hv with
      | aptr b o n sz f g hl hb hc hr=>
        obtain⟨h1,h2⟩:=qPF n hl;have hpos:∀q,q<n*sz->0<sz:=λq hq=>by
          rcases kac sz with h0|h0
          · subst h0;simp at hq
          · exact h0
        have hdm:∀q,q<n*sz->q/sz<n/\q % sz<sz/\q/sz*sz+q % sz=q:=λq hq=>
          ⟨dQ (by rw[dj];exact hq),kT _ (hpos q hq),by rw[dj];exact Nat.div_add_mod q sz⟩
        refine⟨b,o,λq=>g (q/sz) (q % sz),rfl,λq hq=>?_,λq hq=>?_⟩<;>rw[h1] at hq<;>obtain⟨d1,d2,d3⟩:=hdm q hq
        · have:=hc (q/sz) (q % sz) d1 d2;rw[d3] at this;exact this
        · have:=hr (q/sz) (q % sz) d1 d2;rw[<-h2 (q/sz) (q % sz) d1 d2,d3] at this;exact qC6 this.isImm this
  · cases hp
def qQV (P:Program) (st:St) (t:TypeId) (x:V1):Option (V×Prop):=
  match x with
  | .one c=>match AC st c with|some (cs,ob)=>(qFl P t cs).map λy=>(.v y,ob)|none=>none
  |_=>none
theorem qXs {K:Ctx} {M:Mem} {st:St} {a:Act} {w:World} (h:Sim K M st a w) {t:TypeId} {x:V1} {v:Value} (hv:zC w M x v) {y:V} {ob:Prop} (hp:qQV K.P st t x=some (y,ob)) (hob:ob):
    ∃u,(Instr.loadAt t v).run K.P w= .ok u w/\VRep w M y u:=by
  unfold qQV at hp;split at hp
  · rename_i c;split at hp
    · rename_i cs ob' hpc;cases ht:qFl K.P t cs with
      |none=>rw[ht] at hp;cases hp
      | some z=>
        rw[ht] at hp;cases hp;obtain⟨b,o,g,rfl,hc,hr⟩:=qJl h hv hpc hob;obtain⟨u,hu,hru⟩:=qKH (P:=K.P) ht hc hr;exact⟨u,by simp[Instr.loadAt,Instr.sureAddr,hu],hru⟩
    · cases hp
  · cases hp
def qNP (off:Nat):C->Option C
  | .bptr id k j=>some (.bptr id k (j+off))
  | .rptr id k sz i j=>some (.rptr id k sz i (j+off))
  | .lptr cs=>some (.lptr (cs.drop off))
  |_=>none
def qMI (P:Program) (s:TypeId) (x:V1) (f:Nat):Option (V×Prop):=
  match x,P.underlying s with
  | .one c,some (.struct fs)=>
    match fs[f]? with
    | some fd=>match P.info? fd.type with
      |some i=>bif Nat.beq i.size 0 then none else(qNP fd.offset c).map λc=>(.v (.one c),True)
      |none=>none
    |none=>none
  |_,_=>none
theorem qLY {w:World} {M:Mem} {off:Nat} {c c':C} {v:Value} (h:qNP off c=some c') (hv:CRep w M c v):
    ∃b o,v= .pointer (some ⟨b,o,none⟩)/\CRep w M c' (.pointer (some ⟨b,o+off,none⟩)):=by
  unfold qNP at h;split at h
  · rename_i id k j;cases h;obtain⟨b,rfl,hb⟩:=hv;exact⟨b,j,rfl,b,rfl,hb⟩
  · rename_i id k sz i j;cases h;obtain⟨b,rfl,hb⟩:=hv;exact⟨b,i*sz+j,rfl,b,by rw[uX],hb⟩
  · rename_i cs;cases h;cases hv with
    | lptr b o cs g hb hc hr=>
      refine⟨b,o,rfl,.lptr b (o+off) _ (λj=>g (off+j)) (λj hj=>?_) (λj hj=>?_) (λj hj=>?_)⟩<;>simp only[uv] at hj
      · exact hb (off+j) (by omega)
      · rw[uX];exact hc (off+j) (by omega)
      · rw[getD_drop];exact hr (off+j) (by omega)
  · cases h
theorem qVs {P:Program} {w:World} {M:Mem} {s:TypeId} {x:V1} {v:Value} (hv:zC w M x v) {f:Nat} {y:V} {ob:Prop} (hp:qMI P s x f=some (y,ob)):
    ∃u,(Instr.fieldAt s v f).run P w= .ok u w/\VRep w M y u:=by
  unfold qMI at hp;split at hp
  · rename_i c fs hs;split at hp
    · rename_i fd hfd;split at hp
      · rename_i i hi;cases hz:Nat.beq i.size 0 with
        |true=>rw[hz] at hp;cases hp
        | false=>
          rw[hz] at hp;simp only[kr] at hp;cases hc:qNP fd.offset c with
          |none=>rw[hc] at hp;cases hp
          | some c'=>
            rw[hc] at hp;cases hp;obtain⟨b,o,rfl,hr⟩:=qLY hc hv;have hne:i.size≠0:=λh=>by rw[h] at hz;cases hz
            refine⟨_,?_,hr⟩;simp[Instr.fieldAt,run_underlying hs,hfd,Instr.sureAddr,fieldPlace,wK hi,hne,Addr.add_lit]
      · cases hp
    · cases hp
  · cases hp
def qRc (P:Program) (t:TypeId) (x i:V1):Option (V×Prop):=
  match i with
  | .one (.val (.int _ z))=>
    match P.underlying t with
    | some (.slice e)=>
      match P.info? e,x with
      |some ie,.one (.lst n f)=>bif Nat.beq (f z.toNat).length ie.size then some (.v (.one (.lptr (f z.toNat))),0<=z/\z<(n:Int)) else none
      |some ie,.one (.own id k sz len)=>bif Nat.beq sz ie.size then some (.v (.one (.rptr id k sz z.toNat 0)),0<=z/\z<(len:Int)) else none
      |_,_=>none
    | some (.array len e)=>
      match P.info? e,x with
      |some ie,.one (.aptr n sz f)=>bif Nat.beq sz ie.size&&Nat.beq n len then some (.v (.one (.lptr (f z.toNat))),0<=z/\z<(n:Int)) else none
      |some ie,.one (.bptr id k j)=>some (.v (.one (.bptr id k (j+z.toNat*ie.size))),0<=z/\z<(len:Int))
      |some ie,.one (.lptr cs)=>some (.v (.one (.lptr (cs.drop (z.toNat*ie.size)))),0<=z/\z<(len:Int))
      |some ie,.one (.rptr id k sz i j)=>some (.v (.one (.rptr id k sz i (j+z.toNat*ie.size))),0<=z/\z<(len:Int))
      |_,_=>none
    |_=>none
  |_=>none
theorem qUf {w:World} {ok:Nat->Prop} {b o n sz:Nat} {f:Nat->List C} {g:Nat->Nat->Value} (hl:∀i,i<n->(f i).length=sz)
    (hb:∀i j,i<n->j<sz->ok b) (hc:∀i j,i<n->j<sz->w.cell? ⟨b,o+(i*sz+j),none⟩=some (g i j)) (hr:∀i j,i<n->j<sz->IRep w ok ((f i).getD j .unk) (g i j)) {i:Nat} (hi:i<n):
    IRep w ok (.lptr (f i)) (.pointer (some ⟨b,o+i*sz,none⟩)):=by
  refine .lptr b (o+i*sz) (f i) (g i) (λj hj=>?_) (λj hj=>?_) (λj hj=>?_)<;>rw[hl i hi] at hj
  · exact hb i j hi hj
  · rw[uX];exact hc i j hi hj
  · exact hr i j hi hj
theorem qVE {P:Program} {w:World} {M:Mem} {t:TypeId} {x i:V1} {v u:Value} (hv:zC w M x v) (hu:zC w M i u) {y:V} {ob:Prop} (hp:qRc P t x i=some (y,ob)) (hob:ob):
    ∃r,(Instr.indexAt t v u).run P w= .ok r w/\VRep w M y r:=by
  unfold qRc at hp;split at hp
  · rename_i kk z;have hu':=v1_val hu;subst hu';have hz:∀m:Nat,0<=z/\z<(m:Int)->z.toNat<m:=λm hm=>by omega
    split at hp
    · rename_i e ht;split at hp
      · rename_i ie n f hi;cases hb:Nat.beq (f z.toNat).length ie.size with
        |false=>rw[hb] at hp;cases hp
        | true=>
          rw[hb] at hp;cases hp;have hlen:=ku hb;have hzn:=hz _ hob;cases hv with
          |lst0 a=>omega
          | lst b o n cap sz f g hn hm hl hbb hc hr=>
            have hs:sz=ie.size:=by rw[<-hlen,hl _ hzn]
            subst hs;refine⟨.pointer (some ⟨b,o+z.toNat*ie.size,none⟩),?_,qUf hl hbb hc hr hzn⟩;simp[Instr.indexAt,asIntOf,run_underlying ht,hob.1,hob.2,wK hi,Addr.add_lit]
      · rename_i ie id k sz len hi;cases hb:Nat.beq sz ie.size with
        |false=>rw[hb] at hp;cases hp
        | true=>
          rw[hb] at hp;cases hp;have hlen:=ku hb;subst hlen;have hzn:=hz _ hob;rcases hv with⟨h0,_⟩|⟨b,cap,rfl,h1,h2,hx⟩
          · omega
          · refine⟨.pointer (some ⟨b,z.toNat*ie.size,none⟩),?_,b,rfl,λhd=>(hx hd).1⟩;simp[Instr.indexAt,asIntOf,run_underlying ht,hob.1,hob.2,wK hi,Addr.add_lit]
      · cases hp
    · rename_i len e ht;split at hp
      · rename_i ie n sz f hi;cases hb:Nat.beq sz ie.size&&Nat.beq n len with
        |false=>rw[hb] at hp;cases hp
        | true=>
          rw[hb] at hp;cases hp;simp only[kv] at hb;have hlen:=ku hb.1;have hnn:=ku hb.2;subst hlen hnn;have hzn:=hz _ hob;cases hv with
          | aptr b o n sz f g hl hbb hc hr=>
            refine⟨.pointer (some ⟨b,o+z.toNat*ie.size,none⟩),?_,qUf hl hbb hc hr hzn⟩;simp[Instr.indexAt,asIntOf,run_underlying ht,Instr.sureAddr,hob.1,hob.2,wK hi,Addr.add_lit]
      · rename_i ie id k j hi;cases hp;obtain⟨b,rfl,hx⟩:=hv;refine⟨.pointer (some ⟨b,j+z.toNat*ie.size,none⟩),?_,b,rfl,hx⟩;simp[Instr.indexAt,asIntOf,run_underlying ht,Instr.sureAddr,hob.1,hob.2,wK hi,Addr.add_lit]
      · rename_i ie cs hi;cases hp;obtain⟨b,o,rfl,hr⟩:=qLY (w:=w) (M:=M) (off:=z.toNat*ie.size) (c:= .lptr cs) (c':= .lptr (cs.drop (z.toNat*ie.size))) rfl hv;refine⟨.pointer (some ⟨b,o+z.toNat*ie.size,none⟩),?_,hr⟩;simp[Instr.indexAt,asIntOf,run_underlying ht,Instr.sureAddr,hob.1,hob.2,wK hi,Addr.add_lit]
      · rename_i ie id k sz i j hi;cases hp;obtain⟨b,rfl,hx⟩:=hv;refine⟨.pointer (some ⟨b,i*sz+j+z.toNat*ie.size,none⟩),?_,b,by rw[uX],hx⟩;simp[Instr.indexAt,asIntOf,run_underlying ht,Instr.sureAddr,hob.1,hob.2,wK hi,Addr.add_lit]
      · cases hp
    · cases hp
  · cases hp
def qBD (P:Program) (t:TypeId) (cs:List C) (off:Nat):Option V1:=qFl P t (cs.drop off)
theorem FI {P:Program} {w:World} {M:Mem} {t:TypeId} {cs:List C} {vs:Array Value} {off:Nat} {x:V1} (h:qBD P t cs off=some x) (hr:yQ w M cs vs):∃v,(part t vs off).run P w= .ok v w/\zC w M x v:=by
  unfold qBD qFl at h;split at h
  · rename_i d i hd hi;cases ha:qJG d with
    | true=>
      rw[ha] at h;simp only[kp] at h;cases hb:Nat.ble i.size (cs.drop off).length with
      |false=>rw[hb] at h;cases h
      | true=>
        rw[hb] at h;cases h;have hn:=kW hb;simp only[uv] at hn;refine⟨.agg (vs.extract off (off+i.size)),by simp[part,qDh hd,ha,wK hi],_,rfl,?_,λj hj=>?_⟩
        · have:=hr.1;simp;omega
        · have hj':j<i.size:=by simp at hj;omega
          by_cases hof:off+j<cs.length
          · have:=hr.2 (off+j) hof;have hsz:=hr.1;simp only[ki,uh,hj',if_true,gk,kw,Array.getElem?_extract] at this⊢;rw[if_pos (by omega)];exact this
          · simp only[ur,uv] at hj;omega
    | false=>
      rw[ha] at h;simp only[kr] at h;split at h
      · rename_i c cs' hcs;cases h;have hlt:off<cs.length:=by
          have:(cs.drop off).length=cs'.length+1:=by rw[hcs];rfl
          rw[uv] at this;omega
        have h0:=hr.2 off hlt;have hsz:=hr.1;have hc:cs.getD off .unk=c:=by
          have:(cs.drop off).getD 0 .unk=c:=by rw[hcs];rfl
          rw[getD_drop] at this;exact this
        rw[hc] at h0;have hv:vs[off]? =some (vs.getD off undef):=by
          have hlt':off<vs.size:=by omega
          rw[kw,kE hlt',kJ]
        refine⟨vs.getD off undef,?_,h0⟩;simp only[part,Sem.run_bind,qDh hd,ha,Result.andThen_ok,uG,if_false,hv];rfl
      · cases h
  · cases h
def eqV (P:Program):Nat->TypeId->V1->V1->Option Bool
  |0,_,_,_=>none
  | d+1,t,x,y=>
    match P.underlying t,x,y with
    |some .bool,.one (.val (.bool a)),.one (.val (.bool b))=>some (a==b)
    |some (.int _),.one (.val (.int k a)),.one (.val (.int k' b))=>if k=k' then some (a==b) else none
    |some .string,.one (.val (.string a)),.one (.val (.string b))=>some (a==b)
    |some (.struct fs),.agg xs,.agg ys=>bif P.stoodInHeld t then none else
        fs.toList.foldr (fun f r=>if f.name= "_" then r else match qBD P f.type xs f.offset,qBD P f.type ys f.offset with
          |some p,some q=>match eqV P d f.type p q,r with|some b,some c=>some (b&&c)|_,_=>none
          |_,_=>none) (some true)
    |some (.array n e),.agg xs,.agg ys=>(match P.info? e with
        | some i=>(List.range n).foldr (λj r=>match qBD P e xs (j*i.size),qBD P e ys (j*i.size) with
          |some p,some q=>match eqV P d e p q,r with|some b,some c=>some (b&&c)|_,_=>none
          |_,_=>none) (some true)
        |none=>none)
    |_,_,_=>none
theorem qFz {P:Program} {w:World} {M:Mem}:∀(n d:Nat) (t:TypeId) (x y:V1) (v u:Value) (b:Bool),n<=d->zC w M x v->zC w M y u->eqV P n t x y=some b->(Op.equalIn d t v u).run P w= .ok b w
  |0,_,_,_,_,_,_,_,_,_,_,h=>by cases h
  |n+1,0,_,_,_,_,_,_,hn,_,_,_=>by omega
  | n+1,d+1,t,x,y,v,u,b,hn,hv,hu,h=>by
    unfold eqV at h;split at h
    · rename_i a b' ht;cases h;rw[v1_val hv,v1_val hu];simp[Op.equalIn,run_underlying ht]
    · rename_i k0 k a k' b' ht;split at h
      · rename_i hk;subst hk;cases h;rw[v1_val hv,v1_val hu];exact run_equalIn_int w d t k k0 a b' ht
      · cases h
    · rename_i a b' ht;cases h;rw[v1_val hv,v1_val hu];simp[Op.equalIn,run_underlying ht]
    · rename_i fs xs ys ht;cases hp:P.stoodInHeld t with
      |true=>rw[hp] at h;cases h
      | false=>
        rw[hp] at h;simp only[kr] at h;obtain⟨vs,rfl,hvs⟩:=hv;obtain⟨us,rfl,hus⟩:=hu;have hfo:P.fieldsOf t=fs:=by simp[Program.fieldsOf,ht]
        rw[run_equalIn_struct w d t vs us (by rw[hfo];exact ht) hp,hfo];clear hfo ht hp;generalize fs.toList=l at h
        induction l generalizing b with
        |nil=>cases h;simp[Op.eqFields]
        | cons f l ih=>
          simp only[List.foldr_cons] at h;simp only[Op.eqFields];split at h
          · rename_i hnm;rw[if_neg (by simpa using hnm)];exact ih b h
          · rename_i hnm;rw[if_pos hnm];split at h
            · rename_i p q hp1 hq1;split at h
              · rename_i b1 c1 hb1 hc1;cases h;obtain⟨pv,hpr,hpv⟩:=FI hp1 hvs;obtain⟨qv,hqr,hqv⟩:=FI hq1 hus;have he:=qFz n d f.type p q pv qv b1 (by omega) hpv hqv hb1;have hrest:=ih c1 hc1;simp only[Sem.run_bind,hpr,hqr,he,Result.andThen_ok];cases b1
                · simp
                · simpa using hrest
              · cases h
            · cases h
    · rename_i len e xs ys ht;split at h
      · rename_i i hi;obtain⟨vs,rfl,hvs⟩:=hv;obtain⟨us,rfl,hus⟩:=hu;have hsz:P.cellsOf e=i.size:=by simp[Program.cellsOf,hi]
        rw[run_equalIn_array w d vs us ht hi,hsz];clear ht hi hsz;generalize List.range len=l at h
        induction l generalizing b with
        |nil=>cases h;simp[Op.eqItems]
        | cons j l ih=>
          simp only[List.foldr_cons] at h;simp only[Op.eqItems];split at h
          · rename_i p q hp1 hq1;split at h
            · rename_i b1 c1 hb1 hc1;cases h;obtain⟨pv,hpr,hpv⟩:=FI hp1 hvs;obtain⟨qv,hqr,hqv⟩:=FI hq1 hus;have he:=qFz n d e p q pv qv b1 (by omega) hpv hqv hb1;have hrest:=ih c1 hc1;simp only[Sem.run_bind,hpr,hqr,he,Result.andThen_ok];cases b1
              · simp
              · simpa using hrest
            · cases h
          · cases h
      · cases h
    · cases h
def strEq (a b:ByteArray):Bool:=a.data.toList==b.data.toList
def strAt (s:ByteArray) (i:Nat):Int:=((s.data.getD i 0).toNat:Int)
def shlI (k:IntKind) (a b:Int):Int:=k.wrap (a*2^(min b.toNat k.bits))
def shrI (k:IntKind) (a b:Int):Int:=a.fdiv (2^(min b.toNat k.bits))
def andI (k:IntKind) (a b:Int):Int:=k.wrap ((BitVec.ofInt k.bits a&&&BitVec.ofInt k.bits b).toNat:Int)
def orI (k:IntKind) (a b:Int):Int:=k.wrap ((BitVec.ofInt k.bits a|||BitVec.ofInt k.bits b).toNat:Int)
def xorI (k:IntKind) (a b:Int):Int:=k.wrap ((BitVec.ofInt k.bits a^^^BitVec.ofInt k.bits b).toNat:Int)
def anI (k:IntKind) (a b:Int):Int:=k.wrap ((BitVec.ofInt k.bits a&&& ~~~BitVec.ofInt k.bits b).toNat:Int)
def notI (k:IntKind) (a:Int):Int:=xorI k (if k.signed then-1 else k.max) a
def binV (P:Program) (op:BinOp) (t:TypeId) (x y:V1):Option (V1×Prop):=
  match x,y with
  | .one (.val (.int k a)),.one (.val (.int k' b))=>
    if op= .shl then some (.one (.val (.int k (shlI k a b))),¬b<0)
    else if op= .shr then some (.one (.val (.int k (shrI k a b))),¬b<0)
    else if k=k' then
      match op with
      | .and=>some (.one (.val (.int k (andI k a b))),True)
      | .or=>some (.one (.val (.int k (orI k a b))),True)
      | .xor=>some (.one (.val (.int k (xorI k a b))),True)
      | .andNot=>some (.one (.val (.int k (anI k a b))),True)
      | .add=>some (.one (.val (.int k (k.wrap (a+b)))),True)
      | .sub=>some (.one (.val (.int k (k.wrap (a-b)))),True)
      | .mul=>some (.one (.val (.int k (k.wrap (a*b)))),True)
      | .quo=>some (.one (.val (.int k (k.wrap (a.tdiv b)))),b≠0)
      | .rem=>some (.one (.val (.int k (a.tmod b))),b≠0)
      | .eql=>some (.one (.val (.bool (a==b))),True)
      | .neq=>some (.one (.val (.bool (a !=b))),True)
      | .lss=>some (.one (.val (.bool (decide (a<b)))),True)
      | .leq=>some (.one (.val (.bool (decide (a<=b)))),True)
      | .gtr=>some (.one (.val (.bool (decide (a>b)))),True)
      | .geq=>some (.one (.val (.bool (decide (a≥b)))),True)
      |_=>none
    else none
  | .one (.val (.bool a)),.one (.val (.bool b))=>
    match op,P.underlying t with
    | .eql,some .bool=>some (.one (.val (.bool (a==b))),True)
    | .neq,some .bool=>some (.one (.val (.bool (!(a==b)))),True)
    |_,_=>none
  | .one (.val (.string a)),.one (.val (.string b))=>
    match op with
    | .eql=>some (.one (.val (.bool (strEq a b))),True)
    | .neq=>some (.one (.val (.bool (!strEq a b))),True)
    | .add=>some (.one (.val (.string (a++b))),a.size+b.size<=9223372036854775807)
    |_=>none
  | .agg xs,.agg ys=>
    match op with
    | .eql=>bif P.eqGuardType P.depth t then none else match eqV P 9 t (.agg xs) (.agg ys) with|some b=>some (.one (.val (.bool b)),True)|none=>none
    | .neq=>bif P.eqGuardType P.depth t then none else match eqV P 9 t (.agg xs) (.agg ys) with|some b=>some (.one (.val (.bool (!b))),True)|none=>none
    |_=>none
  | .one (.bptr _ _ _),.one (.val (.pointer none))=>
    match op,P.underlying t with
    | .eql,some (.pointer _)=>some (.one (.val (.bool false)),True)
    | .neq,some (.pointer _)=>some (.one (.val (.bool true)),True)
    |_,_=>none
  | .one (.val (.pointer none)),.one (.val (.pointer none))=>
    match op,P.underlying t with
    | .eql,some (.pointer _)=>some (.one (.val (.bool true)),True)
    | .neq,some (.pointer _)=>some (.one (.val (.bool false)),True)
    |_,_=>none
  |_,_=>none
theorem qTu {P:Program} {w:World} {op:BinOp} {t:TypeId} {x y:Operand} {k k':IntKind} {a b:Int}:(eqGuard op t x y (.int k a) (.int k' b)).run P w= .ok () w:=by
  unfold eqGuard;cases op<;>rfl
theorem qQ7 {P:Program} {w:World} {op:BinOp} {t:TypeId} {x y:Operand} {a b:Bool}:(eqGuard op t x y (.bool a) (.bool b)).run P w= .ok () w:=by
  unfold eqGuard;cases op<;>rfl
theorem qTJ {P:Program} {w:World} {op:BinOp} {t:TypeId} {x y:Operand} {a b:ByteArray}:(eqGuard op t x y (.string a) (.string b)).run P w= .ok () w:=by
  unfold eqGuard;cases op<;>rfl
theorem qVO {P:Program} (w:World) (d:Nat) (t e:TypeId) (a:Addr) (ht:P.underlying t=some (.pointer e)):(Op.equalIn (d+1) t (.pointer (some a)) (.pointer Option.none)).run P w= .ok false w:=by
  simp[Op.equalIn,run_underlying ht]
theorem qXi {P:Program} (w:World) (d:Nat) (t e:TypeId) (ht:P.underlying t=some (.pointer e)):(Op.equalIn (d+1) t (.pointer Option.none) (.pointer Option.none)).run P w= .ok true w:=by
  simp[Op.equalIn,run_underlying ht]
theorem qXL {P:Program} {w:World} {M:Mem} {op:BinOp} {t:TypeId} {x y:V1} {v u:Value} (hv:zC w M x v) (hu:zC w M y u) {z:V1} {ob:Prop} (hp:binV P op t x y=some (z,ob)) (hob:ob) (ox oy:Operand):
    ∃r,(do eqGuard op t ox oy v u;binOp op t v u:Sem Value).run P w= .ok r w/\zC w M z r:=by
  unfold binV at hp;split at hp
  · rename_i k a k' b;rw[v1_val hv,v1_val hu];simp only[Sem.run_bind,qTu,Result.andThen_ok];split at hp
    · rename_i ho;subst ho;cases hp;refine⟨_,?_,jL _ rfl⟩;simp[binOp,Op.shift,hob,shlI]
    · rename_i ho1;split at hp
      · rename_i ho;subst ho;cases hp;refine⟨_,?_,jL _ rfl⟩;simp[binOp,Op.shift,hob,shrI]
      · rename_i ho2;split at hp
        · rename_i hk;subst hk;cases op<;>simp only at hp<;>first
            | (cases hp
               refine⟨_,?_,jL _ rfl⟩;simp[binOp,Op.intArith,Op.intDiv,Op.intCmp,hob]
               done)
            | (cases hp
               refine⟨_,?_,jL _ rfl⟩;simp[binOp,Op.intArith,Op.intDiv,Op.intCmp]
               done)
            | (cases hp
               refine⟨_,?_,jL _ rfl⟩;simp only[binOp,ne_eq,not_true_eq_false,ite_false,Op.intBits];rfl)
            |(cases hp;done)
        · cases hp
  · rename_i a b;rw[v1_val hv,v1_val hu];simp only[Sem.run_bind,qQ7,Result.andThen_ok];split at hp
    · rename_i ht;cases hp;refine⟨.bool (a==b),?_,jL _ rfl⟩;have he:(Op.equal t (.bool a) (.bool b)).run P w= .ok (a==b) w:=run_equalIn_bool w 9999 t a b ht;show((do pure (.bool (<-Op.equal t (.bool a) (.bool b)))):Sem Value).run P w=_;simp only[Sem.run_bind,he,Result.andThen_ok,Sem.run_pure]
    · rename_i ht;cases hp;refine⟨.bool (!(a==b)),?_,jL _ rfl⟩;have he:(Op.equal t (.bool a) (.bool b)).run P w= .ok (a==b) w:=run_equalIn_bool w 9999 t a b ht;show((do pure (.bool (!(<-Op.equal t (.bool a) (.bool b))))):Sem Value).run P w=_;simp only[Sem.run_bind,he,Result.andThen_ok,Sem.run_pure]
    · cases hp
  · rename_i a b;rw[v1_val hv,v1_val hu];simp only[Sem.run_bind,qTJ,Result.andThen_ok];split at hp
    · cases hp;refine⟨.bool (strEq a b),?_,jL _ rfl⟩;rw[binOp_string_eql,ByteArray.toList_eq,ByteArray.toList_eq];rfl
    · cases hp;refine⟨.bool (!strEq a b),?_,jL _ rfl⟩;rw[binOp_string_neq,ByteArray.toList_eq,ByteArray.toList_eq];rfl
    · cases hp;refine⟨.string (a++b),?_,jL _ rfl⟩;rw[binOp_string_add,run_string_add_sum _ _ _ hob]
    · cases hp
  · rename_i xs ys;split at hp
    · cases hg:P.eqGuardType P.depth t with
      |true=>rw[hg] at hp;cases hp
      | false=>
        rw[hg] at hp;simp only[kr] at hp;split at hp
        · rename_i b hb;cases hp;have he:=qFz (P:=P) (w:=w) (M:=M) 9 10000 t _ _ v u b (by omega) hv hu hb;obtain⟨vs,rfl,_⟩:=hv;obtain⟨us,rfl,_⟩:=hu;refine⟨.bool b,?_,jL _ rfl⟩;simp only[Sem.run_bind,run_eqGuard_agg w _ t ox oy vs us hg,Result.andThen_ok,run_eql_struct,he]
        · cases hp
    · cases hg:P.eqGuardType P.depth t with
      |true=>rw[hg] at hp;cases hp
      | false=>
        rw[hg] at hp;simp only[kr] at hp;split at hp
        · rename_i b hb;cases hp;have he:=qFz (P:=P) (w:=w) (M:=M) 9 10000 t _ _ v u b (by omega) hv hu hb;obtain⟨vs,rfl,_⟩:=hv;obtain⟨us,rfl,_⟩:=hu;refine⟨.bool (!b),?_,jL _ rfl⟩;simp only[Sem.run_bind,run_eqGuard_agg w _ t ox oy vs us hg,Result.andThen_ok,run_neq_struct,he]
        · cases hp
    · cases hp
  · rename_i id k j;rw[v1_val hu];obtain⟨b,rfl,_⟩:=(show CRep w M (.bptr id k j) v from hv)
    have he:∀e,P.underlying t=some (.pointer e)->(Op.equal t (.pointer (some ⟨b,j,Option.none⟩)) (.pointer Option.none)).run P w= .ok false w:=λe ht=>qVO w 9999 t e _ ht;split at hp
    · rename_i ht;cases hp;refine⟨.bool false,?_,jL _ rfl⟩;show((do pure (.bool (<-Op.equal t (.pointer (some ⟨b,j,Option.none⟩)) (.pointer Option.none)))):Sem Value).run P w=_;simp only[Sem.run_bind,he _ ht,Result.andThen_ok,Sem.run_pure]
    · rename_i ht;cases hp;refine⟨.bool true,?_,jL _ rfl⟩;show((do pure (.bool (!(<-Op.equal t (.pointer (some ⟨b,j,Option.none⟩)) (.pointer Option.none))))):Sem Value).run P w=_;simp only[Sem.run_bind,he _ ht,Result.andThen_ok,Sem.run_pure];rfl
    · cases hp
  · rw[v1_val hv,v1_val hu];have he:∀e,P.underlying t=some (.pointer e)->(Op.equal t (.pointer Option.none) (.pointer Option.none)).run P w= .ok true w:=λe ht=>qXi w 9999 t e ht;split at hp
    · rename_i ht;cases hp;refine⟨.bool true,?_,jL _ rfl⟩;show((do pure (.bool (<-Op.equal t (.pointer Option.none) (.pointer Option.none)))):Sem Value).run P w=_;simp only[Sem.run_bind,he _ ht,Result.andThen_ok,Sem.run_pure]
    · rename_i ht;cases hp;refine⟨.bool false,?_,jL _ rfl⟩;show((do pure (.bool (!(<-Op.equal t (.pointer Option.none) (.pointer Option.none))))):Sem Value).run P w=_;simp only[Sem.run_bind,he _ ht,Result.andThen_ok,Sem.run_pure];rfl
    · cases hp
  · cases hp
def V1.cells :V1->List C
 | .one c=>[c]
 | .agg cs=>cs
theorem qXt {v:Value} (h:v.oneCell'=true):v.cells= #[v]:=by
 cases v<;>first|rfl|cases h
theorem qH2 {w:World} {M:Mem} {x:V1} {v:Value} (h:zC w M x v):yQ w M x.cells v.cells:=by
 cases x with
 |one c=>
  rw[qXt (CRep.cell h)];refine⟨rfl,λj hj=>?_⟩;have:j=0:=by simp[V1.cells] at hj;omega
  subst this;exact h
 |agg cs=>obtain⟨vs,rfl,hr⟩:=h;exact hr
def JH (cs:List C) (off:Nat) (xs:List C):List C:=cs.take off++xs++cs.drop (off+xs.length)
theorem qV8 (vs:List Value):∀(off m:Nat) (arr:Array Value),(List.foldl (fun(cs:Array Value) (p:Value×Nat)=>cs.setIfInBounds (off+p.2) p.1) arr (vs.zipIdx m)).size=arr.size/\
  ∀j,off+m+vs.length<=arr.size->(List.foldl (fun(cs:Array Value) (p:Value×Nat)=>cs.setIfInBounds (off+p.2) p.1) arr (vs.zipIdx m)).getD j undef=if off+m<=j/\j<off+m+vs.length then vs.getD (j-(off+m)) undef else arr.getD j undef:=by
 induction vs with
 |nil=>intro off m arr;exact⟨rfl,λj _=>by rw[if_neg (by simp)];rfl⟩
 |cons v vs ih=>
  intro off m arr;simp only[List.zipIdx_cons,uR];obtain⟨h1,h2⟩:=ih off (m+1) (arr.setIfInBounds (off+m) v);refine⟨by rw[h1];simp,λj hj=>?_⟩;simp only[ue] at hj⊢;rw[h2 j (by simp;omega)];by_cases hc:off+(m+1)<=j/\j<off+(m+1)+vs.length
  ·rw[if_pos hc,if_pos (by omega)];have:j-(off+m)=(j-(off+(m+1)))+1:=by omega
   rw[this,gX]
  ·rw[if_neg hc];by_cases he:j=off+m
   ·subst he;rw[if_pos (by omega)];have:off+m<arr.size:=by omega
    simp[this]
   ·rw[if_neg (by omega)];simp only[kw];rw[dA (by omega)]
theorem qVl {w:World} {M:Mem} {cs xs:List C} {arr:Array Value} {vs:Array Value} {off:Nat} (hc:yQ w M cs arr) (hx:yQ w M xs vs) (hb:off+xs.length<=cs.length):
  yQ w M (JH cs off xs) (vs.zipIdx.foldl (λcs p=>cs.setIfInBounds (off+p.2) p.1) arr):=by
 have he:vs.zipIdx.foldl (fun(cs:Array Value) p=>cs.setIfInBounds (off+p.2) p.1) arr=List.foldl (fun(cs:Array Value) (p:Value×Nat)=>cs.setIfInBounds (off+p.2) p.1) arr (vs.toList.zipIdx 0):=by
  rw[<-Array.foldl_toList,Array.toList_zipIdx]
 rw[he];obtain⟨h1,h2⟩:=qV8 vs.toList off 0 arr;have hcs:=hc.1;have hxs:=hx.1;have hvl:vs.toList.length=xs.length:=by simpa using hxs
 refine⟨by rw[h1];simp[JH];omega,λj hj=>?_⟩;have hj':j<cs.length:=by simp[JH] at hj;omega
 rw[h2 j (by omega)];unfold JH;simp only[ug,hvl];by_cases h:off<=j/\j<off+xs.length
 ·rw[if_pos h];have:=hx.2 (j-off) (by omega);simp only[ki,kw] at this⊢;rw[kR,kH (by simp;omega),kL (by simp;omega)];simp only[ur,gu (show off<=cs.length by omega),dq];exact this
 ·rw[if_neg h];have:=hc.2 j hj';simp only[ki,kw] at this⊢;by_cases hlt:j<off
  ·rw[kR,kL (by simp;omega),uh,if_pos hlt];exact this
  ·rw[kH (by simp;omega),gk];simp only[ub,ur,gu (show off<=cs.length by omega)];rw[show off+xs.length+(j-(off+xs.length))=j by omega];exact this
def qEk (place:Nat->Option (Nat×Nat)) (cells:List C):List (Nat×V1)->Option (List C)
 |[]=>some cells
 |(i,x)::rest=>
  match place i with
  |none=>none
  |some (off,size)=>bif Nat.beq x.cells.length size&&Nat.ble (off+x.cells.length) cells.length then qEk place (JH cells off x.cells) rest else none
theorem qFj {w:World} {M:Mem} {place:Nat->Option (Nat×Nat)}:∀(ps:List (Nat×V1)) (qs:List (Nat×Value)) (cs:List C) (arr:Array Value) (out:List C),yQ w M cs arr->
  (ps.length=qs.length/\∀j,j<ps.length->(ps.getD j (0,.one .unk)).1=(qs.getD j (0,undef)).1/\zC w M (ps.getD j (0,.one .unk)).2 (qs.getD j (0,undef)).2)->qEk place cs ps=some out->
  ∃arr',Instr.fill place arr qs=some arr'/\yQ w M out arr'
 |[],[],cs,arr,out,hc,_,h=>by cases h;exact⟨arr,rfl,hc⟩
 |[],q::qs,_,_,_,_,hp,_=>by simp at hp
 |p::ps,[],_,_,_,_,hp,_=>by simp at hp
 |(i,x)::ps,(i',v)::qs,cs,arr,out,hc,hp,h=>by
  have h0:=hp.2 0 (by simp);simp only[un] at h0;obtain⟨hi,hx⟩:=h0;subst hi;simp only[qEk] at h;simp only[Instr.fill];split at h
  ·cases h
  ·rename_i off size hpl;rw[hpl];simp only;cases hb:Nat.beq x.cells.length size&&Nat.ble (off+x.cells.length) cs.length with
   |false=>rw[hb] at h;cases h
   |true=>
    rw[hb] at h;simp only[kp] at h;simp only[kv] at hb;have h1:=ku hb.1;have h2:=kW hb.2;have hxc:=qH2 hx;have hs1:=hxc.1;have hs2:=hc.1;rw[if_neg (by simp;omega)];exact qFj ps qs _ _ out (qVl hc hxc h2) ⟨by simpa using hp.1,λj hj=>by simpa using hp.2 (j+1) (by simp;omega)⟩ h
def szOf (P:Program) (t:TypeId):Nat:=match P.info? t with|some i=>i.size|none=>0
def AP (P:Program) (t:TypeId):Option (List C):=
 match P.info? t with
 |some i=>match i.zero with|some z=>bif z.cells.toList.all Value.oneCell' then some (z.cells.toList.map qJD) else none|none=>none
 |none=>none
theorem qA9 {P:Program} {t:TypeId} {cs:List C} (h:AP P t=some cs) (w:World) (M:Mem):∃z,(zeroValue t).run P w= .ok z w/\yQ w M cs z.cells:=by
 unfold AP at h;split at h
 ·rename_i i hi;split at h
  ·rename_i z hz;cases hb:z.cells.toList.all Value.oneCell' with
   |false=>rw[hb] at h;cases h
   |true=>
    rw[hb] at h;cases h;refine⟨z,by simp[zeroValue,typeInfo,hi,hz],by simp,λj hj=>?_⟩;have hj':j<z.cells.toList.length:=by simpa using hj
    have:=constC_rep (w:=w) (M:=M) (kB.1 hb _ (uJ hj'));simpa[ki,kI,ks hj',kw,kE (show j<z.cells.size by simpa using hj')] using this
  ·cases h
 ·cases h
theorem qHt {P:Program} (w:World):∀(l:List Field),l.all (λf=>(P.info? f.type).isSome)=true->(l.mapM λf=>do pure (f.offset,<-sizeOf f.type):Sem (List (Nat×Nat))).run P w= .ok (l.map λf=>(f.offset,szOf P f.type)) w
 |[],_=>rfl
 |f::l,h=>by
  simp only[List.all_cons,kv,uB] at h;obtain⟨⟨i,hi⟩,h2⟩:=h;rw[List.mapM_cons];simp only[Sem.run_bind,wK hi,Result.andThen_ok,Sem.run_pure,qHt w l h2,ut,szOf,hi]
def qMB (P:Program) (t:TypeId) (parts:List (Nat×V1)):Option (V×Prop):=
 match P.underlying t,AP P t with
 | some (.struct fs),some z=>bif fs.toList.all (λf=>(P.info? f.type).isSome) then
   (qEk (λi=>(fs.toList.map λf=>(f.offset,szOf P f.type))[i]?) z parts).map λcs=>(.v (.agg cs),True) else none
 |some (.array _ e),some z=>match P.info? e with|some i=>(qEk (λj=>some (j*i.size,i.size)) z parts).map λcs=>(.v (.agg cs),True)|none=>none
 |_,_=>none
def qSo (w:World) (M:Mem) (ps:List (Nat×V1)) (qs:List (Nat×Value)):Prop:=
 ps.length=qs.length/\∀j,j<ps.length->(ps.getD j (0,.one .unk)).1=(qs.getD j (0,undef)).1/\zC w M (ps.getD j (0,.one .unk)).2 (qs.getD j (0,undef)).2
theorem qUZ {P:Program} {w:World} {M:Mem} {t:TypeId} {ps:List (Nat×V1)} {qs:Array (Nat×Value)} (hps:qSo w M ps qs.toList) {y:V} {ob:Prop} (hp:qMB P t ps=some (y,ob)):
  ∃r,(Instr.build t qs).run P w= .ok r w/\VRep w M y r:=by
 unfold qMB at hp;split at hp
 ·rename_i fs z ht hz;cases hb:fs.toList.all (λf=>(P.info? f.type).isSome) with
  |false=>rw[hb] at hp;cases hp
  |true=>
   rw[hb] at hp;simp only[kp] at hp;cases hf:qEk (λi=>(fs.toList.map λf=>(f.offset,szOf P f.type))[i]?) z ps with
   |none=>rw[hf] at hp;cases hp
   |some cs=>
    rw[hf] at hp;cases hp;obtain⟨zv,hzr,hzc⟩:=qA9 hz w M;obtain⟨arr',hfill,hout⟩:=qFj ps qs.toList z zv.cells cs hzc hps hf;refine⟨.agg arr',?_,arr',rfl,hout⟩;have hm:(fs.mapM λf=>do pure (f.offset,<-sizeOf f.type):Sem (Array (Nat×Nat))).run P w= .ok (fs.toList.map λf=>(f.offset,szOf P f.type)).toArray w:=by
     rw[Array.mapM_eq_mapM_toList,Sem.run_map,qHt w _ hb];rfl
    have hfun:(λx:Nat=>(fs.toList.map λf=>(f.offset,szOf P f.type)).toArray[x]?)=λi=>(fs.toList.map λf=>(f.offset,szOf P f.type))[i]? :=by
     funext i;exact dJ
    simp only[Instr.build,Sem.run_bind,hzr,Result.andThen_ok,run_underlying ht,hm,hfun,hfill,Sem.run_pure]
 ·rename_i n e z ht hz;split at hp
  ·rename_i i hi;cases hf:qEk (λj=>some (j*i.size,i.size)) z ps with
   |none=>rw[hf] at hp;cases hp
   |some cs=>
    rw[hf] at hp;cases hp;obtain⟨zv,hzr,hzc⟩:=qA9 hz w M;obtain⟨arr',hfill,hout⟩:=qFj ps qs.toList z zv.cells cs hzc hps hf;refine⟨.agg arr',?_,arr',rfl,hout⟩;simp only[Instr.build,Sem.run_bind,hzr,Result.andThen_ok,run_underlying ht,wK hi,hfill,Sem.run_pure]
  ·cases hp
 ·cases hp
def lenV (P:Program) (t:TypeId) (x:V1):Option (V×Prop):=
 match P.underlying t,x with
 |some (.slice _),.one (.lst n _)=>some (.v (.one (.val (.int .i64 n))),True)
 |some (.slice _),.one (.own _ _ _ n)=>some (.v (.one (.val (.int .i64 n))),True)
 |some (.slice _),.one .emp=>some (.v (.one (.val (.int .i64 0))),True)
 |some .string,.one (.val (.string b))=>some (.v (.one (.val (.int .i64 b.size))),True)
 |some (.array n _),_=>some (.v (.one (.val (.int .i64 n))),True)
 |_,_=>none
theorem qYB {P:Program} {w:World} {M:Mem} {t ty:TypeId} {x:V1} {v:Value} (hv:zC w M x v) {y:V} {ob:Prop} (hp:lenV P t x=some (y,ob)):
  ∃r,(Builtin.len_ #[t] ty #[v]).run P w= .ok r w/\VRep w M y r:=by
 unfold lenV at hp;split at hp
 ·rename_i e n f ht;cases hp;refine⟨.int .i64 n,?_,jL _ rfl⟩;cases hv<;>simp[Builtin.len_,run_underlying ht,goInt]
 ·rename_i e id k sz n ht;cases hp;refine⟨.int .i64 n,?_,jL _ rfl⟩;rcases hv with⟨h0,a,rfl⟩|⟨b,cap,rfl,_⟩<;>simp[Builtin.len_,run_underlying ht,goInt]
  omega
 ·rename_i e ht;cases hp;refine⟨.int .i64 0,?_,jL _ rfl⟩;cases hv;simp[Builtin.len_,run_underlying ht,goInt]
 ·rename_i b ht;cases hp;refine⟨.int .i64 b.size,?_,jL _ rfl⟩;rw[v1_val hv];simp[Builtin.len_,run_underlying ht,goInt]
 ·rename_i n e ht;cases hp;refine⟨.int .i64 n,?_,jL _ rfl⟩;simp[Builtin.len_,run_underlying ht,goInt]
 ·cases hp
def mm1 (mx:Bool):Option V1->V1->Option V1
 |some (.one (.val (.int k a))),.one (.val (.int _ b))=>some (.one (.val (.int k (bif mx then(if b>a then b else a) else(if b<a then b else a)))))
 |_,_=>none
def mmV (mx:Bool):List V1->Option V1
 | .one (.val (.int k a))::rest=>rest.foldl (mm1 mx) (some (.one (.val (.int k a))))
 |_=>none
theorem qUj (mx:Bool):∀l:List V1,List.foldl (mm1 mx) none l=none
 |[]=>rfl
 |_::l=>qUj mx l
theorem qUD {P:Program} {w:World} {M:Mem} (mx:Bool):∀(xs:List V1) (vs:List Value) (x:V1) (v:Value) (z:V1),xs.length=vs.length->(∀j,j<xs.length->zC w M (xs.getD j (.one .unk)) (vs.getD j undef))->zC w M x v->
  xs.foldl (mm1 mx) (some x)=some z->∃r,(vs.foldlM (bif mx then Builtin.max2 else Builtin.min2) v:Sem Value).run P w= .ok r w/\zC w M z r
 |[],[],x,v,z,_,_,hx,h=>by cases h;exact⟨v,rfl,hx⟩
 |[],v::vs,_,_,_,hl,_,_,_=>by simp at hl
 |x::xs,[],_,_,_,hl,_,_,_=>by simp at hl
 |y::xs,u::vs,x,v,z,hl,hr,hx,h=>by
  have h0:=hr 0 (by simp);simp only[un] at h0;simp only[uR] at h;unfold mm1 at h;split at h
  ·rename_i k a kk b heq;cases heq;have e1:=v1_val hx;have e2:=v1_val h0;subst e1 e2;obtain⟨r,hr1,hr2⟩:=qUD (P:=P) mx xs vs _ _ z (by simpa using hl) (λj hj=>by simpa using hr (j+1) (by simp;omega)) (jL (.int k (bif mx then(if b>a then b else a) else(if b<a then b else a))) rfl) h;refine⟨r,?_,hr2⟩;simp only[List.foldlM_cons,Sem.run_bind];cases mx<;>simpa[Builtin.max2,Builtin.min2] using hr1
  ·have:=qUj mx xs;unfold mm1 at this;rw[this] at h;cases h
theorem qT5 {P:Program} {w:World} {M:Mem} {mx:Bool} {ats:Array TypeId} {ty:TypeId} {xs:List V1} {vs:Array Value} (hl:xs.length=vs.size) (hr:∀j,j<xs.length->zC w M (xs.getD j (.one .unk)) (vs.getD j undef)) {z:V1} (h:mmV mx xs=some z):
  ∃r,(bif mx then Builtin.max_ ats ty vs else Builtin.min_ ats ty vs).run P w= .ok r w/\zC w M z r:=by
 obtain⟨vs⟩:=vs;unfold mmV at h;split at h
 ·rename_i k a rest
  match vs,hl with
  |u::vs,hl=>
   have h0:=hr 0 (by simp);simp only[un] at h0;have h0':zC w M (.one (.val (.int k a))) u:=by simpa using h0
   obtain⟨r,h1,h2⟩:=qUD (P:=P) mx rest vs _ u z (by simpa using hl) (λj hj=>by
    have:=hr (j+1) (by simp;omega);simpa[kw,ki] using this) h0' h
   refine⟨r,?_,h2⟩;cases mx<;>simpa[Builtin.max_,Builtin.min_] using h1
 ·cases h
def unV (op:UnOp) (x:V1):Option (V×Prop):=
 match op,x with
 | .not,.one (.val (.bool b))=>some (.v (.one (.val (.bool !b))),True)
 | .neg,.one (.val (.int k n))=>some (.v (.one (.val (.int k (k.wrap (0-n))))),True)
 | .xor,.one (.val (.int k n))=>some (.v (.one (.val (.int k (notI k n)))),True)
 |_,_=>none
theorem unV_rep {P:Program} {w:World} {M:Mem} {op:UnOp} {x:V1} {v:Value} (hv:zC w M x v) {y:V} {ob:Prop} (hp:unV op x=some (y,ob)):∃r,(Op.unary op v).run P w= .ok r w/\VRep w M y r:=by
 unfold unV at hp;split at hp
 ·cases hp;rw[v1_val hv];exact⟨_,rfl,jL _ rfl⟩
 ·cases hp;rw[v1_val hv];exact⟨_,rfl,jL _ rfl⟩
 ·cases hp;rw[v1_val hv];exact⟨_,rfl,jL _ rfl⟩
 ·cases hp
def u8Of :List C->Int
 |[.val (.int _ z)]=>z
 |_=>0
def qGJ (n:Nat) (f:Nat->List C):ByteArray:=((List.range n).map λj=>u8Of (f j)).foldl (λr z=>r.push (UInt8.ofNat z.toNat)) ByteArray.empty
def qQH (P:Program) (src dst:TypeId) (x:V1):Option (V×Prop):=
 match P.underlying src,P.underlying dst,x with
 |some _,some (.int k),.one (.val (.int _ n))=>some (.v (.one (.val (.int k (k.wrap n)))),True)
 |some (.slice e),some .string,.one (.lst n f)=>(match P.underlying e with|some (.int .u8)=>some (.v (.one (.val (.string (qGJ n f)))),∀j,j<n->∃z,f j=[.val (.int .u8 z)])|_=>none)
 |some (.slice e),some .string,.one .emp=>(match P.underlying e with|some (.int .u8)=>some (.v (.one (.val (.string (qGJ 0 λ_=>[])))),True)|_=>none)
 |_,_,_=>none
theorem bts_rep {P:Program} {w:World} {ok:Nat->Prop} {n:Nat} {f:Nat->List C} {v:Value} (h:IRep w ok (.lst n f) v) (hu:∀j,j<n->∃z,f j=[.val (.int .u8 z)]):(Conv.bytesToString v).run P w= .ok (.string (qGJ n f)) w:=by
 cases h with
 |lst0 a=>
  cases a with
  |none=>rfl
  |some a=>
   rw[run_bytesToString w a 0 0 [] (by rw[run_loadCells w a 0 (λ_=>Value.bool false) (λj hj=>by omega)];rfl)];rfl
 |lst b o n cap sz f g hn hm hl hb hc hr=>
  rw[run_bytesToString w ⟨b,o,none⟩ n cap ((List.range n).map λj=>u8Of (f j))]
  ·rfl
  ·rw[run_loadCells w ⟨b,o,none⟩ n (λj=> .int .u8 (u8Of (f j))) (λj hj=>?_)]
   ·simp[du,Function.comp_def]
   ·obtain⟨z,hz⟩:=hu j hj;have hsz:sz=1:=by rw[<-hl j hj,hz];rfl
    subst hsz;have h1:=hc j 0 hj (by omega);have h2:=hr j 0 hj (by omega);rw[hz] at h2;have h3:=IRep.val_eq h2;rw[hz];simp only[Nat.mul_one,ug] at h1;have e:(⟨b,o,none⟩:Addr).add j=⟨b,o+j,none⟩:=by simp[Addr.add]
    rw[e,h1,h3];rfl
theorem qWP {P:Program} {w:World} {M:Mem} {src dst:TypeId} {x:V1} {v:Value} (hv:zC w M x v) {y:V} {ob:Prop} (hp:qQH P src dst x=some (y,ob)) (hob:ob):∃r,(convert src dst v).run P w= .ok r w/\VRep w M y r:=by
 unfold qQH at hp;split at hp
 ·rename_i d k kk n hs hd;cases hp;rw[v1_val hv];refine⟨.int k (k.wrap n),?_,jL _ rfl⟩;simp only[convert,Sem.run_bind,run_underlying hs,run_underlying hd,Result.andThen_ok];cases d<;>rfl
 ·rename_i e n f hs hd;split at hp
  ·rename_i he;cases hp;have hi:IRep w M.imm (.lst n f) v:=hv;have hb:=bts_rep (P:=P) hi hob;refine⟨_,?_,jL _ rfl⟩;simp only[convert,Sem.run_bind,run_underlying hs,run_underlying hd,Result.andThen_ok];cases hi<;>simp only[run_underlying he,Sem.run_bind,Result.andThen_ok]<;>exact hb
  ·cases hp
 ·rename_i e hs hd;split at hp
  ·rename_i he;cases hp;have hi:IRep w M.imm .emp v:=hv;refine⟨.string (qGJ 0 λ_=>[]),?_,jL _ rfl⟩;simp only[convert,Sem.run_bind,run_underlying hs,run_underlying hd,Result.andThen_ok];cases hi with
   |emp a=>
    simp only[run_underlying he,Sem.run_bind,Result.andThen_ok];cases a with
    |none=>rfl
    |some a=>
     rw[run_bytesToString w a 0 0 [] (by rw[run_loadCells w a 0 (λ_=>Value.bool false) (λj hj=>by omega)];rfl)];rfl
  ·cases hp
 ·cases hp
def qKi (P:Program) (st:St) (src dst:TypeId) (x:V1):Option (V×Prop):=
 match P.underlying src,P.underlying dst,x with
 |some (.slice e),some .string,.one (.own id k 1 n)=>(match P.underlying e,look id st.objs with
  |some (.int .u8),some (k',.row _ 1 m f)=>bif Nat.beq k k' then some (.v (.one (.val (.string (qGJ n f)))),n<=m/\∀j,j<n->∃z,f j=[.val (.int .u8 z)]) else none
  |_,_=>none)
 |_,_,_=>none
theorem qTD {K:Ctx} {M:Mem} {st:St} {a:Act} {w:World} (h:Sim K M st a w) {src dst:TypeId} {x:V1} {v:Value} (hv:zC w M x v) {y:V} {ob:Prop} (hp:qKi K.P st src dst x=some (y,ob)) (hob:ob):∃r,(convert src dst v).run K.P w= .ok r w/\VRep w M y r:=by
 unfold qKi at hp;split at hp
 ·rename_i e id k n hs hd;split at hp
  ·rename_i k' t m f he hl;cases hk:Nat.beq k k' with
   |false=>rw[hk] at hp;cases hp
   |true=>
    rw[hk] at hp;cases hp;have hkk:=ku hk;subst hkk;refine⟨_,?_,jL _ rfl⟩;simp only[convert,Sem.run_bind,run_underlying hs,run_underlying hd,Result.andThen_ok];have hc:CRep w M (.own id k 1 n) v:=hv;rcases hc with⟨rfl,q,rfl⟩|⟨b,cap,rfl,h1,h2,h3⟩
    ·simp only[run_underlying he,Sem.run_bind,Result.andThen_ok];cases q with
     |none=>rfl
     |some q=>
      rw[run_bytesToString w q 0 0 [] (by rw[run_loadCells w q 0 (λ_=>Value.bool false) (λj hj=>by omega)];rfl)];rfl
    ·simp only[run_underlying he,Sem.run_bind,Result.andThen_ok];obtain⟨hver,hrow⟩:=h.objs id k _ hl;obtain⟨hb,_⟩:=h3 hver;rw[run_bytesToString w ⟨b,0,none⟩ n cap ((List.range n).map λj=>u8Of (f j))]
     ·rfl
     ·rw[run_loadCells w ⟨b,0,none⟩ n (λj=> .int .u8 (u8Of (f j))) (λj hj=>?_)]
      ·simp[du,Function.comp_def]
      ·rcases hrow with⟨_,h0⟩|⟨b',arr,hb',hh,hsz,hc⟩
       ·omega
       ·rw[hb] at hb';cases hb';obtain⟨z,hz⟩:=hob.2 j hj;have h4:=(hc j (by omega)).2 0 (by omega);rw[hz] at h4;have h5:=IRep.val_eq h4;have e:(⟨b,0,none⟩:Addr).add j=⟨b,0+j,none⟩:=by unfold Addr.add;split<;>simp_all
        rw[e,hz,kz,cell_of_row' hh (by omega)];simp only[Nat.mul_one,ug] at h5;rw[h5];rfl
  ·cases hp
 ·cases hp
def qRl (P:Program) (t:TypeId) (x:V1) (lo hi mx:Option V1):Option (V×Prop):=
 match P.underlying t with
 |some (.slice e)=>bif (P.info? e).isSome then
  match x,lo,hi,mx with
  | .one (.own id k sz len),none,some (.one (.val (.int _ h))),none=>some (.v (.one (.own id k sz h.toNat)),0<=h/\h<=(len:Int))
  | .one (.lst _ _),none,some (.one (.val (.int _ h))),some (.one (.val (.int _ m)))=>bif decide (h=0)&&decide (m=0) then some (.v (.one .emp),True) else none
  | .one .emp,none,some (.one (.val (.int _ h))),some (.one (.val (.int _ m)))=>bif decide (h=0)&&decide (m=0) then some (.v (.one .emp),True) else none
  | .one (.own _ _ _ _),none,some (.one (.val (.int _ h))),some (.one (.val (.int _ m)))=>bif decide (h=0)&&decide (m=0) then some (.v (.one .emp),True) else none
  | .one (.lst n f),none,some (.one (.val (.int _ h))),none=>bif Nat.beq (f 0).length (szOf P e) then some (.v (.one (.lst (h.toNat-0) λi=>f (0+i))),0<=h/\h<=(n:Int)) else none
  | .one (.lst n f),some (.one (.val (.int _ l))),none,none=>bif Nat.beq (f 0).length (szOf P e) then some (.v (.one (.lst (n-l.toNat) λi=>f (l.toNat+i))),0<=l/\l<=(n:Int)) else none
  | .one (.lst n f),some (.one (.val (.int _ l))),some (.one (.val (.int _ h))),none=>bif Nat.beq (f 0).length (szOf P e) then some (.v (.one (.lst (h.toNat-l.toNat) λi=>f (l.toNat+i))),0<=l/\l<=h/\h<=(n:Int)) else none
  |_,_,_,_=>none
  else none
 |_=>none
theorem qH7 {P:Program} {e:TypeId} (h:(P.info? e).isSome=true) (w:World):(sizeOf e).run P w= .ok (szOf P e) w:=by
 obtain⟨i,hi⟩:=uB.1 h;rw[wK hi];simp[szOf,hi]
theorem qKZ {w:World} {ok:Nat->Prop} {n:Nat} {f:Nat->List C} {v:Value} (h:IRep w ok (.lst n f) v) {sz l h':Nat} (hsz:(f 0).length=sz) (hlh:l<=h') (hn:h'<=n):
  ∃a len cap,v= .slice a len cap/\len=n/\len<=cap/\IRep w ok (.lst (h'-l) λi=>f (l+i)) (.slice (if cap=l then a else a.map (·.add (l*sz))) (h'-l) (cap-l)):=by
 cases h with
 |lst0 a f=>
  refine⟨a,0,0,rfl,rfl,kq _,?_⟩;have:h'-l=0:=by omega
  rw[this,Nat.zero_sub];exact .lst0 _ _
 |lst b o n cap sz' f g hnc hm hl hb hc hr=>
  refine⟨_,n,cap,rfl,rfl,hnc,?_⟩;by_cases hc0:cap=l
  ·have:h'-l=0:=by omega
   rw[this,hc0,dH];exact .lst0 _ _
  ·rw[if_neg hc0];simp only[kZ,Addr.add_lit];by_cases hz:h'-l=0
   ·rw[hz];exact .lst b _ 0 _ 0 _ (λ_ _=>undef) (ud _) (by omega) (λi hi=>by omega) (λi j hi=>by omega) (λi j hi=>by omega) (λi j hi=>by omega)
   ·have hss:sz'=sz:=by rw[<-hsz,hl 0 (by omega)]
    subst hss;refine .lst b _ _ _ sz' _ (λi j=>g (l+i) j) (by omega) (by omega) (λi hi=>hl _ (by omega)) (λi j hi hj=>hb (l+i) j (by omega) hj) (λi j hi hj=>?_) (λi j hi hj=>hr (l+i) j (by omega) hj);have:=hc (l+i) j (by omega) hj;rw[<-this]
    congr 2
    rw[uo];omega
theorem wB {P:Program} {w:World} {k:IntKind} {z:Int} {y:Nat} {code:BoundsCode} (h0:0<=z) (h1:z<=y):(Instr.sliceBound (.int k z) y code).run P w= .ok z.toNat w:=by
 simp[Instr.sliceBound,asIntOf,h0,h1]
theorem qVt {P:Program} {w:World} {M:Mem} {t:TypeId} {x:V1} {v:Value} {lo hi mx:Option V1} {lo' hi' mx':Option Value} (hv:zC w M x v)
  (hlo:∀y,lo=some y->∃u,lo'=some u/\zC w M y u) (hlo0:lo=none->lo'=none) (hhi:∀y,hi=some y->∃u,hi'=some u/\zC w M y u) (hhi0:hi=none->hi'=none)
  (hmx:∀y,mx=some y->∃u,mx'=some u/\zC w M y u) (hmx0:mx=none->mx'=none) {y:V} {ob:Prop} (hp:qRl P t x lo hi mx=some (y,ob)) (hob:ob):
  ∃r,(Instr.sliceAt t v lo' hi' mx').run P w= .ok r w/\VRep w M y r:=by
 unfold qRl at hp;split at hp
 ·rename_i e ht;cases hinf:(P.info? e).isSome with
  |false=>rw[hinf] at hp;cases hp
  |true=>
   rw[hinf] at hp;simp only[kp] at hp;have hsz:=qH7 hinf w;split at hp
   ·rename_i id k sz len kk h;cases hp;obtain⟨u,rfl,hu⟩:=hhi _ rfl;rw[hlo0 rfl,hmx0 rfl,v1_val hu];rcases hv with⟨h0,a,rfl⟩|⟨b,cap,rfl,h1,h2,hx⟩
    ·have hh:h=0:=by omega
     subst hh;refine⟨.slice a 0 0,?_,.inl ⟨rfl,_,rfl⟩⟩;simp[Instr.sliceAt,run_underlying ht,Instr.slice,Instr.sliceBounds,wB,hsz]
    ·refine⟨.slice (some ⟨b,0,none⟩) h.toNat cap,?_,.inr ⟨b,cap,rfl,by omega,h2,hx⟩⟩;have hb:=wB (P:=P) (w:=w) (k:=kk) (z:=h) (y:=cap) (code:= .sliceAcap) hob.1 (by omega);simp[Instr.sliceAt,run_underlying ht,Instr.slice,Instr.sliceBounds,hb,hsz,Addr.add_lit]
   ·rename_i kh h km m;cases hz:decide (h=0)&&decide (m=0) with
    |false=>rw[hz] at hp;cases hp
    |true=>
    rw[hz] at hp;rw[kv,decide_eq_true_eq,decide_eq_true_eq] at hz;obtain⟨rfl,rfl⟩:=hz;cases hp;obtain⟨u,rfl,hu⟩:=hhi _ rfl;obtain⟨u',rfl,hu'⟩:=hmx _ rfl;rw[hlo0 rfl,v1_val hu,v1_val hu'];cases hv with
    |lst0 a f=>
     refine⟨.slice a 0 0,?_,.emp _⟩;simp[Instr.sliceAt,run_underlying ht,Instr.slice,Instr.sliceBounds,wB,hsz]
    |lst b o n cap sz' f g hnc hm hl hb hc hr=>
     refine⟨.slice (some ⟨b,o,none⟩) 0 0,?_,.emp _⟩;simp[Instr.sliceAt,run_underlying ht,Instr.slice,Instr.sliceBounds,wB,hsz]
   ·rename_i kh h km m;cases hz:decide (h=0)&&decide (m=0) with
    |false=>rw[hz] at hp;cases hp
    |true=>
    rw[hz] at hp;rw[kv,decide_eq_true_eq,decide_eq_true_eq] at hz;obtain⟨rfl,rfl⟩:=hz;cases hp;obtain⟨u,rfl,hu⟩:=hhi _ rfl;obtain⟨u',rfl,hu'⟩:=hmx _ rfl;rw[hlo0 rfl,v1_val hu,v1_val hu'];cases hv with
    |emp a=>
     refine⟨.slice a 0 0,?_,.emp _⟩;simp[Instr.sliceAt,run_underlying ht,Instr.slice,Instr.sliceBounds,wB,hsz]
   ·rename_i kh h km m;cases hz:decide (h=0)&&decide (m=0) with
    |false=>rw[hz] at hp;cases hp
    |true=>
    rw[hz] at hp;rw[kv,decide_eq_true_eq,decide_eq_true_eq] at hz;obtain⟨rfl,rfl⟩:=hz;cases hp;obtain⟨u,rfl,hu⟩:=hhi _ rfl;obtain⟨u',rfl,hu'⟩:=hmx _ rfl;rw[hlo0 rfl,v1_val hu,v1_val hu'];rcases hv with⟨h0,a,rfl⟩|⟨b,cap,rfl,h1,h2,hx⟩
    ·refine⟨.slice a 0 0,?_,.emp _⟩;simp[Instr.sliceAt,run_underlying ht,Instr.slice,Instr.sliceBounds,wB,hsz]
    ·refine⟨.slice (some ⟨b,0,none⟩) 0 0,?_,.emp _⟩;simp[Instr.sliceAt,run_underlying ht,Instr.slice,Instr.sliceBounds,wB,hsz]
   ·rename_i n f kk h;cases hb:Nat.beq (f 0).length (szOf P e) with
    |false=>rw[hb] at hp;cases hp
    |true=>
     rw[hb] at hp;cases hp;obtain⟨u,rfl,hu⟩:=hhi _ rfl;rw[hlo0 rfl,hmx0 rfl,v1_val hu];obtain⟨a,len,cap,rfl,hln,hlc,hr⟩:=qKZ hv (l:=0) (h':=h.toNat) (ku hb) (ud _) (by omega);subst hln;refine⟨_,?_,hr⟩;have hb1:=wB (P:=P) (w:=w) (k:=kk) (z:=h) (y:=cap) (code:= .sliceAcap) hob.1 (by omega);simp[Instr.sliceAt,run_underlying ht,Instr.slice,Instr.sliceBounds,hb1,hsz]
   ·rename_i n f kk l;cases hb:Nat.beq (f 0).length (szOf P e) with
    |false=>rw[hb] at hp;cases hp
    |true=>
     rw[hb] at hp;cases hp;obtain⟨u,rfl,hu⟩:=hlo _ rfl;rw[hhi0 rfl,hmx0 rfl,v1_val hu];obtain⟨a,len,cap,rfl,hln,hlc,hr⟩:=qKZ hv (l:=l.toNat) (h':=n) (ku hb) (by omega) (kq _);subst hln;refine⟨_,?_,hr⟩;have hb1:=wB (P:=P) (w:=w) (k:=kk) (z:=l) (y:=len) (code:= .sliceB) hob.1 (by omega);simp[Instr.sliceAt,run_underlying ht,Instr.slice,Instr.sliceBounds,hb1,hsz]
   ·rename_i n f kk l kk' h;cases hb:Nat.beq (f 0).length (szOf P e) with
    |false=>rw[hb] at hp;cases hp
    |true=>
     rw[hb] at hp;cases hp;obtain⟨u,rfl,hu⟩:=hlo _ rfl;obtain⟨u',rfl,hu'⟩:=hhi _ rfl;rw[hmx0 rfl,v1_val hu,v1_val hu'];obtain⟨a,len,cap,rfl,hln,hlc,hr⟩:=qKZ hv (l:=l.toNat) (h':=h.toNat) (ku hb) (by omega) (by omega);subst hln;refine⟨_,?_,hr⟩;have hb1:=wB (P:=P) (w:=w) (k:=kk') (z:=h) (y:=cap) (code:= .sliceAcap) (by omega) (by omega);have hb2:=wB (P:=P) (w:=w) (k:=kk) (z:=l) (y:=h.toNat) (code:= .sliceB) hob.1 (by omega);simp[Instr.sliceAt,run_underlying ht,Instr.slice,Instr.sliceBounds,hb1,hb2,hsz]
   ·cases hp
 ·cases hp
def qGa (gl:List (Nat×C)) (st:St):Option Operand->Option (Option V1)
 |none=>some none
 |some o=>match op1 gl st o with|some x=>some (some x)|none=>none
def opsV (gl:List (Nat×C)) (st:St):List Operand->Option (List V1)
 |[]=>some []
 |o::r=>match op1 gl st o,opsV gl st r with|some x,some xs=>some (x::xs)|_,_=>none
def qGI (gl:List (Nat×C)) (st:St):List (Nat×Operand)->Option (List (Nat×V1))
 |[]=>some []
 |(i,o)::r=>match op1 gl st o,qGI gl st r with|some x,some xs=>some ((i,x)::xs)|_,_=>none
def qGR :List C->Option (IntKind×List Int)
 |[.val (.int k a)]=>some (k,[a])
 | .val (.int k a)::r=>match qGR r with|some (k',l)=>if k=k' then some (k,a::l) else none|none=>none
 |_=>none
theorem qH1 {w:World} {M:Mem}:∀{cs:List C} {k:IntKind} {l:List Int},qGR cs=some (k,l)->l.length=cs.length/\∀j v,j<cs.length->CRep w M (cs.getD j .unk) v->v= .int k (l.getD j 0)
 |[],_,_,h=>by cases h
 |c::[],k,l,h=>by
  unfold qGR at h;split at h
  ·rename_i k' a heq;cases h;cases heq;refine⟨rfl,λj v hj hr=>?_⟩;have hj0:j=0:=by simp at hj;omega
   subst hj0;exact IRep.val_eq hr
  ·rename_i k' a r hne heq;cases heq;exact absurd rfl hne
  ·cases h
 |c::d::r,k,l,h=>by
  unfold qGR at h;split at h
  ·rename_i heq;cases heq
  ·rename_i k' a r' hne heq;cases heq;split at h
   ·rename_i k'' l'' h2;split at h
    ·rename_i hk;subst hk;cases h;obtain⟨i1,i2⟩:=qH1 (w:=w) (M:=M) h2;refine⟨by simpa using i1,λj v hj hr=>?_⟩;cases j with
     |zero=>exact IRep.val_eq hr
     |succ j=>simpa using i2 j v (by simpa using hj) (by simpa using hr)
    ·cases h
   ·cases h
  ·cases h
def pev (P:Program) (gl:List (Nat×C)) (st:St):Op->Option (V×Prop)
 | .move x| .assign x=>match opV gl st x with|some y=>some (y,True)|none=>none
 | .pick c a b=>match opB st c with|some t=>(match opV gl st (bif t then a else b) with|some y=>some (y,True)|none=>none)|none=>none
 | .binOp op t x y _=>match op1 gl st x,op1 gl st y with|some a,some b=>(match binV P op t a b with|some (z,ob)=>some (.v z,ob)|none=>none)|_,_=>none
 | .unOp op _ x=>match op1 gl st x with|some a=>unV op a|none=>none
 | .convert s d x=>match op1 gl st x with|some a=>(match qKi P st s d a with|some r=>some r|none=>qQH P s d a)|none=>none
 | .load t x=>match op1 gl st x with|some a=>qQV P st t a|none=>none
 | .fieldAddr s x f=>match op1 gl st x with|some a=>qMI P s a f|none=>none
 | .indexAddr t x i=>match op1 gl st x,op1 gl st i with|some a,some b=>qRc P t a b|_,_=>none
 | .field t x f=>match op1 gl st x,P.underlying t with
  |some (.agg cs),some (.struct fs)=>(match fs[f]? with|some fd=>(match qBD P fd.type cs fd.offset with|some y=>some (.v y,True)|none=>none)|none=>none)
  |_,_=>none
 | .index t x i=>match op1 gl st x,op1 gl st i,P.underlying t with
  |some (.agg cs),some (.one (.val (.int _ z))),some (.array len e)=>(match P.info? e,P.underlying e with
   |some ie,some (.int _)=>(match qGR cs with|some (k,l)=>bif Nat.beq ie.size 1&&Nat.beq cs.length len then some (.v (.one (.val (.int k (l.getD z.toNat 0)))),0<=z/\z<(len:Int)) else none|none=>none)
   |some ie,some (.struct _)=>(match qGR cs with
    |some (k,l)=>bif Nat.beq cs.length (len*ie.size) then some (.v (.agg ((List.range ie.size).map λj=> .val (.int k (l.getD (z.toNat*ie.size+j) 0)))),0<=z/\z<(len:Int)) else none
    |none=>(match qBD P e cs (z.toNat*ie.size) with|some y=>some (.v y,0<=z/\z<(len:Int))|none=>none))
   |some ie,some _=>(match qBD P e cs (z.toNat*ie.size) with|some y=>some (.v y,0<=z/\z<(len:Int))|none=>none)
   |_,_=>none)
  |some (.one (.val (.string s))),some (.one (.val (.int _ z))),some .string=>some (.v (.one (.val (.int .u8 (strAt s z.toNat)))),0<=z/\z<(s.size:Int))
  |_,_,_=>none
 | .build t parts=>match qGI gl st parts.toList with|some ps=>qMB P t ps|none=>none
 | .slice t x lo hi mx=>match op1 gl st x,qGa gl st lo,qGa gl st hi,qGa gl st mx with|some a,some l,some h,some m=>qRl P t a l h m|_,_,_,_=>none
 | .extract x i=>match opV gl st x with|some (.tup xs)=>(match xs[i]? with|some y=>some (.v y,True)|none=>none)|_=>none
 | .nilCheck x=>match op1 gl st x with
  |some (.one (.bptr id k j))=>some (.v (.one (.bptr id k j)),True)
  |some (.one (.rptr id k sz i j))=>some (.v (.one (.rptr id k sz i j)),True)
  |some (.one (.lptr cs))=>some (.v (.one (.lptr cs)),True)
  |some (.one (.aptr n sz f))=>some (.v (.one (.aptr n sz f)),True)
  |_=>none
 | .call {callee:= .builtin b,args,argTypes}=>match b,opsV gl st args.toList,argTypes.toList with
  | .len,some [x],[t]=>lenV P t x
  | .max,some xs,_=>(match mmV true xs with|some z=>some (.v z,True)|none=>none)
  | .min,some xs,_=>(match mmV false xs with|some z=>some (.v z,True)|none=>none)
  |_,_,_=>none
 |_=>none
section
variable {K :Ctx} {M:Mem} {st:St} {a:Act} {w:World}
theorem AI (h:Sim K M st a w):∀{os:List Operand} {xs:List V1},opsV K.globs st os=some xs->xs.length=os.length/\∀j,j<xs.length->zC w M (xs.getD j (.one .unk)) ((os.map a.eval).getD j undef)
 |[],_,ho=>by cases ho;exact⟨rfl,λj hj=>by simp at hj⟩
 |o::r,xs,ho=>by
  simp only[opsV] at ho;split at ho
  ·rename_i x ys hx hys;cases ho;obtain⟨h1,h2⟩:=AI h hys;refine⟨by simp[h1],λj hj=>?_⟩;cases j with
   |zero=>exact op1_rep h hx
   |succ j=>simpa using h2 j (by simpa using hj)
  ·cases ho
theorem qIl (h:Sim K M st a w):∀{os:List (Nat×Operand)} {xs:List (Nat×V1)},qGI K.globs st os=some xs->qSo w M xs (os.map λp=>(p.1,a.eval p.2))
 |[],_,ho=>by cases ho;exact⟨rfl,λj hj=>by simp at hj⟩
 |(i,o)::r,xs,ho=>by
  simp only[qGI] at ho;split at ho
  ·rename_i x ys hx hys;cases ho;obtain⟨h1,h2⟩:=qIl h hys;refine⟨by simpa using h1,λj hj=>?_⟩;cases j with
   |zero=>exact⟨rfl,op1_rep h hx⟩
   |succ j=>simpa using h2 j (by simpa using hj)
  ·cases ho
theorem XB (h:Sim K M st a w) {o:Option Operand} {x:Option V1} (ho:qGa K.globs st o=some x):(∀y,x=some y->∃u,o.map a.eval=some u/\zC w M y u)/\(x=none->o.map a.eval=none):=by
 cases o with
 |none=>cases ho;exact⟨λy hy=>(by cases hy),λ_=>rfl⟩
 |some o=>
  simp only[qGa] at ho;split at ho
  ·rename_i y hy;cases ho;exact⟨λz hz=>by cases hz;exact⟨_,rfl,op1_rep h hy⟩,λhn=>by cases hn⟩
  ·cases ho
theorem JT {P:Program} {w:World} {s:Sem Value} {r:Value} (h:s.run P w= .ok r w):(do pure (Next.value (<-s)):Sem Next).run P w= .ok (.value r) w:=by
 simp only[Sem.run_bind,h,Result.andThen_ok,Sem.run_pure]
theorem qF7 (h:Sim K M st a w) {o:Oper} {y:V} {ob:Prop} (hp:pev K.P K.globs st o.op=some (y,ob)) (hob:ob):∃v,(execOp a.eval o).run K.P w= .ok (.value v) w/\VRep w M y v:=by
 obtain⟨dst,op,type,pos,after,guard⟩:=o;simp only at hp;cases op with
 |move x=>
  simp only[pev] at hp;split at hp
  ·rename_i z hz;cases hp;exact⟨_,rfl,opV_rep h hz⟩
  ·cases hp
 |assign x=>
  simp only[pev] at hp;split at hp
  ·rename_i z hz;cases hp;exact⟨_,rfl,opV_rep h hz⟩
  ·cases hp
 |pick c x z=>
  simp only[pev] at hp;split at hp
  ·rename_i t ht;split at hp
   ·rename_i y' hy';cases hp;have hc:=qO7 h ht;refine⟨_,?_,opV_rep h hy'⟩;cases t<;>simp[execOp,hc,asBool]
   ·cases hp
  ·cases hp
 |binOp op t x z tz=>
  simp only[pev] at hp;split at hp
  ·rename_i x' z' hx hz;split at hp
   ·rename_i r ob' hb;cases hp;obtain⟨v,hv,hr⟩:=qXL (op1_rep h hx) (op1_rep h hz) hb hob x z;exact⟨v,JT hv,hr⟩
   ·cases hp
  ·cases hp
 |unOp op t x=>
  simp only[pev] at hp;split at hp
  ·rename_i x' hx;obtain⟨v,hv,hr⟩:=unV_rep (op1_rep h hx) hp;exact⟨v,JT hv,hr⟩
  ·cases hp
 |convert s d x=>
  simp only[pev] at hp;split at hp
  ·rename_i x' hx;split at hp
   ·rename_i r hr0;cases hp;obtain⟨v,hv,hr⟩:=qTD h (op1_rep h hx) hr0 hob;exact⟨v,JT hv,hr⟩
   ·obtain⟨v,hv,hr⟩:=qWP (op1_rep h hx) hp hob;exact⟨v,JT hv,hr⟩
  ·cases hp
 |load t x=>
  simp only[pev] at hp;split at hp
  ·rename_i x' hx;obtain⟨v,hv,hr⟩:=qXs h (op1_rep h hx) hp hob;exact⟨v,JT hv,hr⟩
  ·cases hp
 |fieldAddr s x f=>
  simp only[pev] at hp;split at hp
  ·rename_i x' hx;obtain⟨v,hv,hr⟩:=qVs (op1_rep h hx) hp;exact⟨v,JT hv,hr⟩
  ·cases hp
 |indexAddr t x i=>
  simp only[pev] at hp;split at hp
  ·rename_i x' i' hx hi;obtain⟨v,hv,hr⟩:=qVE (op1_rep h hx) (op1_rep h hi) hp hob;exact⟨v,JT hv,hr⟩
  ·cases hp
 |field t x f=>
  simp only[pev] at hp;split at hp
  ·rename_i cs fs hx ht;split at hp
   ·rename_i fd hfd;split at hp
    ·rename_i z hz;cases hp;obtain⟨vs,hvs,hcs⟩:=op1_rep h hx;obtain⟨v,hv,hr⟩:=FI hz hcs;refine⟨v,JT ?_,hr⟩;simp only[Instr.field,Sem.run_bind,run_underlying ht,Result.andThen_ok,hfd,hvs,asAgg,Sem.run_pure,hv]
    ·cases hp
   ·cases hp
  ·cases hp
 |index t x i=>
  simp only[pev] at hp;split at hp
  ·rename_i cs kk z len e hx hi ht;split at hp
   ·rename_i ie k0 hie hue;split at hp
    ·rename_i k l hints;cases hb:Nat.beq ie.size 1&&Nat.beq cs.length len with
     |false=>rw[hb] at hp;cases hp
     |true=>
      rw[hb] at hp;cases hp;simp only[kv] at hb;have hs1:=ku hb.1;have hln:=ku hb.2;obtain⟨vs,hvs,hcs⟩:=op1_rep h hx;have hi':=v1_val (op1_rep h hi);have hzlt:z.toNat<cs.length:=by omega
      have hv:=(qH1 (w:=w) (M:=M) hints).2 z.toNat _ hzlt (hcs.2 z.toNat hzlt);have hvz:vs[z.toNat]? =some (.int k (l.getD z.toNat 0)):=by
       have:z.toNat<vs.size:=by rw[hcs.1];exact hzlt
       rw[kE this];rw[kw,kE this,kJ] at hv;rw[hv]
      refine⟨.int k (l.getD z.toNat 0),JT ?_,jL _ rfl⟩;have hna:(isAgg e).run K.P w= .ok false w:=by rw[qDh hue];rfl
      simp only[Instr.index,hi',asIntOf,Sem.run_bind,Sem.run_pure,Result.andThen_ok,run_underlying ht,hvs,hob.1,hob.2,and_self,if_true,wK hie,hs1,Nat.mul_one,part,hna,uG,if_false,hvz]
    ·cases hp
   ·rename_i ie fs hie hue;split at hp
    ·rename_i k l hints;cases hb:Nat.beq cs.length (len*ie.size) with
     |false=>rw[hb] at hp;cases hp
     |true=>
      rw[hb] at hp;cases hp;have hln:=ku hb;obtain⟨vs,hvs,hcs⟩:=op1_rep h hx;have hi':=v1_val (op1_rep h hi);have hoff:z.toNat*ie.size+ie.size<=cs.length:=by
       rw[hln,<-dm];exact kS _ (by omega)
      have hpv:qBD K.P e cs (z.toNat*ie.size)=some (.agg ((cs.drop (z.toNat*ie.size)).take ie.size)):=by
       unfold qBD qFl;rw[hue,hie];simp only[qJG,kp];have:Nat.ble ie.size (cs.drop (z.toNat*ie.size)).length=true:=by rw[Nat.ble_eq,uv];omega
       rw[this];rfl
      obtain⟨v,hv,vs',rfl,hs',hr'⟩:=FI hpv hcs;refine⟨.agg vs',JT ?_,vs',rfl,?_,λj hj=>?_⟩
      ·simp only[Instr.index,hi',asIntOf,Sem.run_bind,Sem.run_pure,Result.andThen_ok,run_underlying ht,hvs,hob.1,hob.2,and_self,if_true,wK hie,hv]
      ·rw[hs',ur,uv,kP,uc];omega
      ·have hj':j<ie.size:=by simpa using hj
       have hc:=hr' j (by rw[ur,uv];omega);have hg:((cs.drop (z.toNat*ie.size)).take ie.size).getD j .unk=cs.getD (z.toNat*ie.size+j) .unk:=by
        rw[ki,uh,if_pos hj',gk,<-ki]
       rw[hg] at hc;have hv':=(qH1 (w:=w) (M:=M) hints).2 _ _ (by omega) hc;rw[hv',ki,kI,gY hj'];exact IRep.val _ rfl
    ·split at hp
     ·rename_i r hr;cases hp;obtain⟨vs,hvs,hcs⟩:=op1_rep h hx;have hi':=v1_val (op1_rep h hi);obtain⟨v,hv,hrr⟩:=FI hr hcs;refine⟨v,JT ?_,hrr⟩;simp only[Instr.index,hi',asIntOf,Sem.run_bind,Sem.run_pure,Result.andThen_ok,run_underlying ht,hvs,hob.1,hob.2,and_self,if_true,wK hie,hv]
     ·cases hp
   ·rename_i ie d _ _ hie _;split at hp
    ·rename_i r hr;cases hp;obtain⟨vs,hvs,hcs⟩:=op1_rep h hx;have hi':=v1_val (op1_rep h hi);obtain⟨v,hv,hrr⟩:=FI hr hcs;refine⟨v,JT ?_,hrr⟩;simp only[Instr.index,hi',asIntOf,Sem.run_bind,Sem.run_pure,Result.andThen_ok,run_underlying ht,hvs,hob.1,hob.2,and_self,if_true,wK hie,hv]
    ·cases hp
   ·cases hp
  ·rename_i s kk z hx hi ht;cases hp;refine⟨.int .u8 (strAt s z.toNat),JT ?_,jL _ rfl⟩;rw[v1_val (op1_rep h hx),v1_val (op1_rep h hi),run_index_string _ t s kk z ht,dif_pos hob];have hlt:z.toNat<s.data.size:=by have:=hob.2;have:s.size=s.data.size:=rfl;omega
   have e:(s[z.toNat]'(by have:=hob.2;omega))=s.data.getD z.toNat 0:=by
    show s.data[z.toNat]=_;unfold Array.getD;rw[dif_pos hlt];rfl
   rw[e];rfl
  ·cases hp
 |build t parts=>
  simp only[pev] at hp;split at hp
  ·rename_i ps hps;have hpr:=qIl h hps;obtain⟨v,hv,hr⟩:=qUZ (qs:=parts.map fun(i,x)=>(i,a.eval x)) (by simpa using hpr) hp;exact⟨v,JT hv,hr⟩
  ·cases hp
 |slice t x lo hi mx=>
  simp only[pev] at hp;split at hp
  ·rename_i x' l' h' m' hx hl hh hm;obtain⟨l1,l2⟩:=XB h hl;obtain⟨h1,h2⟩:=XB h hh;obtain⟨m1,m2⟩:=XB h hm;obtain⟨v,hv,hr⟩:=qVt (op1_rep h hx) l1 l2 h1 h2 m1 m2 hp hob;exact⟨v,JT hv,hr⟩
  ·cases hp
 |extract x i=>
  simp only[pev] at hp;split at hp
  ·rename_i xs hx;split at hp
   ·rename_i z hz;cases hp;obtain⟨vs,hvs,hl,hr⟩:=opV_rep h hx;have hi:i<xs.length:=(gf.1 hz).1;have hri:=hr i hi;rw[ki,hz,kJ] at hri;have hiv:i<vs.size:=by omega
    refine⟨vs.getD i undef,JT ?_,hri⟩;simp only[Instr.extract,hvs,kw,kE hiv,kJ,Sem.run_pure]
   ·cases hp
  ·cases hp
 |nilCheck x=>
  simp only[pev] at hp;split at hp
  ·rename_i id k j hx;cases hp;have hr:=op1_rep h hx;obtain⟨b,hb,hx'⟩:=hr;exact⟨.pointer (some ⟨b,j,none⟩),by simp[execOp,hb],b,rfl,hx'⟩
  ·rename_i id k sz i j hx;cases hp;have hr:=op1_rep h hx;obtain⟨b,hb,hx'⟩:=hr;exact⟨.pointer (some ⟨b,i*sz+j,none⟩),by simp[execOp,hb],b,rfl,hx'⟩
  ·rename_i cs hx;cases hp;have hr:IRep w M.imm (.lptr cs) (a.eval x):=op1_rep h hx;refine⟨a.eval x,?_,hr⟩;have hex:∃b o,a.eval x= .pointer (some ⟨b,o,none⟩):=by
    generalize a.eval x=u at hr;cases hr;exact⟨_,_,rfl⟩
   obtain⟨b,o,hb⟩:=hex;simp[execOp,hb]
  ·rename_i n sz f hx;cases hp;have hr:IRep w M.imm (.aptr n sz f) (a.eval x):=op1_rep h hx;refine⟨a.eval x,?_,hr⟩;have hex:∃b o,a.eval x= .pointer (some ⟨b,o,none⟩):=by
    generalize a.eval x=u at hr;cases hr;exact⟨_,_,rfl⟩
   obtain⟨b,o,hb⟩:=hex;simp[execOp,hb]
  ·cases hp
 |call c=>
  obtain⟨callee,args,argTypes⟩:=c;cases callee with
  |builtin b=>
   simp only[pev] at hp;split at hp
   ·rename_i x t ho hat;obtain⟨hl,hr⟩:=AI h ho;obtain⟨args⟩:=args;obtain⟨ats⟩:=argTypes;simp only at ho hat hl hr;subst hat
    match args,hl with
    |[o],_=>
     have h0:=hr 0 (by simp);simp only[un,ut] at h0;obtain⟨v,hv,hrr⟩:=qYB (ty:=type) h0 hp;refine⟨v,JT ?_,hrr⟩;rw[<-hv];simp
   ·rename_i xs ho;split at hp
    ·rename_i z hz;cases hp;obtain⟨hl,hr⟩:=AI h ho;obtain⟨v,hv,hrr⟩:=qT5 (P:=K.P) (w:=w) (M:=M) (mx:=true) (ats:=argTypes) (ty:=type) (vs:=args.map a.eval) (by simpa using hl) (λj hj=>by simpa[kw,ki] using hr j hj) hz;exact⟨v,JT hv,hrr⟩
    ·cases hp
   ·rename_i xs ho;split at hp
    ·rename_i z hz;cases hp;obtain⟨hl,hr⟩:=AI h ho;obtain⟨v,hv,hrr⟩:=qT5 (P:=K.P) (w:=w) (M:=M) (mx:=false) (ats:=argTypes) (ty:=type) (vs:=args.map a.eval) (by simpa using hl) (λj hj=>by simpa[kw,ki] using hr j hj) hz;exact⟨v,JT hv,hrr⟩
    ·cases hp
   ·cases hp
  |_=>cases hp
 |_=>cases hp
end
end Go.SL

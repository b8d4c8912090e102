/- Operations that leave memory as it is: what they come to, by computation on what is known. -/
import Derived.Test.YthbamnkheinbgaaGreatDoorYa1
import Derived.Laws.StructEq
import Derived.ChangeKeysEq
import Derived.Laws.Concat
import Derived.Laws.BytesString
set_option linter.unusedVariables false
set_option linter.unusedSimpArgs false
namespace Go.SL
open Go.RowKit
def C.isImm :C->Bool
  | .own .. | .sub .. | .bptr .. | .rptr .. | .fn .. | .yl .. | .unk=>false
  |_=>true
theorem DE {w:World} {M:Mem} {c:C} {v:Value} (hc:c.isImm=true) (h:IRep w M.imm c v):CRep w M c v:=by
  cases c<;>first|exact h|cases hc
def qAd :Value->C
  | .slice none 0 0=> .emp
  |v=> .val v
theorem constC_rep {w:World} {M:Mem} {v:Value} (h:v.oneCell'=true):CRep w M (qAd v) v:=by
  unfold qAd;split
  · exact .emp none
  · exact .val v h
def qGk :Value->Option V
  | .agg cs=>bif cs.toList.all Value.oneCell' then some (.v (.agg (cs.toList.map qAd))) else none
  |v=>bif v.oneCell' then some (.v (.one (qAd v))) else none
theorem qHq {w:World} {M:Mem} {v:Value} {x:V} (h:qGk v=some x):VRep w M x v:=by
  unfold qGk at h;split at h
  · rename_i cs;cases hb:cs.toList.all Value.oneCell' with
    |false=>rw[hb] at h;cases h
    | true=>
      rw[hb] at h;cases h;refine⟨cs,rfl,by simp,λj hj=>?_⟩;have hj':j<cs.toList.length:=by simpa using hj
      have:=constC_rep (w:=w) (M:=M) (kv.1 hb _ (uo hj'));simpa[ka,kD,ki hj',ke,ko (show j<cs.size by simpa using hj')] using this
  · cases hb:v.oneCell' with
    |false=>rw[hb] at h;cases h
    |true=>rw[hb] at h;cases h;exact constC_rep hb
def opV (gl:List (Nat×C)) (st:St):Operand->Option V
  | .tmp t=>look t st.slots
  | .const v=>qGk v
  | .global g=>match look g gl with|some c=>bif c.isImm then some (.v (.one c)) else none|none=>none
  | .func f=>some (.v (.one (.fn f [])))
theorem Sim.globR {K:Ctx} {M:Mem} {st:St} {a:Act} {w:World} (h:Sim K M st a w) {g:Nat} {c:C} (hl:look g K.globs=some c):IRep w M.imm c (.pointer (some ⟨g,0,none⟩)):=
  (K.glob g c hl).move (λb ha hb=>h.below.block b hb fun⟨i,hB⟩=>(K.hIn i b hB).2.2 ha) λb ha hb=>⟨(h.area b).2 (.inl ha),fun⟨i,k,hv,hbk⟩=>by
    rcases(h.rng i k b hv hbk).1 with h1|h1
    · omega
    · exact(K.hIn i b h1).2.2 ha⟩
theorem opV_rep {K:Ctx} {M:Mem} {st:St} {a:Act} {w:World} (h:Sim K M st a w) {o:Operand} {x:V} (ho:opV K.globs st o=some x):VRep w M x (a.eval o):=by
  cases o with
  |tmp t=>exact h.slots t x ho
  |const v=>exact qHq ho
  |func f=>cases ho;exact⟨#[],rfl,rfl,λj hj=>absurd hj (ug j)⟩
  | global g=>
    simp only[opV] at ho;cases hl:look g K.globs with
    |none=>rw[hl] at ho;cases ho
    | some c=>
      rw[hl] at ho;simp only at ho;cases hc:c.isImm with
      |false=>rw[hc] at ho;cases ho
      | true=>
        rw[hc] at ho;cases ho;exact DE hc (h.globR hl)
def op1 (gl:List (Nat×C)) (st:St) (o:Operand):Option V1:=match opV gl st o with|some (.v x)=>some x|_=>none
theorem op1_rep {K:Ctx} {M:Mem} {st:St} {a:Act} {w:World} (h:Sim K M st a w) {o:Operand} {x:V1} (ho:op1 K.globs st o=some x):qP w M x (a.eval o):=by
  unfold op1 at ho;split at ho
  · rename_i y heq;cases ho;exact opV_rep h heq
  · cases ho
theorem v1_val {w:World} {M:Mem} {x v:Value} (h:qP w M (.one (.val x)) v):v=x:=IRep.val_eq h
theorem zO {w:World} {M:Mem} (v:Value) (h:v.oneCell'=true):qP w M (.one (.val v)) v:=IRep.val v h
def CC :TypeDesc->Bool
  | .struct _| .array _ _=>true
  |_=>false
theorem DK {P:Program} {t:TypeId} {d:TypeDesc} (h:P.underlying t=some d) (w:World):(isAgg t).run P w= .ok (CC d) w:=by
  simp only[isAgg,Sem.run_bind,run_underlying h,Result.andThen_ok];cases d<;>rfl
theorem zF {P:Program} {t:TypeId} {i:TypeInfo} (h:P.info? t=some i) (w:World):(sizeOf t).run P w= .ok i.size w:=by
  simp[sizeOf,typeInfo,h]
def MQ (P:Program) (t:TypeId) (cs:List C):Option V1:=
  match P.underlying t,P.info? t with
  |some d,some i=>bif CC d then(bif Nat.ble i.size cs.length then some (.agg (cs.take i.size)) else none) else(match cs with|c::_=>some (.one c)|[]=>none)
  |_,_=>none
theorem qHN {w:World} {M:Mem} {cs:List C} {n:Nat} {g:Nat->Value} (hn:n<=cs.length) (hr:∀j,j<cs.length->CRep w M (cs.getD j .unk) (g j)):
    zW w M (cs.take n) ((List.range n).map g).toArray:=by
  refine⟨by simp[uj hn],λj hj=>?_⟩;have hj':j<n:=by simp at hj;omega
  have:=hr j (by omega);simp only[ka,kW,hj',if_true] at this⊢;simpa[hj'] using this
theorem qBd {P:Program} {w:World} {M:Mem} {t:TypeId} {cs:List C} {x:V1} {b o:Nat} {g:Nat->Value} (ht:MQ P t cs=some x)
    (hc:∀j,j<cs.length->w.cell? ⟨b,o+j,none⟩=some (g j)) (hr:∀j,j<cs.length->CRep w M (cs.getD j .unk) (g j)):
    ∃v,(loadVar t ⟨b,o,none⟩).run P w= .ok v w/\qP w M x v:=by
  unfold MQ at ht;split at ht
  · rename_i d i hd hi;cases ha:CC d with
    | true=>
      rw[ha] at ht;simp only[kr] at ht;cases hb:Nat.ble i.size cs.length with
      |false=>rw[hb] at ht;cases ht
      | true=>
        rw[hb] at ht;cases ht;have hn:=kO hb;refine⟨.agg ((List.range i.size).map g).toArray,?_,_,rfl,qHN hn hr⟩;have hl:=run_loadCells (P:=P) w ⟨b,o,none⟩ i.size g λj hj=>by rw[Addr.add_lit];exact hc j (by omega)
        simp[loadVar,DK hd,ha,zF hi,hl]
    | false=>
      rw[ha] at ht;simp only[kq] at ht;split at ht
      · rename_i c cs';cases ht;have h0:=hc 0 (by simp);refine⟨g 0,?_,show CRep w M c (g 0) by simpa using hr 0 (by simp)⟩;simp only[ud] at h0;simp[loadVar,DK hd,ha,h0]
      · cases ht
  · cases ht
def XN (st:St):C->Option (List C×Prop)
  | .bptr id k j=>match look id st.objs with|some (k',.box _ cs)=>bif Nat.beq k k' then some (cs.drop j,True) else none|_=>none
  | .rptr id k sz i j=>match look id st.objs with|some (k',.row _ sz' n f)=>bif Nat.beq k k'&&Nat.beq sz sz' then some ((f i).drop j,i<n) else none|_=>none
  | .lptr cs=>some (cs,True)
  | .aptr n sz f=>bif Nat.ble n 64&&(List.range n).all (λi=>Nat.beq (f i).length sz) then some (((List.range n).map f).flatten,True) else none
  |_=>none
theorem qEe {f:Nat->List C} {sz:Nat}:∀(n:Nat),(∀i,i<n->(f i).length=sz)->(((List.range n).map f).flatten).length=n*sz/\∀i j,i<n->j<sz->(((List.range n).map f).flatten).getD (i*sz+j) .unk=(f i).getD j .unk
  |0,_=>⟨by simp,λi j hi=>by omega⟩
  | n+1,h=>by
    obtain⟨h1,h2⟩:=qEe n λi hi=>h i (by omega);rw[List.range_succ,List.map_append,List.flatten_append];simp only[ul,List.map_nil,List.flatten_cons,List.flatten_nil,uJ];refine⟨by rw[kX,h1,h n (by omega),kN,uw],λi j hi hj=>?_⟩;simp only[ka];by_cases hin:i<n
    · have:(i+1)*sz<=n*sz:=kE _ hin;rw[kN,uw] at this;rw[kG (by omega)];have:=h2 i j hin hj;simpa only[ka] using this
    · have hie:i=n:=by omega
      subst hie;rw[kF (by omega),h1,Nat.add_sub_cancel_left]
theorem cell_of_row' {w:World} {b j:Nat} {arr:Array Value} {e:TypeId} {fr:Nat×Nat} (h:w.heap[b]? =some (.cells arr e fr)) (hj:j<arr.size):w.cell? ⟨b,j,none⟩=some (arr.getD j undef):=by
  rw[cell_of_row w b j arr e fr h];simp[hj]
theorem getD_drop {cs:List C} {j m:Nat}:(cs.drop j).getD m .unk=cs.getD (j+m) .unk:=by
  simp[ka]
theorem IRep.isImm {w:World} {ok:Nat->Prop} {c:C} {v:Value} (h:IRep w ok c v):c.isImm=true:=by cases h<;>rfl
theorem qAa {K:Ctx} {M:Mem} {st:St} {a:Act} {w:World} (h:Sim K M st a w) {c:C} {v:Value} (hv:CRep w M c v) {cs:List C} {ob:Prop} (hp:XN st c=some (cs,ob)) (hob:ob):
    ∃(b o:Nat) (g:Nat->Value),v= .pointer (some ⟨b,o,none⟩)/\(∀j,j<cs.length->w.cell? ⟨b,o+j,none⟩=some (g j))/\∀j,j<cs.length->CRep w M (cs.getD j .unk) (g j):=by
  unfold XN at hp;split at hp
  · rename_i id k j;split at hp
    · rename_i _ k' e cs' hl;cases hk:Nat.beq k k' with
      |false=>rw[hk] at hp;cases hp
      | true=>
        rw[hk] at hp;cases hp;have hkk:=kd hk;subst hkk;obtain⟨hver,b,arr,hb,hh,hsz,hc⟩:=h.objs id k _ hl;obtain⟨b',rfl,hb'⟩:=hv;have hb':=hb' hver;rw[hb] at hb';cases hb';refine⟨b,j,λm=>arr.getD (j+m) undef,rfl,λm hm=>?_,λm hm=>?_⟩
        · simp only[kU] at hm;exact cell_of_row' hh (by omega)
        · simp only[kU] at hm;rw[getD_drop];exact hc (j+m) (by omega)
    · cases hp
  · rename_i id k sz i j;split at hp
    · rename_i k' e sz' n f hl;cases hk:Nat.beq k k'&&Nat.beq sz sz' with
      |false=>rw[hk] at hp;cases hp
      | true=>
        rw[hk] at hp;cases hp;simp only[kf] at hk;have hkk:=kd hk.1;have hss:=kd hk.2;subst hkk hss;obtain⟨hver,hrow⟩:=h.objs id k _ hl;rcases hrow with⟨_,h0⟩|⟨b,arr,hb,hh,hsz,hc⟩
        · omega
        · obtain⟨b',rfl,hb'⟩:=hv;have hb':=hb' hver;rw[hb] at hb';cases hb';have hin:i*sz+sz<=n*sz:=by
            have:(i+1)*sz<=n*sz:=kE _ hob;rw[kN,uw] at this;exact this
          refine⟨b,i*sz+j,λm=>arr.getD (i*sz+j+m) undef,rfl,λm hm=>?_,λm hm=>?_⟩
          · simp only[kU,(hc i hob).1] at hm;exact cell_of_row' hh (by omega)
          · simp only[kU,(hc i hob).1] at hm;have:=(hc i hob).2 (j+m) (by omega);rw[getD_drop];show CRep w M _ (arr.getD (i*sz+j+m) undef);rw[um];exact DE this.isImm this
    · cases hp
  · rename_i cs';cases hp;cases hv with
    |lptr b o cs g hb hc hr=>exact⟨b,o,g,rfl,hc,λj hj=>DE (hr j hj).isImm (hr j hj)⟩
  · rename_i n sz f;cases hk:Nat.ble n 64&&(List.range n).all (λi=>Nat.beq (f i).length sz) with
    |false=>rw[hk] at hp;cases hp
    | true=>
      rw[hk] at hp;cases hp;cases hv with
      | aptr b o n sz f g hl hb hc hr=>
        obtain⟨h1,h2⟩:=qEe n hl;have hpos:∀q,q<n*sz->0<sz:=λq hq=>by
          rcases Nat.eq_zero_or_pos sz with h0|h0
          · subst h0;simp at hq
          · exact h0
        have hdm:∀q,q<n*sz->q/sz<n/\q % sz<sz/\q/sz*sz+q % sz=q:=λq hq=>
          ⟨uU (by rw[ux];exact hq),uc _ (hpos q hq),by rw[ux];exact Nat.div_add_mod q sz⟩
        refine⟨b,o,λq=>g (q/sz) (q % sz),rfl,λq hq=>?_,λq hq=>?_⟩<;>rw[h1] at hq<;>obtain⟨d1,d2,d3⟩:=hdm q hq
        · have:=hc (q/sz) (q % sz) d1 d2;rw[d3] at this;exact this
        · have:=hr (q/sz) (q % sz) d1 d2;rw[<-h2 (q/sz) (q % sz) d1 d2,d3] at this;exact DE this.isImm this
  · cases hp
def qE0 (P:Program) (st:St) (t:TypeId) (x:V1):Option (V×Prop):=
  match x with
  | .one c=>match XN st c with|some (cs,ob)=>(MQ P t cs).map λy=>(.v y,ob)|none=>none
  |_=>none
theorem qIl {K:Ctx} {M:Mem} {st:St} {a:Act} {w:World} (h:Sim K M st a w) {t:TypeId} {x:V1} {v:Value} (hv:qP w M x v) {y:V} {ob:Prop} (hp:qE0 K.P st t x=some (y,ob)) (hob:ob):
    ∃u,(Instr.loadAt t v).run K.P w= .ok u w/\VRep w M y u:=by
  unfold qE0 at hp;split at hp
  · rename_i c;split at hp
    · rename_i cs ob' hpc;cases ht:MQ K.P t cs with
      |none=>rw[ht] at hp;cases hp
      | some z=>
        rw[ht] at hp;cases hp;obtain⟨b,o,g,rfl,hc,hr⟩:=qAa h hv hpc hob;obtain⟨u,hu,hru⟩:=qBd (P:=K.P) ht hc hr;exact⟨u,by simp[Instr.loadAt,Instr.sureAddr,hu],hru⟩
    · cases hp
  · cases hp
def qCK (off:Nat):C->Option C
  | .bptr id k j=>some (.bptr id k (j+off))
  | .rptr id k sz i j=>some (.rptr id k sz i (j+off))
  | .lptr cs=>some (.lptr (cs.drop off))
  |_=>none
def qCD (P:Program) (s:TypeId) (x:V1) (f:Nat):Option (V×Prop):=
  match x,P.underlying s with
  | .one c,some (.struct fs)=>
    match fs[f]? with
    | some fd=>match P.info? fd.type with
      |some i=>bif Nat.beq i.size 0 then none else(qCK fd.offset c).map λc=>(.v (.one c),True)
      |none=>none
    |none=>none
  |_,_=>none
theorem qC4 {w:World} {M:Mem} {off:Nat} {c c':C} {v:Value} (h:qCK off c=some c') (hv:CRep w M c v):
    ∃b o,v= .pointer (some ⟨b,o,none⟩)/\CRep w M c' (.pointer (some ⟨b,o+off,none⟩)):=by
  unfold qCK at h;split at h
  · rename_i id k j;cases h;obtain⟨b,rfl,hb⟩:=hv;exact⟨b,j,rfl,b,rfl,hb⟩
  · rename_i id k sz i j;cases h;obtain⟨b,rfl,hb⟩:=hv;exact⟨b,i*sz+j,rfl,b,by rw[um],hb⟩
  · rename_i cs;cases h;cases hv with
    | lptr b o cs g hb hc hr=>
      refine⟨b,o,rfl,.lptr b (o+off) _ (λj=>g (off+j)) (λj hj=>?_) (λj hj=>?_) (λj hj=>?_)⟩<;>simp only[kU] at hj
      · exact hb (off+j) (by omega)
      · rw[um];exact hc (off+j) (by omega)
      · rw[getD_drop];exact hr (off+j) (by omega)
  · cases h
theorem qHS {P:Program} {w:World} {M:Mem} {s:TypeId} {x:V1} {v:Value} (hv:qP w M x v) {f:Nat} {y:V} {ob:Prop} (hp:qCD P s x f=some (y,ob)):
    ∃u,(Instr.fieldAt s v f).run P w= .ok u w/\VRep w M y u:=by
  unfold qCD at hp;split at hp
  · rename_i c fs hs;split at hp
    · rename_i fd hfd;split at hp
      · rename_i i hi;cases hz:Nat.beq i.size 0 with
        |true=>rw[hz] at hp;cases hp
        | false=>
          rw[hz] at hp;simp only[kq] at hp;cases hc:qCK fd.offset c with
          |none=>rw[hc] at hp;cases hp
          | some c'=>
            rw[hc] at hp;cases hp;obtain⟨b,o,rfl,hr⟩:=qC4 hc hv;have hne:i.size≠0:=λh=>by rw[h] at hz;cases hz
            refine⟨_,?_,hr⟩;simp[Instr.fieldAt,run_underlying hs,hfd,Instr.sureAddr,fieldPlace,zF hi,hne,Addr.add_lit]
      · cases hp
    · cases hp
  · cases hp
def qFF (P:Program) (t:TypeId) (x i:V1):Option (V×Prop):=
  match i with
  | .one (.val (.int _ z))=>
    match P.underlying t with
    | some (.slice e)=>
      match P.info? e,x with
      |some ie,.one (.lst n f)=>bif Nat.beq (f z.toNat).length ie.size then some (.v (.one (.lptr (f z.toNat))),0<=z/\z<(n:Int)) else none
      |some ie,.one (.own id k sz len)=>bif Nat.beq sz ie.size then some (.v (.one (.rptr id k sz z.toNat 0)),0<=z/\z<(len:Int)) else none
      |_,_=>none
    | some (.array len e)=>
      match P.info? e,x with
      |some ie,.one (.aptr n sz f)=>bif Nat.beq sz ie.size&&Nat.beq n len then some (.v (.one (.lptr (f z.toNat))),0<=z/\z<(n:Int)) else none
      |some ie,.one (.bptr id k j)=>some (.v (.one (.bptr id k (j+z.toNat*ie.size))),0<=z/\z<(len:Int))
      |some ie,.one (.lptr cs)=>some (.v (.one (.lptr (cs.drop (z.toNat*ie.size)))),0<=z/\z<(len:Int))
      |some ie,.one (.rptr id k sz i j)=>some (.v (.one (.rptr id k sz i (j+z.toNat*ie.size))),0<=z/\z<(len:Int))
      |_,_=>none
    |_=>none
  |_=>none
theorem qHi {w:World} {ok:Nat->Prop} {b o n sz:Nat} {f:Nat->List C} {g:Nat->Nat->Value} (hl:∀i,i<n->(f i).length=sz)
    (hb:∀i j,i<n->j<sz->ok b) (hc:∀i j,i<n->j<sz->w.cell? ⟨b,o+(i*sz+j),none⟩=some (g i j)) (hr:∀i j,i<n->j<sz->IRep w ok ((f i).getD j .unk) (g i j)) {i:Nat} (hi:i<n):
    IRep w ok (.lptr (f i)) (.pointer (some ⟨b,o+i*sz,none⟩)):=by
  refine .lptr b (o+i*sz) (f i) (g i) (λj hj=>?_) (λj hj=>?_) (λj hj=>?_)<;>rw[hl i hi] at hj
  · exact hb i j hi hj
  · rw[um];exact hc i j hi hj
  · exact hr i j hi hj
theorem qHy {P:Program} {w:World} {M:Mem} {t:TypeId} {x i:V1} {v u:Value} (hv:qP w M x v) (hu:qP w M i u) {y:V} {ob:Prop} (hp:qFF P t x i=some (y,ob)) (hob:ob):
    ∃r,(Instr.indexAt t v u).run P w= .ok r w/\VRep w M y r:=by
  unfold qFF at hp;split at hp
  · rename_i kk z;have hu':=v1_val hu;subst hu';have hz:∀m:Nat,0<=z/\z<(m:Int)->z.toNat<m:=λm hm=>by omega
    split at hp
    · rename_i e ht;split at hp
      · rename_i ie n f hi;cases hb:Nat.beq (f z.toNat).length ie.size with
        |false=>rw[hb] at hp;cases hp
        | true=>
          rw[hb] at hp;cases hp;have hlen:=kd hb;have hzn:=hz _ hob;cases hv with
          |lst0 a=>omega
          | lst b o n cap sz f g hn hm hl hbb hc hr=>
            have hs:sz=ie.size:=by rw[<-hlen,hl _ hzn]
            subst hs;refine⟨.pointer (some ⟨b,o+z.toNat*ie.size,none⟩),?_,qHi hl hbb hc hr hzn⟩;simp[Instr.indexAt,asIntOf,run_underlying ht,hob.1,hob.2,zF hi,Addr.add_lit]
      · rename_i ie id k sz len hi;cases hb:Nat.beq sz ie.size with
        |false=>rw[hb] at hp;cases hp
        | true=>
          rw[hb] at hp;cases hp;have hlen:=kd hb;subst hlen;have hzn:=hz _ hob;rcases hv with⟨h0,_⟩|⟨b,cap,rfl,h1,h2,hx⟩
          · omega
          · refine⟨.pointer (some ⟨b,z.toNat*ie.size,none⟩),?_,b,rfl,λhd=>(hx hd).1⟩;simp[Instr.indexAt,asIntOf,run_underlying ht,hob.1,hob.2,zF hi,Addr.add_lit]
      · cases hp
    · rename_i len e ht;split at hp
      · rename_i ie n sz f hi;cases hb:Nat.beq sz ie.size&&Nat.beq n len with
        |false=>rw[hb] at hp;cases hp
        | true=>
          rw[hb] at hp;cases hp;simp only[kf] at hb;have hlen:=kd hb.1;have hnn:=kd hb.2;subst hlen hnn;have hzn:=hz _ hob;cases hv with
          | aptr b o n sz f g hl hbb hc hr=>
            refine⟨.pointer (some ⟨b,o+z.toNat*ie.size,none⟩),?_,qHi hl hbb hc hr hzn⟩;simp[Instr.indexAt,asIntOf,run_underlying ht,Instr.sureAddr,hob.1,hob.2,zF hi,Addr.add_lit]
      · rename_i ie id k j hi;cases hp;obtain⟨b,rfl,hx⟩:=hv;refine⟨.pointer (some ⟨b,j+z.toNat*ie.size,none⟩),?_,b,rfl,hx⟩;simp[Instr.indexAt,asIntOf,run_underlying ht,Instr.sureAddr,hob.1,hob.2,zF hi,Addr.add_lit]
      · rename_i ie cs hi;cases hp;obtain⟨b,o,rfl,hr⟩:=qC4 (w:=w) (M:=M) (off:=z.toNat*ie.size) (c:= .lptr cs) (c':= .lptr (cs.drop (z.toNat*ie.size))) rfl hv;refine⟨.pointer (some ⟨b,o+z.toNat*ie.size,none⟩),?_,hr⟩;simp[Instr.indexAt,asIntOf,run_underlying ht,Instr.sureAddr,hob.1,hob.2,zF hi,Addr.add_lit]
      · rename_i ie id k sz i j hi;cases hp;obtain⟨b,rfl,hx⟩:=hv;refine⟨.pointer (some ⟨b,i*sz+j+z.toNat*ie.size,none⟩),?_,b,by rw[um],hx⟩;simp[Instr.indexAt,asIntOf,run_underlying ht,Instr.sureAddr,hob.1,hob.2,zF hi,Addr.add_lit]
      · cases hp
    · cases hp
  · cases hp
def TW (P:Program) (t:TypeId) (cs:List C) (off:Nat):Option V1:=MQ P t (cs.drop off)
theorem JE {P:Program} {w:World} {M:Mem} {t:TypeId} {cs:List C} {vs:Array Value} {off:Nat} {x:V1} (h:TW P t cs off=some x) (hr:zW w M cs vs):∃v,(part t vs off).run P w= .ok v w/\qP w M x v:=by
  unfold TW MQ at h;split at h
  · rename_i d i hd hi;cases ha:CC d with
    | true=>
      rw[ha] at h;simp only[kr] at h;cases hb:Nat.ble i.size (cs.drop off).length with
      |false=>rw[hb] at h;cases h
      | true=>
        rw[hb] at h;cases h;have hn:=kO hb;simp only[kU] at hn;refine⟨.agg (vs.extract off (off+i.size)),by simp[part,DK hd,ha,zF hi],_,rfl,?_,λj hj=>?_⟩
        · have:=hr.1;simp;omega
        · have hj':j<i.size:=by simp at hj;omega
          by_cases hof:off+j<cs.length
          · have:=hr.2 (off+j) hof;have hsz:=hr.1;simp only[ka,kW,hj',if_true,uh,ke,Array.getElem?_extract] at this⊢;rw[if_pos (by omega)];exact this
          · simp only[kY,kU] at hj;omega
    | false=>
      rw[ha] at h;simp only[kq] at h;split at h
      · rename_i c cs' hcs;cases h;have hlt:off<cs.length:=by
          have:(cs.drop off).length=cs'.length+1:=by rw[hcs];rfl
          rw[kU] at this;omega
        have h0:=hr.2 off hlt;have hsz:=hr.1;have hc:cs.getD off .unk=c:=by
          have:(cs.drop off).getD 0 .unk=c:=by rw[hcs];rfl
          rw[getD_drop] at this;exact this
        rw[hc] at h0;have hv:vs[off]? =some (vs.getD off undef):=by
          have hlt':off<vs.size:=by omega
          rw[ke,ko hlt',kA]
        refine⟨vs.getD off undef,?_,h0⟩;simp only[part,Sem.run_bind,DK hd,ha,Result.andThen_ok,uH,if_false,hv];rfl
      · cases h
  · cases h
def eqV (P:Program):Nat->TypeId->V1->V1->Option Bool
  |0,_,_,_=>none
  | d+1,t,x,y=>
    match P.underlying t,x,y with
    |some .bool,.one (.val (.bool a)),.one (.val (.bool b))=>some (a==b)
    |some (.int _),.one (.val (.int k a)),.one (.val (.int k' b))=>if k=k' then some (a==b) else none
    |some .string,.one (.val (.string a)),.one (.val (.string b))=>some (a==b)
    |some (.struct fs),.agg xs,.agg ys=>bif P.stoodInHeld t then none else
        fs.toList.foldr (fun f r=>if f.name= "_" then r else match TW P f.type xs f.offset,TW P f.type ys f.offset with
          |some p,some q=>match eqV P d f.type p q,r with|some b,some c=>some (b&&c)|_,_=>none
          |_,_=>none) (some true)
    |some (.array n e),.agg xs,.agg ys=>(match P.info? e with
        | some i=>(List.range n).foldr (λj r=>match TW P e xs (j*i.size),TW P e ys (j*i.size) with
          |some p,some q=>match eqV P d e p q,r with|some b,some c=>some (b&&c)|_,_=>none
          |_,_=>none) (some true)
        |none=>none)
    |_,_,_=>none
theorem HY {P:Program} {w:World} {M:Mem}:∀(n d:Nat) (t:TypeId) (x y:V1) (v u:Value) (b:Bool),n<=d->qP w M x v->qP w M y u->eqV P n t x y=some b->(Op.equalIn d t v u).run P w= .ok b w
  |0,_,_,_,_,_,_,_,_,_,_,h=>by cases h
  |n+1,0,_,_,_,_,_,_,hn,_,_,_=>by omega
  | n+1,d+1,t,x,y,v,u,b,hn,hv,hu,h=>by
    unfold eqV at h;split at h
    · rename_i a b' ht;cases h;rw[v1_val hv,v1_val hu];simp[Op.equalIn,run_underlying ht]
    · rename_i k0 k a k' b' ht;split at h
      · rename_i hk;subst hk;cases h;rw[v1_val hv,v1_val hu];exact run_equalIn_int w d t k k0 a b' ht
      · cases h
    · rename_i a b' ht;cases h;rw[v1_val hv,v1_val hu];simp[Op.equalIn,run_underlying ht]
    · rename_i fs xs ys ht;cases hp:P.stoodInHeld t with
      |true=>rw[hp] at h;cases h
      | false=>
        rw[hp] at h;simp only[kq] at h;obtain⟨vs,rfl,hvs⟩:=hv;obtain⟨us,rfl,hus⟩:=hu;have hfo:P.fieldsOf t=fs:=by simp[Program.fieldsOf,ht]
        rw[run_equalIn_struct w d t vs us (by rw[hfo];exact ht) hp,hfo];clear hfo ht hp;generalize fs.toList=l at h
        induction l generalizing b with
        |nil=>cases h;simp[Op.eqFields]
        | cons f l ih=>
          simp only[List.foldr_cons] at h;simp only[Op.eqFields];split at h
          · rename_i hnm;rw[if_neg (by simpa using hnm)];exact ih b h
          · rename_i hnm;rw[if_pos hnm];split at h
            · rename_i p q hp1 hq1;split at h
              · rename_i b1 c1 hb1 hc1;cases h;obtain⟨pv,hpr,hpv⟩:=JE hp1 hvs;obtain⟨qv,hqr,hqv⟩:=JE hq1 hus;have he:=HY n d f.type p q pv qv b1 (by omega) hpv hqv hb1;have hrest:=ih c1 hc1;simp only[Sem.run_bind,hpr,hqr,he,Result.andThen_ok];cases b1
                · simp
                · simpa using hrest
              · cases h
            · cases h
    · rename_i len e xs ys ht;split at h
      · rename_i i hi;obtain⟨vs,rfl,hvs⟩:=hv;obtain⟨us,rfl,hus⟩:=hu;have hsz:P.cellsOf e=i.size:=by simp[Program.cellsOf,hi]
        rw[run_equalIn_array w d vs us ht hi,hsz];clear ht hi hsz;generalize List.range len=l at h
        induction l generalizing b with
        |nil=>cases h;simp[Op.eqItems]
        | cons j l ih=>
          simp only[List.foldr_cons] at h;simp only[Op.eqItems];split at h
          · rename_i p q hp1 hq1;split at h
            · rename_i b1 c1 hb1 hc1;cases h;obtain⟨pv,hpr,hpv⟩:=JE hp1 hvs;obtain⟨qv,hqr,hqv⟩:=JE hq1 hus;have he:=HY n d e p q pv qv b1 (by omega) hpv hqv hb1;have hrest:=ih c1 hc1;simp only[Sem.run_bind,hpr,hqr,he,Result.andThen_ok];cases b1
              · simp
              · simpa using hrest
            · cases h
          · cases h
      · cases h
    · cases h
def qEY (a b:ByteArray):Bool:=a.data.toList==b.data.toList
def ZB (s:ByteArray) (i:Nat):Int:=((s.data.getD i 0).toNat:Int)
def qAB (a b:ByteArray):Bool:=decide (a.size+b.size<=9223372036854775807)
theorem IM {a b:ByteArray} (h:qAB a b=true):a.size+b.size<=9223372036854775807:=kK h
def shlI (k:IntKind) (a b:Int):Int:=k.wrap (a*2^(min b.toNat k.bits))
def shrI (k:IntKind) (a b:Int):Int:=a.fdiv (2^(min b.toNat k.bits))
def andI (k:IntKind) (a b:Int):Int:=k.wrap ((BitVec.ofInt k.bits a&&&BitVec.ofInt k.bits b).toNat:Int)
def orI (k:IntKind) (a b:Int):Int:=k.wrap ((BitVec.ofInt k.bits a|||BitVec.ofInt k.bits b).toNat:Int)
def xorI (k:IntKind) (a b:Int):Int:=k.wrap ((BitVec.ofInt k.bits a^^^BitVec.ofInt k.bits b).toNat:Int)
def anI (k:IntKind) (a b:Int):Int:=k.wrap ((BitVec.ofInt k.bits a&&& ~~~BitVec.ofInt k.bits b).toNat:Int)
def notI (k:IntKind) (a:Int):Int:=xorI k (if k.signed then-1 else k.max) a
def nneg (b:Int):Bool:=decide (0<=b)
theorem nneg_of {b:Int} (h:nneg b=true):¬b<0:=by unfold nneg at h;have:=kK h;omega
def binV (P:Program) (op:BinOp) (t:TypeId) (x y:V1):Option (V1×Prop):=
  match x,y with
  | .one (.val (.int k a)),.one (.val (.int k' b))=>
    if op= .shl then some (.one (.val (.int k (shlI k a b))),¬b<0)
    else if op= .shr then some (.one (.val (.int k (shrI k a b))),¬b<0)
    else if k=k' then
      match op with
      | .and=>some (.one (.val (.int k (andI k a b))),True)
      | .or=>some (.one (.val (.int k (orI k a b))),True)
      | .xor=>some (.one (.val (.int k (xorI k a b))),True)
      | .andNot=>some (.one (.val (.int k (anI k a b))),True)
      | .add=>some (.one (.val (.int k (k.wrap (a+b)))),True)
      | .sub=>some (.one (.val (.int k (k.wrap (a-b)))),True)
      | .mul=>some (.one (.val (.int k (k.wrap (a*b)))),True)
      | .quo=>some (.one (.val (.int k (k.wrap (a.tdiv b)))),b≠0)
      | .rem=>some (.one (.val (.int k (a.tmod b))),b≠0)
      | .eql=>some (.one (.val (.bool (a==b))),True)
      | .neq=>some (.one (.val (.bool (a !=b))),True)
      | .lss=>some (.one (.val (.bool (decide (a<b)))),True)
      | .leq=>some (.one (.val (.bool (decide (a<=b)))),True)
      | .gtr=>some (.one (.val (.bool (decide (a>b)))),True)
      | .geq=>some (.one (.val (.bool (decide (a≥b)))),True)
      |_=>none
    else none
  | .one (.val (.bool a)),.one (.val (.bool b))=>
    match op,P.underlying t with
    | .eql,some .bool=>some (.one (.val (.bool (a==b))),True)
    | .neq,some .bool=>some (.one (.val (.bool (!(a==b)))),True)
    |_,_=>none
  | .one (.val (.string a)),.one (.val (.string b))=>
    match op with
    | .eql=>some (.one (.val (.bool (qEY a b))),True)
    | .neq=>some (.one (.val (.bool (!qEY a b))),True)
    | .add=>some (.one (.val (.string (a++b))),a.size+b.size<=9223372036854775807)
    |_=>none
  | .agg xs,.agg ys=>
    match op with
    | .eql=>bif P.eqGuardType P.depth t then none else match eqV P 9 t (.agg xs) (.agg ys) with|some b=>some (.one (.val (.bool b)),True)|none=>none
    | .neq=>bif P.eqGuardType P.depth t then none else match eqV P 9 t (.agg xs) (.agg ys) with|some b=>some (.one (.val (.bool (!b))),True)|none=>none
    |_=>none
  | .one (.bptr _ _ _),.one (.val (.pointer none))=>
    match op,P.underlying t with
    | .eql,some (.pointer _)=>some (.one (.val (.bool false)),True)
    | .neq,some (.pointer _)=>some (.one (.val (.bool true)),True)
    |_,_=>none
  | .one (.val (.pointer none)),.one (.val (.pointer none))=>
    match op,P.underlying t with
    | .eql,some (.pointer _)=>some (.one (.val (.bool true)),True)
    | .neq,some (.pointer _)=>some (.one (.val (.bool false)),True)
    |_,_=>none
  |_,_=>none
theorem qGN {P:Program} {w:World} {op:BinOp} {t:TypeId} {x y:Operand} {k k':IntKind} {a b:Int}:(eqGuard op t x y (.int k a) (.int k' b)).run P w= .ok () w:=by
  unfold eqGuard;cases op<;>rfl
theorem qFl {P:Program} {w:World} {op:BinOp} {t:TypeId} {x y:Operand} {a b:Bool}:(eqGuard op t x y (.bool a) (.bool b)).run P w= .ok () w:=by
  unfold eqGuard;cases op<;>rfl
theorem qGH {P:Program} {w:World} {op:BinOp} {t:TypeId} {x y:Operand} {a b:ByteArray}:(eqGuard op t x y (.string a) (.string b)).run P w= .ok () w:=by
  unfold eqGuard;cases op<;>rfl
theorem qId {P:Program} (w:World) (d:Nat) (t e:TypeId) (a:Addr) (ht:P.underlying t=some (.pointer e)):(Op.equalIn (d+1) t (.pointer (some a)) (.pointer Option.none)).run P w= .ok false w:=by
  simp[Op.equalIn,run_underlying ht]
theorem qII {P:Program} (w:World) (d:Nat) (t e:TypeId) (ht:P.underlying t=some (.pointer e)):(Op.equalIn (d+1) t (.pointer Option.none) (.pointer Option.none)).run P w= .ok true w:=by
  simp[Op.equalIn,run_underlying ht]
theorem qJd {P:Program} {w:World} {M:Mem} {op:BinOp} {t:TypeId} {x y:V1} {v u:Value} (hv:qP w M x v) (hu:qP w M y u) {z:V1} {ob:Prop} (hp:binV P op t x y=some (z,ob)) (hob:ob) (ox oy:Operand):
    ∃r,(do eqGuard op t ox oy v u;binOp op t v u:Sem Value).run P w= .ok r w/\qP w M z r:=by
  unfold binV at hp;split at hp
  · rename_i k a k' b;rw[v1_val hv,v1_val hu];simp only[Sem.run_bind,qGN,Result.andThen_ok];split at hp
    · rename_i ho;subst ho;cases hp;refine⟨_,?_,zO _ rfl⟩;simp[binOp,Op.shift,hob,shlI]
    · rename_i ho1;split at hp
      · rename_i ho;subst ho;cases hp;refine⟨_,?_,zO _ rfl⟩;simp[binOp,Op.shift,hob,shrI]
      · rename_i ho2;split at hp
        · rename_i hk;subst hk;cases op<;>simp only at hp<;>first
            | (cases hp
               refine⟨_,?_,zO _ rfl⟩;simp[binOp,Op.intArith,Op.intDiv,Op.intCmp,hob]
               done)
            | (cases hp
               refine⟨_,?_,zO _ rfl⟩;simp[binOp,Op.intArith,Op.intDiv,Op.intCmp]
               done)
            | (cases hp
               refine⟨_,?_,zO _ rfl⟩;simp only[binOp,ne_eq,not_true_eq_false,ite_false,Op.intBits];rfl)
            |(cases hp;done)
        · cases hp
  · rename_i a b;rw[v1_val hv,v1_val hu];simp only[Sem.run_bind,qFl,Result.andThen_ok];split at hp
    · rename_i ht;cases hp;refine⟨.bool (a==b),?_,zO _ rfl⟩;have he:(Op.equal t (.bool a) (.bool b)).run P w= .ok (a==b) w:=run_equalIn_bool w 9999 t a b ht;show((do pure (.bool (<-Op.equal t (.bool a) (.bool b)))):Sem Value).run P w=_;simp only[Sem.run_bind,he,Result.andThen_ok,Sem.run_pure]
    · rename_i ht;cases hp;refine⟨.bool (!(a==b)),?_,zO _ rfl⟩;have he:(Op.equal t (.bool a) (.bool b)).run P w= .ok (a==b) w:=run_equalIn_bool w 9999 t a b ht;show((do pure (.bool (!(<-Op.equal t (.bool a) (.bool b))))):Sem Value).run P w=_;simp only[Sem.run_bind,he,Result.andThen_ok,Sem.run_pure]
    · cases hp
  · rename_i a b;rw[v1_val hv,v1_val hu];simp only[Sem.run_bind,qGH,Result.andThen_ok];split at hp
    · cases hp;refine⟨.bool (qEY a b),?_,zO _ rfl⟩;rw[binOp_string_eql,ByteArray.toList_eq,ByteArray.toList_eq];rfl
    · cases hp;refine⟨.bool (!qEY a b),?_,zO _ rfl⟩;rw[binOp_string_neq,ByteArray.toList_eq,ByteArray.toList_eq];rfl
    · cases hp;refine⟨.string (a++b),?_,zO _ rfl⟩;rw[binOp_string_add,run_string_add_sum _ _ _ hob]
    · cases hp
  · rename_i xs ys;split at hp
    · cases hg:P.eqGuardType P.depth t with
      |true=>rw[hg] at hp;cases hp
      | false=>
        rw[hg] at hp;simp only[kq] at hp;split at hp
        · rename_i b hb;cases hp;have he:=HY (P:=P) (w:=w) (M:=M) 9 10000 t _ _ v u b (by omega) hv hu hb;obtain⟨vs,rfl,_⟩:=hv;obtain⟨us,rfl,_⟩:=hu;refine⟨.bool b,?_,zO _ rfl⟩;simp only[Sem.run_bind,run_eqGuard_agg w _ t ox oy vs us hg,Result.andThen_ok,run_eql_struct,he]
        · cases hp
    · cases hg:P.eqGuardType P.depth t with
      |true=>rw[hg] at hp;cases hp
      | false=>
        rw[hg] at hp;simp only[kq] at hp;split at hp
        · rename_i b hb;cases hp;have he:=HY (P:=P) (w:=w) (M:=M) 9 10000 t _ _ v u b (by omega) hv hu hb;obtain⟨vs,rfl,_⟩:=hv;obtain⟨us,rfl,_⟩:=hu;refine⟨.bool (!b),?_,zO _ rfl⟩;simp only[Sem.run_bind,run_eqGuard_agg w _ t ox oy vs us hg,Result.andThen_ok,run_neq_struct,he]
        · cases hp
    · cases hp
  · rename_i id k j;rw[v1_val hu];obtain⟨b,rfl,_⟩:=(show CRep w M (.bptr id k j) v from hv)
    have he:∀e,P.underlying t=some (.pointer e)->(Op.equal t (.pointer (some ⟨b,j,Option.none⟩)) (.pointer Option.none)).run P w= .ok false w:=λe ht=>qId w 9999 t e _ ht;split at hp
    · rename_i ht;cases hp;refine⟨.bool false,?_,zO _ rfl⟩;show((do pure (.bool (<-Op.equal t (.pointer (some ⟨b,j,Option.none⟩)) (.pointer Option.none)))):Sem Value).run P w=_;simp only[Sem.run_bind,he _ ht,Result.andThen_ok,Sem.run_pure]
    · rename_i ht;cases hp;refine⟨.bool true,?_,zO _ rfl⟩;show((do pure (.bool (!(<-Op.equal t (.pointer (some ⟨b,j,Option.none⟩)) (.pointer Option.none))))):Sem Value).run P w=_;simp only[Sem.run_bind,he _ ht,Result.andThen_ok,Sem.run_pure];rfl
    · cases hp
  · rw[v1_val hv,v1_val hu];have he:∀e,P.underlying t=some (.pointer e)->(Op.equal t (.pointer Option.none) (.pointer Option.none)).run P w= .ok true w:=λe ht=>qII w 9999 t e ht;split at hp
    · rename_i ht;cases hp;refine⟨.bool true,?_,zO _ rfl⟩;show((do pure (.bool (<-Op.equal t (.pointer Option.none) (.pointer Option.none)))):Sem Value).run P w=_;simp only[Sem.run_bind,he _ ht,Result.andThen_ok,Sem.run_pure]
    · rename_i ht;cases hp;refine⟨.bool false,?_,zO _ rfl⟩;show((do pure (.bool (!(<-Op.equal t (.pointer Option.none) (.pointer Option.none))))):Sem Value).run P w=_;simp only[Sem.run_bind,he _ ht,Result.andThen_ok,Sem.run_pure];rfl
    · cases hp
  · cases hp
end Go.SL

namespace Go.SL
open Go.RowKit
def V1.cells :V1->List C
 | .one c=>[c]
 | .agg cs=>cs
theorem qH3 {v:Value} (h:v.oneCell'=true):v.cells= #[v]:=by
 cases v<;>first|rfl|cases h
theorem AZ {w:World} {M:Mem} {x:V1} {v:Value} (h:qP w M x v):zW w M x.cells v.cells:=by
 cases x with
 |one c=>
  rw[qH3 (CRep.cell h)];refine⟨rfl,λj hj=>?_⟩;have:j=0:=by simp[V1.cells] at hj;omega
  subst this;exact h
 |agg cs=>obtain⟨vs,rfl,hr⟩:=h;exact hr
def jE (cs:List C) (off:Nat) (xs:List C):List C:=cs.take off++xs++cs.drop (off+xs.length)
theorem qIq (vs:List Value):∀(off m:Nat) (arr:Array Value),(List.foldl (fun(cs:Array Value) (p:Value×Nat)=>cs.setIfInBounds (off+p.2) p.1) arr (vs.zipIdx m)).size=arr.size/\
  ∀j,off+m+vs.length<=arr.size->(List.foldl (fun(cs:Array Value) (p:Value×Nat)=>cs.setIfInBounds (off+p.2) p.1) arr (vs.zipIdx m)).getD j undef=if off+m<=j/\j<off+m+vs.length then vs.getD (j-(off+m)) undef else arr.getD j undef:=by
 induction vs with
 |nil=>intro off m arr;exact⟨rfl,λj _=>by rw[if_neg (by simp)];rfl⟩
 |cons v vs ih=>
  intro off m arr;simp only[List.zipIdx_cons,List.foldl_cons];obtain⟨h1,h2⟩:=ih off (m+1) (arr.setIfInBounds (off+m) v);refine⟨by rw[h1];simp,λj hj=>?_⟩;simp only[List.length_cons] at hj⊢;rw[h2 j (by simp;omega)];by_cases hc:off+(m+1)<=j/\j<off+(m+1)+vs.length
  ·rw[if_pos hc,if_pos (by omega)];have:j-(off+m)=(j-(off+(m+1)))+1:=by omega
   rw[this,List.getD_cons_succ]
  ·rw[if_neg hc];by_cases he:j=off+m
   ·subst he;rw[if_pos (by omega)];have:off+m<arr.size:=by omega
    simp[this]
   ·rw[if_neg (by omega)];simp only[ke];rw[kP (by omega)]
theorem qHR {w:World} {M:Mem} {cs xs:List C} {arr:Array Value} {vs:Array Value} {off:Nat} (hc:zW w M cs arr) (hx:zW w M xs vs) (hb:off+xs.length<=cs.length):
  zW w M (jE cs off xs) (vs.zipIdx.foldl (λcs p=>cs.setIfInBounds (off+p.2) p.1) arr):=by
 have he:vs.zipIdx.foldl (fun(cs:Array Value) p=>cs.setIfInBounds (off+p.2) p.1) arr=List.foldl (fun(cs:Array Value) (p:Value×Nat)=>cs.setIfInBounds (off+p.2) p.1) arr (vs.toList.zipIdx 0):=by
  rw[<-Array.foldl_toList,Array.toList_zipIdx]
 rw[he];obtain⟨h1,h2⟩:=qIq vs.toList off 0 arr;have hcs:=hc.1;have hxs:=hx.1;have hvl:vs.toList.length=xs.length:=by simpa using hxs
 refine⟨by rw[h1];simp[jE];omega,λj hj=>?_⟩;have hj':j<cs.length:=by simp[jE] at hj;omega
 rw[h2 j (by omega)];unfold jE;simp only[ud,hvl];by_cases h:off<=j/\j<off+xs.length
 ·rw[if_pos h];have:=hx.2 (j-off) (by omega);simp only[ka,ke] at this⊢;rw[ua,kF (by simp;omega),kG (by simp;omega)];simp only[kY,uj (show off<=cs.length by omega),uz];exact this
 ·rw[if_neg h];have:=hc.2 j hj';simp only[ka,ke] at this⊢;by_cases hlt:j<off
  ·rw[ua,kG (by simp;omega),kW,if_pos hlt];exact this
  ·rw[kF (by simp;omega),uh];simp only[kX,kY,uj (show off<=cs.length by omega)];rw[show off+xs.length+(j-(off+xs.length))=j by omega];exact this
def NO (place:Nat->Option (Nat×Nat)) (cells:List C):List (Nat×V1)->Option (List C)
 |[]=>some cells
 |(i,x)::rest=>
  match place i with
  |none=>none
  |some (off,size)=>bif Nat.beq x.cells.length size&&Nat.ble (off+x.cells.length) cells.length then NO place (jE cells off x.cells) rest else none
theorem HZ {w:World} {M:Mem} {place:Nat->Option (Nat×Nat)}:∀(ps:List (Nat×V1)) (qs:List (Nat×Value)) (cs:List C) (arr:Array Value) (out:List C),zW w M cs arr->
  (ps.length=qs.length/\∀j,j<ps.length->(ps.getD j (0,.one .unk)).1=(qs.getD j (0,undef)).1/\qP w M (ps.getD j (0,.one .unk)).2 (qs.getD j (0,undef)).2)->NO place cs ps=some out->
  ∃arr',Instr.fill place arr qs=some arr'/\zW w M out arr'
 |[],[],cs,arr,out,hc,_,h=>by cases h;exact⟨arr,rfl,hc⟩
 |[],q::qs,_,_,_,_,hp,_=>by simp at hp
 |p::ps,[],_,_,_,_,hp,_=>by simp at hp
 |(i,x)::ps,(i',v)::qs,cs,arr,out,hc,hp,h=>by
  have h0:=hp.2 0 (by simp);simp only[uv] at h0;obtain⟨hi,hx⟩:=h0;subst hi;simp only[NO] at h;simp only[Instr.fill];split at h
  ·cases h
  ·rename_i off size hpl;rw[hpl];simp only;cases hb:Nat.beq x.cells.length size&&Nat.ble (off+x.cells.length) cs.length with
   |false=>rw[hb] at h;cases h
   |true=>
    rw[hb] at h;simp only[kr] at h;simp only[kf] at hb;have h1:=kd hb.1;have h2:=kO hb.2;have hxc:=AZ hx;have hs1:=hxc.1;have hs2:=hc.1;rw[if_neg (by simp;omega)];exact HZ ps qs _ _ out (qHR hc hxc h2) ⟨by simpa using hp.1,λj hj=>by simpa using hp.2 (j+1) (by simp;omega)⟩ h
def szOf (P:Program) (t:TypeId):Nat:=match P.info? t with|some i=>i.size|none=>0
def KH (P:Program) (t:TypeId):Option (List C):=
 match P.info? t with
 |some i=>match i.zero with|some z=>bif z.cells.toList.all Value.oneCell' then some (z.cells.toList.map qAd) else none|none=>none
 |none=>none
theorem TD {P:Program} {t:TypeId} {cs:List C} (h:KH P t=some cs) (w:World) (M:Mem):∃z,(zeroValue t).run P w= .ok z w/\zW w M cs z.cells:=by
 unfold KH at h;split at h
 ·rename_i i hi;split at h
  ·rename_i z hz;cases hb:z.cells.toList.all Value.oneCell' with
   |false=>rw[hb] at h;cases h
   |true=>
    rw[hb] at h;cases h;refine⟨z,by simp[zeroValue,typeInfo,hi,hz],by simp,λj hj=>?_⟩;have hj':j<z.cells.toList.length:=by simpa using hj
    have:=constC_rep (w:=w) (M:=M) (kv.1 hb _ (uo hj'));simpa[ka,kD,ki hj',ke,ko (show j<z.cells.size by simpa using hj')] using this
  ·cases h
 ·cases h
theorem AE {P:Program} (w:World):∀(l:List Field),l.all (λf=>(P.info? f.type).isSome)=true->(l.mapM λf=>do pure (f.offset,<-sizeOf f.type):Sem (List (Nat×Nat))).run P w= .ok (l.map λf=>(f.offset,szOf P f.type)) w
 |[],_=>rfl
 |f::l,h=>by
  simp only[List.all_cons,kf,kQ] at h;obtain⟨⟨i,hi⟩,h2⟩:=h;rw[List.mapM_cons];simp only[Sem.run_bind,zF hi,Result.andThen_ok,Sem.run_pure,AE w l h2,ul,szOf,hi]
def qB6 (P:Program) (t:TypeId) (parts:List (Nat×V1)):Option (V×Prop):=
 match P.underlying t,KH P t with
 | some (.struct fs),some z=>bif fs.toList.all (λf=>(P.info? f.type).isSome) then
   (NO (λi=>(fs.toList.map λf=>(f.offset,szOf P f.type))[i]?) z parts).map λcs=>(.v (.agg cs),True) else none
 |some (.array _ e),some z=>match P.info? e with|some i=>(NO (λj=>some (j*i.size,i.size)) z parts).map λcs=>(.v (.agg cs),True)|none=>none
 |_,_=>none
def qGu (w:World) (M:Mem) (ps:List (Nat×V1)) (qs:List (Nat×Value)):Prop:=
 ps.length=qs.length/\∀j,j<ps.length->(ps.getD j (0,.one .unk)).1=(qs.getD j (0,undef)).1/\qP w M (ps.getD j (0,.one .unk)).2 (qs.getD j (0,undef)).2
theorem qHJ {P:Program} {w:World} {M:Mem} {t:TypeId} {ps:List (Nat×V1)} {qs:Array (Nat×Value)} (hps:qGu w M ps qs.toList) {y:V} {ob:Prop} (hp:qB6 P t ps=some (y,ob)):
  ∃r,(Instr.build t qs).run P w= .ok r w/\VRep w M y r:=by
 unfold qB6 at hp;split at hp
 ·rename_i fs z ht hz;cases hb:fs.toList.all (λf=>(P.info? f.type).isSome) with
  |false=>rw[hb] at hp;cases hp
  |true=>
   rw[hb] at hp;simp only[kr] at hp;cases hf:NO (λi=>(fs.toList.map λf=>(f.offset,szOf P f.type))[i]?) z ps with
   |none=>rw[hf] at hp;cases hp
   |some cs=>
    rw[hf] at hp;cases hp;obtain⟨zv,hzr,hzc⟩:=TD hz w M;obtain⟨arr',hfill,hout⟩:=HZ ps qs.toList z zv.cells cs hzc hps hf;refine⟨.agg arr',?_,arr',rfl,hout⟩;have hm:(fs.mapM λf=>do pure (f.offset,<-sizeOf f.type):Sem (Array (Nat×Nat))).run P w= .ok (fs.toList.map λf=>(f.offset,szOf P f.type)).toArray w:=by
     rw[Array.mapM_eq_mapM_toList,Sem.run_map,AE w _ hb];rfl
    have hfun:(λx:Nat=>(fs.toList.map λf=>(f.offset,szOf P f.type)).toArray[x]?)=λi=>(fs.toList.map λf=>(f.offset,szOf P f.type))[i]? :=by
     funext i;exact uM
    simp only[Instr.build,Sem.run_bind,hzr,Result.andThen_ok,run_underlying ht,hm,hfun,hfill,Sem.run_pure]
 ·rename_i n e z ht hz;split at hp
  ·rename_i i hi;cases hf:NO (λj=>some (j*i.size,i.size)) z ps with
   |none=>rw[hf] at hp;cases hp
   |some cs=>
    rw[hf] at hp;cases hp;obtain⟨zv,hzr,hzc⟩:=TD hz w M;obtain⟨arr',hfill,hout⟩:=HZ ps qs.toList z zv.cells cs hzc hps hf;refine⟨.agg arr',?_,arr',rfl,hout⟩;simp only[Instr.build,Sem.run_bind,hzr,Result.andThen_ok,run_underlying ht,zF hi,hfill,Sem.run_pure]
  ·cases hp
 ·cases hp
def lenV (P:Program) (t:TypeId) (x:V1):Option (V×Prop):=
 match P.underlying t,x with
 |some (.slice _),.one (.lst n _)=>some (.v (.one (.val (.int .i64 n))),True)
 |some (.slice _),.one (.own _ _ _ n)=>some (.v (.one (.val (.int .i64 n))),True)
 |some (.slice _),.one .emp=>some (.v (.one (.val (.int .i64 0))),True)
 |some .string,.one (.val (.string b))=>some (.v (.one (.val (.int .i64 b.size))),True)
 |some (.array n _),_=>some (.v (.one (.val (.int .i64 n))),True)
 |_,_=>none
theorem qJo {P:Program} {w:World} {M:Mem} {t ty:TypeId} {x:V1} {v:Value} (hv:qP w M x v) {y:V} {ob:Prop} (hp:lenV P t x=some (y,ob)):
  ∃r,(Builtin.len_ #[t] ty #[v]).run P w= .ok r w/\VRep w M y r:=by
 unfold lenV at hp;split at hp
 ·rename_i e n f ht;cases hp;refine⟨.int .i64 n,?_,zO _ rfl⟩;cases hv<;>simp[Builtin.len_,run_underlying ht,goInt]
 ·rename_i e id k sz n ht;cases hp;refine⟨.int .i64 n,?_,zO _ rfl⟩;rcases hv with⟨h0,a,rfl⟩|⟨b,cap,rfl,_⟩<;>simp[Builtin.len_,run_underlying ht,goInt]
  omega
 ·rename_i e ht;cases hp;refine⟨.int .i64 0,?_,zO _ rfl⟩;cases hv;simp[Builtin.len_,run_underlying ht,goInt]
 ·rename_i b ht;cases hp;refine⟨.int .i64 b.size,?_,zO _ rfl⟩;rw[v1_val hv];simp[Builtin.len_,run_underlying ht,goInt]
 ·rename_i n e ht;cases hp;refine⟨.int .i64 n,?_,zO _ rfl⟩;simp[Builtin.len_,run_underlying ht,goInt]
 ·cases hp
def mm1 (mx:Bool):Option V1->V1->Option V1
 |some (.one (.val (.int k a))),.one (.val (.int _ b))=>some (.one (.val (.int k (bif mx then(if b>a then b else a) else(if b<a then b else a)))))
 |_,_=>none
def mmV (mx:Bool):List V1->Option V1
 | .one (.val (.int k a))::rest=>rest.foldl (mm1 mx) (some (.one (.val (.int k a))))
 |_=>none
theorem qHc (mx:Bool):∀l:List V1,List.foldl (mm1 mx) none l=none
 |[]=>rfl
 |_::l=>qHc mx l
theorem qG6 {P:Program} {w:World} {M:Mem} (mx:Bool):∀(xs:List V1) (vs:List Value) (x:V1) (v:Value) (z:V1),xs.length=vs.length->(∀j,j<xs.length->qP w M (xs.getD j (.one .unk)) (vs.getD j undef))->qP w M x v->
  xs.foldl (mm1 mx) (some x)=some z->∃r,(vs.foldlM (bif mx then Builtin.max2 else Builtin.min2) v:Sem Value).run P w= .ok r w/\qP w M z r
 |[],[],x,v,z,_,_,hx,h=>by cases h;exact⟨v,rfl,hx⟩
 |[],v::vs,_,_,_,hl,_,_,_=>by simp at hl
 |x::xs,[],_,_,_,hl,_,_,_=>by simp at hl
 |y::xs,u::vs,x,v,z,hl,hr,hx,h=>by
  have h0:=hr 0 (by simp);simp only[uv] at h0;simp only[List.foldl_cons] at h;unfold mm1 at h;split at h
  ·rename_i k a kk b heq;cases heq;have e1:=v1_val hx;have e2:=v1_val h0;subst e1 e2;obtain⟨r,hr1,hr2⟩:=qG6 (P:=P) mx xs vs _ _ z (by simpa using hl) (λj hj=>by simpa using hr (j+1) (by simp;omega)) (zO (.int k (bif mx then(if b>a then b else a) else(if b<a then b else a))) rfl) h;refine⟨r,?_,hr2⟩;simp only[List.foldlM_cons,Sem.run_bind];cases mx<;>simpa[Builtin.max2,Builtin.min2] using hr1
  ·have:=qHc mx xs;unfold mm1 at this;rw[this] at h;cases h
theorem qHj {P:Program} {w:World} {M:Mem} {mx:Bool} {ats:Array TypeId} {ty:TypeId} {xs:List V1} {vs:Array Value} (hl:xs.length=vs.size) (hr:∀j,j<xs.length->qP w M (xs.getD j (.one .unk)) (vs.getD j undef)) {z:V1} (h:mmV mx xs=some z):
  ∃r,(bif mx then Builtin.max_ ats ty vs else Builtin.min_ ats ty vs).run P w= .ok r w/\qP w M z r:=by
 obtain⟨vs⟩:=vs;unfold mmV at h;split at h
 ·rename_i k a rest
  match vs,hl with
  |u::vs,hl=>
   have h0:=hr 0 (by simp);simp only[uv] at h0;have h0':qP w M (.one (.val (.int k a))) u:=by simpa using h0
   obtain⟨r,h1,h2⟩:=qG6 (P:=P) mx rest vs _ u z (by simpa using hl) (λj hj=>by
    have:=hr (j+1) (by simp;omega);simpa[ke,ka] using this) h0' h
   refine⟨r,?_,h2⟩;cases mx<;>simpa[Builtin.max_,Builtin.min_] using h1
 ·cases h
def unV (op:UnOp) (x:V1):Option (V×Prop):=
 match op,x with
 | .not,.one (.val (.bool b))=>some (.v (.one (.val (.bool !b))),True)
 | .neg,.one (.val (.int k n))=>some (.v (.one (.val (.int k (k.wrap (0-n))))),True)
 | .xor,.one (.val (.int k n))=>some (.v (.one (.val (.int k (notI k n)))),True)
 |_,_=>none
theorem unV_rep {P:Program} {w:World} {M:Mem} {op:UnOp} {x:V1} {v:Value} (hv:qP w M x v) {y:V} {ob:Prop} (hp:unV op x=some (y,ob)):∃r,(Op.unary op v).run P w= .ok r w/\VRep w M y r:=by
 unfold unV at hp;split at hp
 ·cases hp;rw[v1_val hv];exact⟨_,rfl,zO _ rfl⟩
 ·cases hp;rw[v1_val hv];exact⟨_,rfl,zO _ rfl⟩
 ·cases hp;rw[v1_val hv];exact⟨_,rfl,zO _ rfl⟩
 ·cases hp
def u8Of :List C->Int
 |[.val (.int _ z)]=>z
 |_=>0
def FB (n:Nat) (f:Nat->List C):ByteArray:=((List.range n).map λj=>u8Of (f j)).foldl (λr z=>r.push (UInt8.ofNat z.toNat)) ByteArray.empty
def qEW (P:Program) (src dst:TypeId) (x:V1):Option (V×Prop):=
 match P.underlying src,P.underlying dst,x with
 |some _,some (.int k),.one (.val (.int _ n))=>some (.v (.one (.val (.int k (k.wrap n)))),True)
 |some (.slice e),some .string,.one (.lst n f)=>(match P.underlying e with|some (.int .u8)=>some (.v (.one (.val (.string (FB n f)))),∀j,j<n->∃z,f j=[.val (.int .u8 z)])|_=>none)
 |some (.slice e),some .string,.one .emp=>(match P.underlying e with|some (.int .u8)=>some (.v (.one (.val (.string (FB 0 λ_=>[])))),True)|_=>none)
 |_,_,_=>none
theorem bts_rep {P:Program} {w:World} {ok:Nat->Prop} {n:Nat} {f:Nat->List C} {v:Value} (h:IRep w ok (.lst n f) v) (hu:∀j,j<n->∃z,f j=[.val (.int .u8 z)]):(Conv.bytesToString v).run P w= .ok (.string (FB n f)) w:=by
 cases h with
 |lst0 a=>
  cases a with
  |none=>rfl
  |some a=>
   rw[run_bytesToString w a 0 0 [] (by rw[run_loadCells w a 0 (λ_=>Value.bool false) (λj hj=>by omega)];rfl)];rfl
 |lst b o n cap sz f g hn hm hl hb hc hr=>
  rw[run_bytesToString w ⟨b,o,none⟩ n cap ((List.range n).map λj=>u8Of (f j))]
  ·rfl
  ·rw[run_loadCells w ⟨b,o,none⟩ n (λj=> .int .u8 (u8Of (f j))) (λj hj=>?_)]
   ·simp[List.map_map,Function.comp_def]
   ·obtain⟨z,hz⟩:=hu j hj;have hsz:sz=1:=by rw[<-hl j hj,hz];rfl
    subst hsz;have h1:=hc j 0 hj (by omega);have h2:=hr j 0 hj (by omega);rw[hz] at h2;have h3:=IRep.val_eq h2;rw[hz];simp only[Nat.mul_one,ud] at h1;have e:(⟨b,o,none⟩:Addr).add j=⟨b,o+j,none⟩:=by simp[Addr.add]
    rw[e,h1,h3];rfl
theorem qIu {P:Program} {w:World} {M:Mem} {src dst:TypeId} {x:V1} {v:Value} (hv:qP w M x v) {y:V} {ob:Prop} (hp:qEW P src dst x=some (y,ob)) (hob:ob):∃r,(convert src dst v).run P w= .ok r w/\VRep w M y r:=by
 unfold qEW at hp;split at hp
 ·rename_i d k kk n hs hd;cases hp;rw[v1_val hv];refine⟨.int k (k.wrap n),?_,zO _ rfl⟩;simp only[convert,Sem.run_bind,run_underlying hs,run_underlying hd,Result.andThen_ok];cases d<;>rfl
 ·rename_i e n f hs hd;split at hp
  ·rename_i he;cases hp;have hi:IRep w M.imm (.lst n f) v:=hv;have hb:=bts_rep (P:=P) hi hob;refine⟨_,?_,zO _ rfl⟩;simp only[convert,Sem.run_bind,run_underlying hs,run_underlying hd,Result.andThen_ok];cases hi<;>simp only[run_underlying he,Sem.run_bind,Result.andThen_ok]<;>exact hb
  ·cases hp
 ·rename_i e hs hd;split at hp
  ·rename_i he;cases hp;have hi:IRep w M.imm .emp v:=hv;refine⟨.string (FB 0 λ_=>[]),?_,zO _ rfl⟩;simp only[convert,Sem.run_bind,run_underlying hs,run_underlying hd,Result.andThen_ok];cases hi with
   |emp a=>
    simp only[run_underlying he,Sem.run_bind,Result.andThen_ok];cases a with
    |none=>rfl
    |some a=>
     rw[run_bytesToString w a 0 0 [] (by rw[run_loadCells w a 0 (λ_=>Value.bool false) (λj hj=>by omega)];rfl)];rfl
  ·cases hp
 ·cases hp
def qAK (P:Program) (st:St) (src dst:TypeId) (x:V1):Option (V×Prop):=
 match P.underlying src,P.underlying dst,x with
 |some (.slice e),some .string,.one (.own id k 1 n)=>(match P.underlying e,look id st.objs with
  |some (.int .u8),some (k',.row _ 1 m f)=>bif Nat.beq k k' then some (.v (.one (.val (.string (FB n f)))),n<=m/\∀j,j<n->∃z,f j=[.val (.int .u8 z)]) else none
  |_,_=>none)
 |_,_,_=>none
theorem qGM {K:Ctx} {M:Mem} {st:St} {a:Act} {w:World} (h:Sim K M st a w) {src dst:TypeId} {x:V1} {v:Value} (hv:qP w M x v) {y:V} {ob:Prop} (hp:qAK K.P st src dst x=some (y,ob)) (hob:ob):∃r,(convert src dst v).run K.P w= .ok r w/\VRep w M y r:=by
 unfold qAK at hp;split at hp
 ·rename_i e id k n hs hd;split at hp
  ·rename_i k' t m f he hl;cases hk:Nat.beq k k' with
   |false=>rw[hk] at hp;cases hp
   |true=>
    rw[hk] at hp;cases hp;have hkk:=kd hk;subst hkk;refine⟨_,?_,zO _ rfl⟩;simp only[convert,Sem.run_bind,run_underlying hs,run_underlying hd,Result.andThen_ok];have hc:CRep w M (.own id k 1 n) v:=hv;rcases hc with⟨rfl,q,rfl⟩|⟨b,cap,rfl,h1,h2,h3⟩
    ·simp only[run_underlying he,Sem.run_bind,Result.andThen_ok];cases q with
     |none=>rfl
     |some q=>
      rw[run_bytesToString w q 0 0 [] (by rw[run_loadCells w q 0 (λ_=>Value.bool false) (λj hj=>by omega)];rfl)];rfl
    ·simp only[run_underlying he,Sem.run_bind,Result.andThen_ok];obtain⟨hver,hrow⟩:=h.objs id k _ hl;obtain⟨hb,_⟩:=h3 hver;rw[run_bytesToString w ⟨b,0,none⟩ n cap ((List.range n).map λj=>u8Of (f j))]
     ·rfl
     ·rw[run_loadCells w ⟨b,0,none⟩ n (λj=> .int .u8 (u8Of (f j))) (λj hj=>?_)]
      ·simp[List.map_map,Function.comp_def]
      ·rcases hrow with⟨_,h0⟩|⟨b',arr,hb',hh,hsz,hc⟩
       ·omega
       ·rw[hb] at hb';cases hb';obtain⟨z,hz⟩:=hob.2 j hj;have h4:=(hc j (by omega)).2 0 (by omega);rw[hz] at h4;have h5:=IRep.val_eq h4;have e:(⟨b,0,none⟩:Addr).add j=⟨b,0+j,none⟩:=by unfold Addr.add;split<;>simp_all
        rw[e,hz,kz,cell_of_row' hh (by omega)];simp only[Nat.mul_one,ud] at h5;rw[h5];rfl
  ·cases hp
 ·cases hp
def qFb (P:Program) (t:TypeId) (x:V1) (lo hi mx:Option V1):Option (V×Prop):=
 match P.underlying t with
 |some (.slice e)=>bif (P.info? e).isSome then
  match x,lo,hi,mx with
  | .one (.own id k sz len),none,some (.one (.val (.int _ h))),none=>some (.v (.one (.own id k sz h.toNat)),0<=h/\h<=(len:Int))
  | .one (.lst _ _),none,some (.one (.val (.int _ h))),some (.one (.val (.int _ m)))=>bif decide (h=0)&&decide (m=0) then some (.v (.one .emp),True) else none
  | .one .emp,none,some (.one (.val (.int _ h))),some (.one (.val (.int _ m)))=>bif decide (h=0)&&decide (m=0) then some (.v (.one .emp),True) else none
  | .one (.own _ _ _ _),none,some (.one (.val (.int _ h))),some (.one (.val (.int _ m)))=>bif decide (h=0)&&decide (m=0) then some (.v (.one .emp),True) else none
  | .one (.lst n f),none,some (.one (.val (.int _ h))),none=>bif Nat.beq (f 0).length (szOf P e) then some (.v (.one (.lst (h.toNat-0) λi=>f (0+i))),0<=h/\h<=(n:Int)) else none
  | .one (.lst n f),some (.one (.val (.int _ l))),none,none=>bif Nat.beq (f 0).length (szOf P e) then some (.v (.one (.lst (n-l.toNat) λi=>f (l.toNat+i))),0<=l/\l<=(n:Int)) else none
  | .one (.lst n f),some (.one (.val (.int _ l))),some (.one (.val (.int _ h))),none=>bif Nat.beq (f 0).length (szOf P e) then some (.v (.one (.lst (h.toNat-l.toNat) λi=>f (l.toNat+i))),0<=l/\l<=h/\h<=(n:Int)) else none
  |_,_,_,_=>none
  else none
 |_=>none
theorem IC {P:Program} {e:TypeId} (h:(P.info? e).isSome=true) (w:World):(sizeOf e).run P w= .ok (szOf P e) w:=by
 obtain⟨i,hi⟩:=kQ.1 h;rw[zF hi];simp[szOf,hi]
theorem qBQ {w:World} {ok:Nat->Prop} {n:Nat} {f:Nat->List C} {v:Value} (h:IRep w ok (.lst n f) v) {sz l h':Nat} (hsz:(f 0).length=sz) (hlh:l<=h') (hn:h'<=n):
  ∃a len cap,v= .slice a len cap/\len=n/\len<=cap/\IRep w ok (.lst (h'-l) λi=>f (l+i)) (.slice (if cap=l then a else a.map (·.add (l*sz))) (h'-l) (cap-l)):=by
 cases h with
 |lst0 a f=>
  refine⟨a,0,0,rfl,rfl,kg _,?_⟩;have:h'-l=0:=by omega
  rw[this,Nat.zero_sub];exact .lst0 _ _
 |lst b o n cap sz' f g hnc hm hl hb hc hr=>
  refine⟨_,n,cap,rfl,rfl,hnc,?_⟩;by_cases hc0:cap=l
  ·have:h'-l=0:=by omega
   rw[this,hc0,Nat.sub_self];exact .lst0 _ _
  ·rw[if_neg hc0];simp only[kI,Addr.add_lit];by_cases hz:h'-l=0
   ·rw[hz];exact .lst b _ 0 _ 0 _ (λ_ _=>undef) (kM _) (by omega) (λi hi=>by omega) (λi j hi=>by omega) (λi j hi=>by omega) (λi j hi=>by omega)
   ·have hss:sz'=sz:=by rw[<-hsz,hl 0 (by omega)]
    subst hss;refine .lst b _ _ _ sz' _ (λi j=>g (l+i) j) (by omega) (by omega) (λi hi=>hl _ (by omega)) (λi j hi hj=>hb (l+i) j (by omega) hj) (λi j hi hj=>?_) (λi j hi hj=>hr (l+i) j (by omega) hj);have:=hc (l+i) j (by omega) hj;rw[<-this]
    congr 2
    rw[kN];omega
theorem zA {P:Program} {w:World} {k:IntKind} {z:Int} {y:Nat} {code:BoundsCode} (h0:0<=z) (h1:z<=y):(Instr.sliceBound (.int k z) y code).run P w= .ok z.toNat w:=by
 simp[Instr.sliceBound,asIntOf,h0,h1]
theorem qHD {P:Program} {w:World} {M:Mem} {t:TypeId} {x:V1} {v:Value} {lo hi mx:Option V1} {lo' hi' mx':Option Value} (hv:qP w M x v)
  (hlo:∀y,lo=some y->∃u,lo'=some u/\qP w M y u) (hlo0:lo=none->lo'=none) (hhi:∀y,hi=some y->∃u,hi'=some u/\qP w M y u) (hhi0:hi=none->hi'=none)
  (hmx:∀y,mx=some y->∃u,mx'=some u/\qP w M y u) (hmx0:mx=none->mx'=none) {y:V} {ob:Prop} (hp:qFb P t x lo hi mx=some (y,ob)) (hob:ob):
  ∃r,(Instr.sliceAt t v lo' hi' mx').run P w= .ok r w/\VRep w M y r:=by
 unfold qFb at hp;split at hp
 ·rename_i e ht;cases hinf:(P.info? e).isSome with
  |false=>rw[hinf] at hp;cases hp
  |true=>
   rw[hinf] at hp;simp only[kr] at hp;have hsz:=IC hinf w;split at hp
   ·rename_i id k sz len kk h;cases hp;obtain⟨u,rfl,hu⟩:=hhi _ rfl;rw[hlo0 rfl,hmx0 rfl,v1_val hu];rcases hv with⟨h0,a,rfl⟩|⟨b,cap,rfl,h1,h2,hx⟩
    ·have hh:h=0:=by omega
     subst hh;refine⟨.slice a 0 0,?_,.inl ⟨rfl,_,rfl⟩⟩;simp[Instr.sliceAt,run_underlying ht,Instr.slice,Instr.sliceBounds,zA,hsz]
    ·refine⟨.slice (some ⟨b,0,none⟩) h.toNat cap,?_,.inr ⟨b,cap,rfl,by omega,h2,hx⟩⟩;have hb:=zA (P:=P) (w:=w) (k:=kk) (z:=h) (y:=cap) (code:= .sliceAcap) hob.1 (by omega);simp[Instr.sliceAt,run_underlying ht,Instr.slice,Instr.sliceBounds,hb,hsz,Addr.add_lit]
   ·rename_i kh h km m;cases hz:decide (h=0)&&decide (m=0) with
    |false=>rw[hz] at hp;cases hp
    |true=>
    rw[hz] at hp;rw[kf,decide_eq_true_eq,decide_eq_true_eq] at hz;obtain⟨rfl,rfl⟩:=hz;cases hp;obtain⟨u,rfl,hu⟩:=hhi _ rfl;obtain⟨u',rfl,hu'⟩:=hmx _ rfl;rw[hlo0 rfl,v1_val hu,v1_val hu'];cases hv with
    |lst0 a f=>
     refine⟨.slice a 0 0,?_,.emp _⟩;simp[Instr.sliceAt,run_underlying ht,Instr.slice,Instr.sliceBounds,zA,hsz]
    |lst b o n cap sz' f g hnc hm hl hb hc hr=>
     refine⟨.slice (some ⟨b,o,none⟩) 0 0,?_,.emp _⟩;simp[Instr.sliceAt,run_underlying ht,Instr.slice,Instr.sliceBounds,zA,hsz]
   ·rename_i kh h km m;cases hz:decide (h=0)&&decide (m=0) with
    |false=>rw[hz] at hp;cases hp
    |true=>
    rw[hz] at hp;rw[kf,decide_eq_true_eq,decide_eq_true_eq] at hz;obtain⟨rfl,rfl⟩:=hz;cases hp;obtain⟨u,rfl,hu⟩:=hhi _ rfl;obtain⟨u',rfl,hu'⟩:=hmx _ rfl;rw[hlo0 rfl,v1_val hu,v1_val hu'];cases hv with
    |emp a=>
     refine⟨.slice a 0 0,?_,.emp _⟩;simp[Instr.sliceAt,run_underlying ht,Instr.slice,Instr.sliceBounds,zA,hsz]
   ·rename_i kh h km m;cases hz:decide (h=0)&&decide (m=0) with
    |false=>rw[hz] at hp;cases hp
    |true=>
    rw[hz] at hp;rw[kf,decide_eq_true_eq,decide_eq_true_eq] at hz;obtain⟨rfl,rfl⟩:=hz;cases hp;obtain⟨u,rfl,hu⟩:=hhi _ rfl;obtain⟨u',rfl,hu'⟩:=hmx _ rfl;rw[hlo0 rfl,v1_val hu,v1_val hu'];rcases hv with⟨h0,a,rfl⟩|⟨b,cap,rfl,h1,h2,hx⟩
    ·refine⟨.slice a 0 0,?_,.emp _⟩;simp[Instr.sliceAt,run_underlying ht,Instr.slice,Instr.sliceBounds,zA,hsz]
    ·refine⟨.slice (some ⟨b,0,none⟩) 0 0,?_,.emp _⟩;simp[Instr.sliceAt,run_underlying ht,Instr.slice,Instr.sliceBounds,zA,hsz]
   ·rename_i n f kk h;cases hb:Nat.beq (f 0).length (szOf P e) with
    |false=>rw[hb] at hp;cases hp
    |true=>
     rw[hb] at hp;cases hp;obtain⟨u,rfl,hu⟩:=hhi _ rfl;rw[hlo0 rfl,hmx0 rfl,v1_val hu];obtain⟨a,len,cap,rfl,hln,hlc,hr⟩:=qBQ hv (l:=0) (h':=h.toNat) (kd hb) (kM _) (by omega);subst hln;refine⟨_,?_,hr⟩;have hb1:=zA (P:=P) (w:=w) (k:=kk) (z:=h) (y:=cap) (code:= .sliceAcap) hob.1 (by omega);simp[Instr.sliceAt,run_underlying ht,Instr.slice,Instr.sliceBounds,hb1,hsz]
   ·rename_i n f kk l;cases hb:Nat.beq (f 0).length (szOf P e) with
    |false=>rw[hb] at hp;cases hp
    |true=>
     rw[hb] at hp;cases hp;obtain⟨u,rfl,hu⟩:=hlo _ rfl;rw[hhi0 rfl,hmx0 rfl,v1_val hu];obtain⟨a,len,cap,rfl,hln,hlc,hr⟩:=qBQ hv (l:=l.toNat) (h':=n) (kd hb) (by omega) (kg _);subst hln;refine⟨_,?_,hr⟩;have hb1:=zA (P:=P) (w:=w) (k:=kk) (z:=l) (y:=len) (code:= .sliceB) hob.1 (by omega);simp[Instr.sliceAt,run_underlying ht,Instr.slice,Instr.sliceBounds,hb1,hsz]
   ·rename_i n f kk l kk' h;cases hb:Nat.beq (f 0).length (szOf P e) with
    |false=>rw[hb] at hp;cases hp
    |true=>
     rw[hb] at hp;cases hp;obtain⟨u,rfl,hu⟩:=hlo _ rfl;obtain⟨u',rfl,hu'⟩:=hhi _ rfl;rw[hmx0 rfl,v1_val hu,v1_val hu'];obtain⟨a,len,cap,rfl,hln,hlc,hr⟩:=qBQ hv (l:=l.toNat) (h':=h.toNat) (kd hb) (by omega) (by omega);subst hln;refine⟨_,?_,hr⟩;have hb1:=zA (P:=P) (w:=w) (k:=kk') (z:=h) (y:=cap) (code:= .sliceAcap) (by omega) (by omega);have hb2:=zA (P:=P) (w:=w) (k:=kk) (z:=l) (y:=h.toNat) (code:= .sliceB) hob.1 (by omega);simp[Instr.sliceAt,run_underlying ht,Instr.slice,Instr.sliceBounds,hb1,hb2,hsz]
   ·cases hp
 ·cases hp
end Go.SL

namespace Go.SL
open Go.RowKit
def HE (gl:List (Nat×C)) (st:St):Option Operand->Option (Option V1)
 |none=>some none
 |some o=>match op1 gl st o with|some x=>some (some x)|none=>none
def opsV (gl:List (Nat×C)) (st:St):List Operand->Option (List V1)
 |[]=>some []
 |o::r=>match op1 gl st o,opsV gl st r with|some x,some xs=>some (x::xs)|_,_=>none
def AA (gl:List (Nat×C)) (st:St):List (Nat×Operand)->Option (List (Nat×V1))
 |[]=>some []
 |(i,o)::r=>match op1 gl st o,AA gl st r with|some x,some xs=>some ((i,x)::xs)|_,_=>none
def EF :List C->Option (IntKind×List Int)
 |[.val (.int k a)]=>some (k,[a])
 | .val (.int k a)::r=>match EF r with|some (k',l)=>if k=k' then some (k,a::l) else none|none=>none
 |_=>none
theorem IU {w:World} {M:Mem}:∀{cs:List C} {k:IntKind} {l:List Int},EF cs=some (k,l)->l.length=cs.length/\∀j v,j<cs.length->CRep w M (cs.getD j .unk) v->v= .int k (l.getD j 0)
 |[],_,_,h=>by cases h
 |c::[],k,l,h=>by
  unfold EF at h;split at h
  ·rename_i k' a heq;cases h;cases heq;refine⟨rfl,λj v hj hr=>?_⟩;have hj0:j=0:=by simp at hj;omega
   subst hj0;exact IRep.val_eq hr
  ·rename_i k' a r hne heq;cases heq;exact absurd rfl hne
  ·cases h
 |c::d::r,k,l,h=>by
  unfold EF at h;split at h
  ·rename_i heq;cases heq
  ·rename_i k' a r' hne heq;cases heq;split at h
   ·rename_i k'' l'' h2;split at h
    ·rename_i hk;subst hk;cases h;obtain⟨i1,i2⟩:=IU (w:=w) (M:=M) h2;refine⟨by simpa using i1,λj v hj hr=>?_⟩;cases j with
     |zero=>exact IRep.val_eq hr
     |succ j=>simpa using i2 j v (by simpa using hj) (by simpa using hr)
    ·cases h
   ·cases h
  ·cases h
def pev (P:Program) (gl:List (Nat×C)) (st:St):Op->Option (V×Prop)
 | .move x| .assign x=>match opV gl st x with|some y=>some (y,True)|none=>none
 | .pick c a b=>match opB st c with|some t=>(match opV gl st (bif t then a else b) with|some y=>some (y,True)|none=>none)|none=>none
 | .binOp op t x y _=>match op1 gl st x,op1 gl st y with|some a,some b=>(match binV P op t a b with|some (z,ob)=>some (.v z,ob)|none=>none)|_,_=>none
 | .unOp op _ x=>match op1 gl st x with|some a=>unV op a|none=>none
 | .convert s d x=>match op1 gl st x with|some a=>(match qAK P st s d a with|some r=>some r|none=>qEW P s d a)|none=>none
 | .load t x=>match op1 gl st x with|some a=>qE0 P st t a|none=>none
 | .fieldAddr s x f=>match op1 gl st x with|some a=>qCD P s a f|none=>none
 | .indexAddr t x i=>match op1 gl st x,op1 gl st i with|some a,some b=>qFF P t a b|_,_=>none
 | .field t x f=>match op1 gl st x,P.underlying t with
  |some (.agg cs),some (.struct fs)=>(match fs[f]? with|some fd=>(match TW P fd.type cs fd.offset with|some y=>some (.v y,True)|none=>none)|none=>none)
  |_,_=>none
 | .index t x i=>match op1 gl st x,op1 gl st i,P.underlying t with
  |some (.agg cs),some (.one (.val (.int _ z))),some (.array len e)=>(match P.info? e,P.underlying e with
   |some ie,some (.int _)=>(match EF cs with|some (k,l)=>bif Nat.beq ie.size 1&&Nat.beq cs.length len then some (.v (.one (.val (.int k (l.getD z.toNat 0)))),0<=z/\z<(len:Int)) else none|none=>none)
   |some ie,some (.struct _)=>(match EF cs with
    |some (k,l)=>bif Nat.beq cs.length (len*ie.size) then some (.v (.agg ((List.range ie.size).map λj=> .val (.int k (l.getD (z.toNat*ie.size+j) 0)))),0<=z/\z<(len:Int)) else none
    |none=>(match TW P e cs (z.toNat*ie.size) with|some y=>some (.v y,0<=z/\z<(len:Int))|none=>none))
   |some ie,some _=>(match TW P e cs (z.toNat*ie.size) with|some y=>some (.v y,0<=z/\z<(len:Int))|none=>none)
   |_,_=>none)
  |some (.one (.val (.string s))),some (.one (.val (.int _ z))),some .string=>some (.v (.one (.val (.int .u8 (ZB s z.toNat)))),0<=z/\z<(s.size:Int))
  |_,_,_=>none
 | .build t parts=>match AA gl st parts.toList with|some ps=>qB6 P t ps|none=>none
 | .slice t x lo hi mx=>match op1 gl st x,HE gl st lo,HE gl st hi,HE gl st mx with|some a,some l,some h,some m=>qFb P t a l h m|_,_,_,_=>none
 | .extract x i=>match opV gl st x with|some (.tup xs)=>(match xs[i]? with|some y=>some (.v y,True)|none=>none)|_=>none
 | .nilCheck x=>match op1 gl st x with
  |some (.one (.bptr id k j))=>some (.v (.one (.bptr id k j)),True)
  |some (.one (.rptr id k sz i j))=>some (.v (.one (.rptr id k sz i j)),True)
  |some (.one (.lptr cs))=>some (.v (.one (.lptr cs)),True)
  |some (.one (.aptr n sz f))=>some (.v (.one (.aptr n sz f)),True)
  |_=>none
 | .call {callee:= .builtin b,args,argTypes}=>match b,opsV gl st args.toList,argTypes.toList with
  | .len,some [x],[t]=>lenV P t x
  | .max,some xs,_=>(match mmV true xs with|some z=>some (.v z,True)|none=>none)
  | .min,some xs,_=>(match mmV false xs with|some z=>some (.v z,True)|none=>none)
  |_,_,_=>none
 |_=>none
section
variable {K :Ctx} {M:Mem} {st:St} {a:Act} {w:World}
theorem RH (h:Sim K M st a w):∀{os:List Operand} {xs:List V1},opsV K.globs st os=some xs->xs.length=os.length/\∀j,j<xs.length->qP w M (xs.getD j (.one .unk)) ((os.map a.eval).getD j undef)
 |[],_,ho=>by cases ho;exact⟨rfl,λj hj=>by simp at hj⟩
 |o::r,xs,ho=>by
  simp only[opsV] at ho;split at ho
  ·rename_i x ys hx hys;cases ho;obtain⟨h1,h2⟩:=RH h hys;refine⟨by simp[h1],λj hj=>?_⟩;cases j with
   |zero=>exact op1_rep h hx
   |succ j=>simpa using h2 j (by simpa using hj)
  ·cases ho
theorem zbQ (h:Sim K M st a w):∀{os:List (Nat×Operand)} {xs:List (Nat×V1)},AA K.globs st os=some xs->qGu w M xs (os.map λp=>(p.1,a.eval p.2))
 |[],_,ho=>by cases ho;exact⟨rfl,λj hj=>by simp at hj⟩
 |(i,o)::r,xs,ho=>by
  simp only[AA] at ho;split at ho
  ·rename_i x ys hx hys;cases ho;obtain⟨h1,h2⟩:=zbQ h hys;refine⟨by simpa using h1,λj hj=>?_⟩;cases j with
   |zero=>exact⟨rfl,op1_rep h hx⟩
   |succ j=>simpa using h2 j (by simpa using hj)
  ·cases ho
theorem jX (h:Sim K M st a w) {o:Option Operand} {x:Option V1} (ho:HE K.globs st o=some x):(∀y,x=some y->∃u,o.map a.eval=some u/\qP w M y u)/\(x=none->o.map a.eval=none):=by
 cases o with
 |none=>cases ho;exact⟨λy hy=>(by cases hy),λ_=>rfl⟩
 |some o=>
  simp only[HE] at ho;split at ho
  ·rename_i y hy;cases ho;exact⟨λz hz=>by cases hz;exact⟨_,rfl,op1_rep h hy⟩,λhn=>by cases hn⟩
  ·cases ho
theorem jJ {P:Program} {w:World} {s:Sem Value} {r:Value} (h:s.run P w= .ok r w):(do pure (Next.value (<-s)):Sem Next).run P w= .ok (.value r) w:=by
 simp only[Sem.run_bind,h,Result.andThen_ok,Sem.run_pure]
theorem MG (h:Sim K M st a w) {o:Oper} {y:V} {ob:Prop} (hp:pev K.P K.globs st o.op=some (y,ob)) (hob:ob):∃v,(execOp a.eval o).run K.P w= .ok (.value v) w/\VRep w M y v:=by
 obtain⟨dst,op,type,pos,after,guard⟩:=o;simp only at hp;cases op with
 |move x=>
  simp only[pev] at hp;split at hp
  ·rename_i z hz;cases hp;exact⟨_,rfl,opV_rep h hz⟩
  ·cases hp
 |assign x=>
  simp only[pev] at hp;split at hp
  ·rename_i z hz;cases hp;exact⟨_,rfl,opV_rep h hz⟩
  ·cases hp
 |pick c x z=>
  simp only[pev] at hp;split at hp
  ·rename_i t ht;split at hp
   ·rename_i y' hy';cases hp;have hc:=qDU h ht;refine⟨_,?_,opV_rep h hy'⟩;cases t<;>simp[execOp,hc,asBool]
   ·cases hp
  ·cases hp
 |binOp op t x z tz=>
  simp only[pev] at hp;split at hp
  ·rename_i x' z' hx hz;split at hp
   ·rename_i r ob' hb;cases hp;obtain⟨v,hv,hr⟩:=qJd (op1_rep h hx) (op1_rep h hz) hb hob x z;exact⟨v,jJ hv,hr⟩
   ·cases hp
  ·cases hp
 |unOp op t x=>
  simp only[pev] at hp;split at hp
  ·rename_i x' hx;obtain⟨v,hv,hr⟩:=unV_rep (op1_rep h hx) hp;exact⟨v,jJ hv,hr⟩
  ·cases hp
 |convert s d x=>
  simp only[pev] at hp;split at hp
  ·rename_i x' hx;split at hp
   ·rename_i r hr0;cases hp;obtain⟨v,hv,hr⟩:=qGM h (op1_rep h hx) hr0 hob;exact⟨v,jJ hv,hr⟩
   ·obtain⟨v,hv,hr⟩:=qIu (op1_rep h hx) hp hob;exact⟨v,jJ hv,hr⟩
  ·cases hp
 |load t x=>
  simp only[pev] at hp;split at hp
  ·rename_i x' hx;obtain⟨v,hv,hr⟩:=qIl h (op1_rep h hx) hp hob;exact⟨v,jJ hv,hr⟩
  ·cases hp
 |fieldAddr s x f=>
  simp only[pev] at hp;split at hp
  ·rename_i x' hx;obtain⟨v,hv,hr⟩:=qHS (op1_rep h hx) hp;exact⟨v,jJ hv,hr⟩
  ·cases hp
 |indexAddr t x i=>
  simp only[pev] at hp;split at hp
  ·rename_i x' i' hx hi;obtain⟨v,hv,hr⟩:=qHy (op1_rep h hx) (op1_rep h hi) hp hob;exact⟨v,jJ hv,hr⟩
  ·cases hp
 |field t x f=>
  simp only[pev] at hp;split at hp
  ·rename_i cs fs hx ht;split at hp
   ·rename_i fd hfd;split at hp
    ·rename_i z hz;cases hp;obtain⟨vs,hvs,hcs⟩:=op1_rep h hx;obtain⟨v,hv,hr⟩:=JE hz hcs;refine⟨v,jJ ?_,hr⟩;simp only[Instr.field,Sem.run_bind,run_underlying ht,Result.andThen_ok,hfd,hvs,asAgg,Sem.run_pure,hv]
    ·cases hp
   ·cases hp
  ·cases hp
 |index t x i=>
  simp only[pev] at hp;split at hp
  ·rename_i cs kk z len e hx hi ht;split at hp
   ·rename_i ie k0 hie hue;split at hp
    ·rename_i k l hints;cases hb:Nat.beq ie.size 1&&Nat.beq cs.length len with
     |false=>rw[hb] at hp;cases hp
     |true=>
      rw[hb] at hp;cases hp;simp only[kf] at hb;have hs1:=kd hb.1;have hln:=kd hb.2;obtain⟨vs,hvs,hcs⟩:=op1_rep h hx;have hi':=v1_val (op1_rep h hi);have hzlt:z.toNat<cs.length:=by omega
      have hv:=(IU (w:=w) (M:=M) hints).2 z.toNat _ hzlt (hcs.2 z.toNat hzlt);have hvz:vs[z.toNat]? =some (.int k (l.getD z.toNat 0)):=by
       have:z.toNat<vs.size:=by rw[hcs.1];exact hzlt
       rw[ko this];rw[ke,ko this,kA] at hv;rw[hv]
      refine⟨.int k (l.getD z.toNat 0),jJ ?_,zO _ rfl⟩;have hna:(isAgg e).run K.P w= .ok false w:=by rw[DK hue];rfl
      simp only[Instr.index,hi',asIntOf,Sem.run_bind,Sem.run_pure,Result.andThen_ok,run_underlying ht,hvs,hob.1,hob.2,and_self,if_true,zF hie,hs1,Nat.mul_one,part,hna,uH,if_false,hvz]
    ·cases hp
   ·rename_i ie fs hie hue;split at hp
    ·rename_i k l hints;cases hb:Nat.beq cs.length (len*ie.size) with
     |false=>rw[hb] at hp;cases hp
     |true=>
      rw[hb] at hp;cases hp;have hln:=kd hb;obtain⟨vs,hvs,hcs⟩:=op1_rep h hx;have hi':=v1_val (op1_rep h hi);have hoff:z.toNat*ie.size+ie.size<=cs.length:=by
       rw[hln,<-uN];exact kE _ (by omega)
      have hpv:TW K.P e cs (z.toNat*ie.size)=some (.agg ((cs.drop (z.toNat*ie.size)).take ie.size)):=by
       unfold TW MQ;rw[hue,hie];simp only[CC,kr];have:Nat.ble ie.size (cs.drop (z.toNat*ie.size)).length=true:=by rw[Nat.ble_eq,kU];omega
       rw[this];rfl
      obtain⟨v,hv,vs',rfl,hs',hr'⟩:=JE hpv hcs;refine⟨.agg vs',jJ ?_,vs',rfl,?_,λj hj=>?_⟩
      ·simp only[Instr.index,hi',asIntOf,Sem.run_bind,Sem.run_pure,Result.andThen_ok,run_underlying ht,hvs,hob.1,hob.2,and_self,if_true,zF hie,hv]
      ·rw[hs',kY,kU,List.length_map,List.length_range];omega
      ·have hj':j<ie.size:=by simpa using hj
       have hc:=hr' j (by rw[kY,kU];omega);have hg:((cs.drop (z.toNat*ie.size)).take ie.size).getD j .unk=cs.getD (z.toNat*ie.size+j) .unk:=by
        rw[ka,kW,if_pos hj',uh,<-ka]
       rw[hg] at hc;have hv':=(IU (w:=w) (M:=M) hints).2 _ _ (by omega) hc;rw[hv',ka,kD,uD hj'];exact IRep.val _ rfl
    ·split at hp
     ·rename_i r hr;cases hp;obtain⟨vs,hvs,hcs⟩:=op1_rep h hx;have hi':=v1_val (op1_rep h hi);obtain⟨v,hv,hrr⟩:=JE hr hcs;refine⟨v,jJ ?_,hrr⟩;simp only[Instr.index,hi',asIntOf,Sem.run_bind,Sem.run_pure,Result.andThen_ok,run_underlying ht,hvs,hob.1,hob.2,and_self,if_true,zF hie,hv]
     ·cases hp
   ·rename_i ie d _ _ hie _;split at hp
    ·rename_i r hr;cases hp;obtain⟨vs,hvs,hcs⟩:=op1_rep h hx;have hi':=v1_val (op1_rep h hi);obtain⟨v,hv,hrr⟩:=JE hr hcs;refine⟨v,jJ ?_,hrr⟩;simp only[Instr.index,hi',asIntOf,Sem.run_bind,Sem.run_pure,Result.andThen_ok,run_underlying ht,hvs,hob.1,hob.2,and_self,if_true,zF hie,hv]
    ·cases hp
   ·cases hp
  ·rename_i s kk z hx hi ht;cases hp;refine⟨.int .u8 (ZB s z.toNat),jJ ?_,zO _ rfl⟩;rw[v1_val (op1_rep h hx),v1_val (op1_rep h hi),run_index_string _ t s kk z ht,dif_pos hob];have hlt:z.toNat<s.data.size:=by have:=hob.2;have:s.size=s.data.size:=rfl;omega
   have e:(s[z.toNat]'(by have:=hob.2;omega))=s.data.getD z.toNat 0:=by
    show s.data[z.toNat]=_;unfold Array.getD;rw[dif_pos hlt];rfl
   rw[e];rfl
  ·cases hp
 |build t parts=>
  simp only[pev] at hp;split at hp
  ·rename_i ps hps;have hpr:=zbQ h hps;obtain⟨v,hv,hr⟩:=qHJ (qs:=parts.map fun(i,x)=>(i,a.eval x)) (by simpa using hpr) hp;exact⟨v,jJ hv,hr⟩
  ·cases hp
 |slice t x lo hi mx=>
  simp only[pev] at hp;split at hp
  ·rename_i x' l' h' m' hx hl hh hm;obtain⟨l1,l2⟩:=jX h hl;obtain⟨h1,h2⟩:=jX h hh;obtain⟨m1,m2⟩:=jX h hm;obtain⟨v,hv,hr⟩:=qHD (op1_rep h hx) l1 l2 h1 h2 m1 m2 hp hob;exact⟨v,jJ hv,hr⟩
  ·cases hp
 |extract x i=>
  simp only[pev] at hp;split at hp
  ·rename_i xs hx;split at hp
   ·rename_i z hz;cases hp;obtain⟨vs,hvs,hl,hr⟩:=opV_rep h hx;have hi:i<xs.length:=(uf.1 hz).1;have hri:=hr i hi;rw[ka,hz,kA] at hri;have hiv:i<vs.size:=by omega
    refine⟨vs.getD i undef,jJ ?_,hri⟩;simp only[Instr.extract,hvs,ke,ko hiv,kA,Sem.run_pure]
   ·cases hp
  ·cases hp
 |nilCheck x=>
  simp only[pev] at hp;split at hp
  ·rename_i id k j hx;cases hp;have hr:=op1_rep h hx;obtain⟨b,hb,hx'⟩:=hr;exact⟨.pointer (some ⟨b,j,none⟩),by simp[execOp,hb],b,rfl,hx'⟩
  ·rename_i id k sz i j hx;cases hp;have hr:=op1_rep h hx;obtain⟨b,hb,hx'⟩:=hr;exact⟨.pointer (some ⟨b,i*sz+j,none⟩),by simp[execOp,hb],b,rfl,hx'⟩
  ·rename_i cs hx;cases hp;have hr:IRep w M.imm (.lptr cs) (a.eval x):=op1_rep h hx;refine⟨a.eval x,?_,hr⟩;have hex:∃b o,a.eval x= .pointer (some ⟨b,o,none⟩):=by
    generalize a.eval x=u at hr;cases hr;exact⟨_,_,rfl⟩
   obtain⟨b,o,hb⟩:=hex;simp[execOp,hb]
  ·rename_i n sz f hx;cases hp;have hr:IRep w M.imm (.aptr n sz f) (a.eval x):=op1_rep h hx;refine⟨a.eval x,?_,hr⟩;have hex:∃b o,a.eval x= .pointer (some ⟨b,o,none⟩):=by
    generalize a.eval x=u at hr;cases hr;exact⟨_,_,rfl⟩
   obtain⟨b,o,hb⟩:=hex;simp[execOp,hb]
  ·cases hp
 |call c=>
  obtain⟨callee,args,argTypes⟩:=c;cases callee with
  |builtin b=>
   simp only[pev] at hp;split at hp
   ·rename_i x t ho hat;obtain⟨hl,hr⟩:=RH h ho;obtain⟨args⟩:=args;obtain⟨ats⟩:=argTypes;simp only at ho hat hl hr;subst hat
    match args,hl with
    |[o],_=>
     have h0:=hr 0 (by simp);simp only[uv,ul] at h0;obtain⟨v,hv,hrr⟩:=qJo (ty:=type) h0 hp;refine⟨v,jJ ?_,hrr⟩;rw[<-hv];simp
   ·rename_i xs ho;split at hp
    ·rename_i z hz;cases hp;obtain⟨hl,hr⟩:=RH h ho;obtain⟨v,hv,hrr⟩:=qHj (P:=K.P) (w:=w) (M:=M) (mx:=true) (ats:=argTypes) (ty:=type) (vs:=args.map a.eval) (by simpa using hl) (λj hj=>by simpa[ke,ka] using hr j hj) hz;exact⟨v,jJ hv,hrr⟩
    ·cases hp
   ·rename_i xs ho;split at hp
    ·rename_i z hz;cases hp;obtain⟨hl,hr⟩:=RH h ho;obtain⟨v,hv,hrr⟩:=qHj (P:=K.P) (w:=w) (M:=M) (mx:=false) (ats:=argTypes) (ty:=type) (vs:=args.map a.eval) (by simpa using hl) (λj hj=>by simpa[ke,ka] using hr j hj) hz;exact⟨v,jJ hv,hrr⟩
    ·cases hp
   ·cases hp
  |_=>cases hp
 |_=>cases hp
end
end Go.SL

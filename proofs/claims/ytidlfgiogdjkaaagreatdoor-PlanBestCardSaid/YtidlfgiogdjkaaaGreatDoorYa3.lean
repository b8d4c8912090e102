import Derived.Test.YtidlfgiogdjkaaaGreatDoorYa2
import Derived.Test.YtidlfgiogdjkaaaGreatDoorYa1
set_option linter.unusedVariables false
set_option linter.unusedSimpArgs false
namespace Go.SL
open Go.RowKit
theorem qMA (z:Array Value) (n j:Nat) (hj:j<n) (hz:0<z.size):(madeCells z n).getD j undef=z.getD (j % z.size) undef:=by
 have h1:j % z.size<z.size:=Nat.mod_lt _ hz;simp[madeCells,hj,h1]
theorem qGC (m sz q:Nat) (hq:q<sz):(m*sz+q) % sz=q:=by
 rw[Nat.add_comm,Nat.add_mul_mod_self_right,Nat.mod_eq_of_lt hq]
theorem RM {m n sz q:Nat} (hm:m<n) (hq:q<sz):m*sz+q<n*sz:=by
 have:(m+1)*sz<=n*sz:=Nat.mul_le_mul_right _ hm;rw[Nat.add_mul,Nat.one_mul] at this;omega
theorem qHY {w:World} {M:Mem} {cs:List C} {vs:Array Value} (h:jI w M cs vs) (hi:cs.all C.isImm=true) {j:Nat} (hj:j<cs.length):IRep w M.imm (cs.getD j .unk) (vs.getD j undef):=by
 have h1:=h.2 j hj;have h2:(cs.getD j .unk).isImm=true:=List.all_eq_true.1 hi _ (yX hj);generalize cs.getD j .unk=c at h1 h2;cases c<;>first|exact h1|cases h2
theorem qTv {K:Ctx} {st:St} {o:Oper} (t e:TypeId) (l c:Operand) (id k:Nat) (kl kc:IntKind) (z:Int) (i:TypeInfo) (cs:List C) (ho:o.op= .makeSlice t l c)
  (hl:op1 K.globs st l=some (.one (.val (.int kl z)))) (hc:op1 K.globs st c=some (.one (.val (.int kc z)))) (ht:K.P.underlying t=some (.slice e)) (hi:K.P.info? e=some i)
  (hz:LG K.P e=some cs) (hcs:Nat.beq cs.length i.size=true) (himm:cs.all C.isImm=true) (hpos:Nat.blt 0 i.size=true) (h0:0<=z) (hb:(i.bytes:Int)*z<=140737488355328) (h63:z<=9223372036854775807) (f':Nat->List C) (hf':∀m,m<z.toNat->f' m=cs):
  Step K st o [(id,k)] [(id,(k,.row e i.size z.toNat f'))] (.v (.one (.own id k i.size z.toNat))):=by
 refine WD (by rw[ho];rfl) ?_;intro M a w h _;obtain⟨zz,hzz⟩:∃zz,i.zero=some zz:=by
  unfold LG at hz;rw[hi] at hz;simp only at hz;split at hz
  ·rename_i x hx;exact⟨x,hx⟩
  ·cases hz
 have hzc:jI w M cs zz.cells:=by
  obtain⟨z',hr,hcr⟩:=SU hz w M;have:(zeroValue e).run K.P w= .ok zz w:=by simp[zeroValue,typeInfo,hi,hzz]
  rw[this] at hr;cases hr;exact hcr
 have hlen:zz.cells.size=i.size:=by rw[hzc.1];exact Nat.eq_of_beq_eq_true hcs
 have hpos':0<i.size:=by simpa[Nat.blt_eq] using hpos
 have hrun:=run_make (P:=K.P) w t e i zz ht hi hzz kl kc z z h0 (Int.le_refl _) (by omega) h63;have he:=Ext.alloc h id k (.row e i.size z.toNat f') (.cells (madeCells zz.cells (z.toNat*i.size)) e);unfold Oper.wp;have hex:(execOp a.eval o).run K.P w= .ok (.value (.slice (some ⟨w.heap.size,0,none⟩) z.toNat z.toNat)) (w.alloc (.cells (madeCells zz.cells (z.toNat*i.size)) e)):=by
  unfold execOp;rw[ho];simp only[v1_val (op1_rep h hl),v1_val (op1_rep h hc),Sem.run_bind,hrun,Result.andThen_ok,Sem.run_pure]
 rw[hex];have hmx:z.toNat<=maxLen:=by unfold maxLen;omega
 refine⟨_,_,rfl,he,.inr ⟨w.heap.size,z.toNat,rfl,Nat.le_refl _,hmx,λ_=>⟨by simp[Mem.put],_,e,heap_alloc_new w _,by simp[madeCells]⟩⟩,λi' l' p hl'=>?_,BB⟩;obtain⟨rfl,rfl,rfl⟩:=yU hl';refine⟨by simp[Mem.put],.inr ⟨w.heap.size,_,by simp[Mem.put],heap_alloc_new w _,by simp[madeCells],λm hm=>⟨by rw[hf' m hm];exact Nat.eq_of_beq_eq_true hcs,λq hq=>?_⟩⟩⟩;rw[hf' m hm];rw[qMA _ _ _ (RM hm hq) (by omega),hlen,qGC _ _ _ hq];exact he.irep (qHY hzc himm (by rw[<-hzc.1,hlen];exact hq))
def qCJ (out:List C) (sz:Nat) (i:Nat):List C:=(out.drop (i*sz)).take sz
theorem qKT {out:List C} {sz n:Nat} (hl:out.length=n*sz) {m q:Nat} (hm:m<n) (hq:q<sz):(qCJ out sz m).length=sz/\(qCJ out sz m).getD q .unk=out.getD (m*sz+q) .unk:=by
 have h1:(m+1)*sz<=n*sz:=Nat.mul_le_mul_right _ hm;rw[Nat.add_mul,Nat.one_mul] at h1;unfold qCJ;refine⟨by simp;omega,?_⟩;simp only[List.getD_eq_getElem?_getD,List.getElem?_take,hq,if_true,List.getElem?_drop]
theorem qTZ {K:Ctx} {st:St} {o:Oper} (t e:TypeId) (len:Nat) (parts:Array (Nat×Operand)) (id k:Nat) (i:TypeInfo) (cs:List C) (ps:List (Nat×V1)) (out:List C) (ho:o.op= .buildSlice t len parts)
  (hps:qD0 K.globs st parts.toList=some ps) (ht:K.P.underlying t=some (.slice e)) (hi:K.P.info? e=some i)
  (hz:LG K.P e=some cs) (hcs:Nat.beq cs.length i.size=true) (hpos:Nat.blt 0 i.size=true) (hsmall:Nat.ble (len*i.size) 16777216=true)
  (hfill:qBp (λj=>some (j*i.size,i.size)) ((List.range (len*i.size)).map λj=>cs.getD (j % i.size) .unk) ps=some out) (himm:out.all C.isImm=true) (holen:Nat.beq out.length (len*i.size)=true) (f':Nat->List C) (hf':∀m,m<len->f' m=qCJ out i.size m):
  Step K st o [(id,k)] [(id,(k,.row e i.size len f'))] (.v (.one (.own id k i.size len))):=by
 refine WD (by rw[ho];rfl) ?_;intro M a w h _;obtain⟨zz,hzz⟩:∃zz,i.zero=some zz:=by
  unfold LG at hz;rw[hi] at hz;simp only at hz;split at hz
  ·rename_i x hx;exact⟨x,hx⟩
  ·cases hz
 have hzrun:(zeroValue e).run K.P w= .ok zz w:=by simp[zeroValue,typeInfo,hi,hzz]
 have hzc:jI w M cs zz.cells:=by
  obtain⟨z',hr,hcr⟩:=SU hz w M;rw[hzrun] at hr;cases hr;exact hcr
 have hlen:zz.cells.size=i.size:=by rw[hzc.1];exact Nat.eq_of_beq_eq_true hcs
 have hpos':0<i.size:=by simpa[Nat.blt_eq] using hpos
 have hbase:jI w M ((List.range (len*i.size)).map λj=>cs.getD (j % i.size) .unk) (madeCells zz.cells (len*i.size)):=by
  refine⟨by simp[madeCells],λj hj=>?_⟩;have hj':j<len*i.size:=by simpa using hj
  rw[qMA _ _ _ hj' (by omega),hlen];have hm:j % i.size<cs.length:=by rw[<-hzc.1,hlen];exact Nat.mod_lt _ hpos'
  have:=hzc.2 (j % i.size) hm;simpa[List.getD_eq_getElem?_getD,List.getElem?_map,hj'] using this
 obtain⟨arr,hfr,hout⟩:=qCU ps (parts.toList.map λp:Nat×Operand=>(p.1,a.eval p.2)) _ _ out hbase (qEQ h hps) hfill;have hsm:=Nat.le_of_ble_eq_true hsmall;have hol:=Nat.eq_of_beq_eq_true holen;have he:=Ext.alloc h id k (.row e i.size len f') (.cells arr e);unfold Oper.wp;have hex:(execOp a.eval o).run K.P w= .ok (.value (.slice (some ⟨w.heap.size,0,none⟩) len len)) (w.alloc (.cells arr e)):=by
  unfold execOp;rw[ho];have hparts:(parts.map fun(i,x)=>(i,a.eval x)).toList=parts.toList.map λp:Nat×Operand=>(p.1,a.eval p.2):=by simp
  by_cases hz0:len*i.size=0
  ·have hm0:madeCells zz.cells (len*i.size)= #[]:=by rw[hz0];simp[madeCells]
   rw[hm0] at hfr;simp only[Instr.buildSlice,Sem.run_bind,run_underlying ht,Result.andThen_ok,zW hi,hz0,Nat.not_lt_zero,if_false,if_true,Sem.run_pure,hparts,Array.range_zero',Array.map_empty,hfr,newRow,run_newObj,gt_iff_lt];rfl
  ·have hng:¬(len*i.size>2^24):=by omega
   simp only[Instr.buildSlice,Sem.run_bind,run_underlying ht,Result.andThen_ok,zW hi,hng,hz0,if_false,Sem.run_pure,hzrun,hparts];have:(Array.map (λx=>zz.cells[x % zz.cells.size]!) (Array.range (len*i.size)))=madeCells zz.cells (len*i.size):=rfl;rw[this,hfr];simp only[newRow,Sem.run_bind,run_newObj,Result.andThen_ok,Sem.run_pure];rfl
 rw[hex];have hmx:len<=maxLen:=by
  have:len*1<=len*i.size:=Nat.mul_le_mul_left _ hpos';unfold maxLen;omega
 have hasz:arr.size=len*i.size:=by rw[hout.1,hol]
 refine⟨_,_,rfl,he,.inr ⟨w.heap.size,len,rfl,Nat.le_refl _,hmx,λ_=>⟨by simp[Mem.put],_,e,heap_alloc_new w _,hasz⟩⟩,λi' l' p hl'=>?_,BB⟩;obtain⟨rfl,rfl,rfl⟩:=yU hl';refine⟨by simp[Mem.put],.inr ⟨w.heap.size,_,by simp[Mem.put],heap_alloc_new w _,by omega,λm hm=>?_⟩⟩;rw[hf' m hm];refine⟨(qKT hol hm hpos').1,λq hq=>?_⟩;rw[(qKT hol hm hq).2];exact he.irep (qHY hout himm (by rw[hol];exact RM hm hq))
def qG8 (st:St):V1->Option (Nat×(Nat->List C)×Prop)
 | .one (.lst n f)=>some (n,f,True)
 | .one .emp=>some (0,λ_=>[],True)
 | .one (.own id k sz len)=>match look id st.objs with|some (k',.row _ sz' n f)=>bif Nat.beq k k'&&Nat.beq sz sz' then some (len,f,len<=n) else none|_=>none
 | .one (.sub id k sz off len)=>match look id st.objs with|some (k',.row _ sz' n f)=>bif Nat.beq k k'&&Nat.beq sz sz' then some (len,λj=>f (off+j),off+len<=n) else none|_=>none
 |_=>none
def qSO (w:World) (M:Mem) (sz m:Nat) (g:Nat->List C) (v:Value):Prop:=
 (m=0/\∃a,v= .slice a 0 0)\/∃(b o c:Nat) (vs:List Value),v= .slice (some ⟨b,o,none⟩) m c/\vs.length=m*sz/\(∀j u,vs[j]? =some u->w.cell? ⟨b,o+j,none⟩=some u)/\
  ∀i j,i<m->j<sz->IRep w M.imm ((g i).getD j .unk) (vs.getD (i*sz+j) undef)
theorem qKA {i j sz:Nat} (hj:j<sz):(i*sz+j)/sz=i/\(i*sz+j) % sz=j:=by
 refine⟨?_,qGC i sz j hj⟩;rw[Nat.add_comm,Nat.add_mul_div_right _ _ (by omega),Nat.div_eq_of_lt hj,Nat.zero_add]
theorem qMs {K:Ctx} {M:Mem} {st:St} {a:Act} {w:World} (h:Sim K M st a w) {x:V1} {v:Value} (hv:qO w M x v) {m sz:Nat} {g:Nat->List C} {ob:Prop} (hs:qG8 st x=some (m,g,ob)) (hob:ob)
  (hsz:∀i,i<m->(g i).length=sz) (hpos:0<sz):qSO w M sz m g v:=by
 have build:∀(b o c:Nat) (G:Nat->Nat->Value),(∀i j,i<m->j<sz->w.cell? ⟨b,o+(i*sz+j),none⟩=some (G i j))->(∀i j,i<m->j<sz->IRep w M.imm ((g i).getD j .unk) (G i j))->qSO w M sz m g (.slice (some ⟨b,o,none⟩) m c):=by
  intro b o c G hc hr;refine .inr ⟨b,o,c,(List.range (m*sz)).map λq=>G (q/sz) (q % sz),rfl,by simp,λj u hu=>?_,λi j hi hj=>?_⟩
  ·rw[List.getElem?_map] at hu;cases hq:(List.range (m*sz))[j]? with
   |none=>rw[hq] at hu;cases hu
   |some q=>
    rw[hq] at hu;cases hu;have hjlt:j<m*sz:=by simpa using(List.getElem?_eq_some_iff.1 hq).1
    have hqj:q=j:=by rw[List.getElem?_range hjlt] at hq;cases hq;rfl
    subst hqj;have h1:q/sz<m:=Nat.div_lt_of_lt_mul (by rw[Nat.mul_comm];exact hjlt);have:=hc (q/sz) (q % sz) h1 (Nat.mod_lt _ hpos);rw[show q/sz*sz+q % sz=q by rw[Nat.mul_comm];exact Nat.div_add_mod q sz] at this;exact this
  ·have hlt:=RM hi hj;have:=hr i j hi hj;simp only[List.getD_eq_getElem?_getD,List.getElem?_map,List.getElem?_range hlt,Option.map_some,Option.getD_some,(qKA (i:=i) hj).1,(qKA (i:=i) hj).2] at this⊢;exact this
 unfold qG8 at hs;split at hs
 ·rename_i n f;cases hs;cases hv with
  |lst0 a f=>exact .inl ⟨rfl,a,rfl⟩
  |lst b o n cap sz' f G hn hm hl hb hc hr=>
   by_cases hm0:m=0
   ·subst hm0;exact build b o cap G (λi j hi=>by omega) (λi j hi=>by omega)
   ·have hss:sz'=sz:=by rw[<-hl 0 (by omega),hsz 0 (by omega)]
    subst hss;exact build b o cap G hc hr
 ·cases hs;cases hv with
  |emp a=>exact .inl ⟨rfl,a,rfl⟩
 ·rename_i id k sz0 len;split at hs
  ·rename_i k' e sz' n f hl;cases hk:Nat.beq k k'&&Nat.beq sz0 sz' with
   |false=>rw[hk] at hs;cases hs
   |true=>
    rw[hk] at hs;cases hs;simp only[Bool.and_eq_true] at hk;have hkk:=Nat.eq_of_beq_eq_true hk.1;have hss:=Nat.eq_of_beq_eq_true hk.2;subst hkk hss;obtain⟨hver,hrow⟩:=h.objs id k _ hl;rcases hv with⟨h0,a,rfl⟩|⟨b,cap,rfl,h1,h2,hx⟩
    ·subst h0;exact .inl ⟨rfl,a,rfl⟩
    ·obtain⟨hb,arr,e',hh,hsize⟩:=hx hver;by_cases hm0:m=0
     ·subst hm0;exact build b 0 cap (λ_ _=>undef) (λi j hi=>by omega) (λi j hi=>by omega)
     ·rcases hrow with⟨hnone,_⟩|⟨b',arr',hb',hh',hns,hcr⟩
      ·rw[hb] at hnone;cases hnone
      ·have hbb:b'=b:=Option.some.inj (hb'.symm.trans hb);subst hbb;rw[hh] at hh';cases hh';have hss:sz0=sz:=by rw[<-(hcr 0 (by omega)).1,hsz 0 (by omega)]
       subst hss;exact build b' 0 cap (λi j=>arr.getD (i*sz0+j) undef) (λi j hi hj=>by rw[Nat.zero_add];exact cell_of_row' hh (by have:=RM (n:=n) (show i<n by omega) hj;omega)) λi j hi hj=>(hcr i (by omega)).2 j hj
  ·cases hs
 ·rename_i id k sz0 off len;split at hs
  ·rename_i k' e sz' n f hl;cases hk:Nat.beq k k'&&Nat.beq sz0 sz' with
   |false=>rw[hk] at hs;cases hs
   |true=>
    rw[hk] at hs;cases hs;simp only[Bool.and_eq_true] at hk;have hkk:=Nat.eq_of_beq_eq_true hk.1;have hss:=Nat.eq_of_beq_eq_true hk.2;subst hkk hss;obtain⟨hver,hrow⟩:=h.objs id k _ hl;rcases hv with⟨h0,a,rfl⟩|⟨b,cap,rfl,h1,h2,hx⟩
    ·subst h0;exact .inl ⟨rfl,a,rfl⟩
    ·obtain⟨hb,arr,e',hh,hsize⟩:=hx hver;by_cases hm0:m=0
     ·subst hm0;exact build b (off*sz0) cap (λ_ _=>undef) (λi j hi=>by omega) (λi j hi=>by omega)
     ·rcases hrow with⟨hnone,_⟩|⟨b',arr',hb',hh',hns,hcr⟩
      ·rw[hb] at hnone;cases hnone
      ·have hbb:b'=b:=Option.some.inj (hb'.symm.trans hb);subst hbb;rw[hh] at hh';cases hh';have hss:sz0=sz:=by rw[<-(hcr (off+0) (by omega)).1,hsz 0 (by omega)]
       subst hss;exact build b' (off*sz0) cap (λi j=>arr.getD ((off+i)*sz0+j) undef) (λi j hi hj=>by rw[show off*sz0+(i*sz0+j)=(off+i)*sz0+j by rw[Nat.add_mul];omega];exact cell_of_row' hh (by have:=RM (n:=n) (show off+i<n by omega) hj;omega)) λi j hi hj=>(hcr (off+i) (by omega)).2 j hj
  ·cases hs
 ·cases hs
def qG2 :Op->Option (Operand×Operand×TypeId)
 | .call {callee:= .builtin .append,args,argTypes}=>match args.toList,argTypes.toList with|[s,x],[t,t']=>bif Nat.beq t t' then some (s,x,t) else none|_,_=>none
 |_=>none
theorem qPi {op:Op} {r:Operand×Operand×TypeId} (h:qG2 op=some r):OZ op=true:=by
 cases op<;>first|rfl|cases h
theorem qOC {op:Op} {s x:Operand} {t:TypeId} (h:qG2 op=some (s,x,t)):op= .call {callee:= .builtin .append,args:= #[s,x],argTypes:= #[t,t]}:=by
 unfold qG2 at h;split at h
 ·rename_i args ats;split at h
  ·rename_i s' x' t' t'' ha hat;cases hb:Nat.beq t' t'' with
   |false=>rw[hb] at h;cases h
   |true=>
    rw[hb] at h;cases h;have:=Nat.eq_of_beq_eq_true hb;subst this;obtain⟨args⟩:=args;obtain⟨ats⟩:=ats;simp only at ha hat;subst ha hat;rfl
  ·cases h
 ·cases h
theorem YU {P:Program} {w:World} {t ty e:TypeId} {i:TypeInfo} (ht:P.underlying t=some (.slice e)) (hi:P.info? e=some i) (base src:Option Addr) (n cap:Nat) (c:Nat) (hn:n<=cap):
  (Builtin.append_ #[t,t] ty #[.slice base n cap,.slice src 0 c]).run P w= .ok (.slice base n cap) w:=by
 cases base<;>cases src<;>simp[Builtin.append_,run_underlying ht,sizeOf,typeInfo,hi,Builtin.lenOf,Builtin.firstCells,loadCells,loadCellsFrom,hn,storeCells]
theorem SC {l r:List Value} {j:Nat} (h:j<l.length):(l++r).getD j undef=l.getD j undef:=by
 simp only[List.getD_eq_getElem?_getD,List.getElem?_append_left h]
theorem qHs {l r:List Value} {j:Nat} (h:l.length<=j):(l++r).getD j undef=r.getD (j-l.length) undef:=by
 simp only[List.getD_eq_getElem?_getD,List.getElem?_append_right h]
theorem qQy {K:Ctx} {st:St} {o:Oper} (s x:Operand) (t e:TypeId) (id k k' len n m:Nat) (i:TypeInfo) (z:Value) (f g f':Nat->List C) (xv:V1) (ob:Prop) (ho:qG2 o.op=some (s,x,t))
  (hs:op1 K.globs st s=some (.one (.own id k i.size len))) (hl:look id st.objs=some (k,.row e i.size n f)) (ht:K.P.underlying t=some (.slice e)) (hi:K.P.info? e=some i) (hz:i.zero=some z) (hzs:Nat.beq z.cells.size i.size=true)
  (hpos:Nat.blt 0 i.size=true) (hby:Nat.blt 0 i.bytes=true) (hx:op1 K.globs st x=some xv) (hsrc:qG8 st xv=some (m,g,ob)) (hob:ob) (hgl:∀j,j<m->(g j).length=i.size) (hln:len<=n)
  (hroom:(len+m)*i.bytes<=140737488355328) (hf':∀j,j<len+m->f' j=if j<len then f j else g (j-len)):
  Step K st o [(id,k')] [(id,(k',.row e i.size (len+m) f'))] (.v (.one (.own id k' i.size (len+m)))):=by
 refine WD (qPi ho) ?_;intro M a w h _;have hpos':0<i.size:=by simpa[Nat.blt_eq] using hpos
 have hby':0<i.bytes:=by simpa[Nat.blt_eq] using hby
 have hzs':=Nat.eq_of_beq_eq_true hzs;have hsv:=op1_rep h hs;have hxv:=qMs h (op1_rep h hx) hsrc hob hgl hpos';obtain⟨hver,hrow⟩:=h.objs id k _ hl;have hsmall:len+m<=140737488355328:=by
  have:(len+m)*1<=(len+m)*i.bytes:=Nat.mul_le_mul_left _ hby';omega
 have hml:len+m<=maxLen:=by unfold maxLen;omega
 have hf'l:∀j,j<len->f' j=f j:=λj hj=>by rw[hf' j (by omega),if_pos hj]
 have hf'r:∀j,j<m->f' (len+j)=g j:=λj hj=>by rw[hf' (len+j) (by omega),if_neg (by omega)];congr 1;omega
 have hexec:∀{v w'},(Builtin.append_ #[t,t] o.type #[a.eval s,a.eval x]).run K.P w= .ok v w'->(execOp a.eval o).run K.P w= .ok (.value v) w':=fun{v w'} hr=>by
  unfold execOp;rw[qOC ho];simp only[resolve,invoke,builtin,Sem.run_bind,Sem.run_pure,Result.andThen_ok,List.map_toArray,List.map_cons,List.map_nil,hr]
 unfold Oper.wp
 -- nothing is appended: the slice stays
 have stays:m=0->(Builtin.append_ #[t,t] o.type #[a.eval s,a.eval x]).run K.P w= .ok (a.eval s) w->o.upon K.P a (λa' w'=>∃v M',a'=a.put o.dst v/\Ext M w M' w' (hits [(id,(k',.row e i.size (len+m) f'))]) (qZ [(id,k')])/\VRep w' M' (.v (.one (.own id k' i.size (len+m)))) v/\
   (∀i_1 k_1 o_1,look i_1 [(id,(k',O.row e i.size (len+m) f'))]=some (k_1,o_1)->ORep w' M' i_1 k_1 o_1)/\(∀i_1,M'.ver i_1≠none->M.ver i_1≠none\/hits [(id,(k',.row e i.size (len+m) f'))] i_1)) (λ_ _ _=>False) ((execOp a.eval o).run K.P w):=by
  intro hm0 hr;subst hm0;rw[hexec hr];have he:Ext M w (M.put id k' (M.blk id)) w (hits [(id,(k',.row e i.size (len+0) f'))]) (qZ [(id,k')]):=
   Ext.put h (λb' hb=>⟨(h.rng id k b' hver hb).2,.inr ⟨k,hver,hb⟩⟩) (λ_ _ _=>rfl) (λc arr e hc=>⟨arr,hc,rfl⟩) (Nat.le_refl _) rfl rfl rfl
  refine⟨_,_,rfl,he,?_,λi' l' p hl'=>?_,BB⟩
  ·rcases hsv with h0|⟨b,cap,hv,h1,h2,hx'⟩
   ·exact .inl h0
   ·obtain⟨hb,arr,e',hh,hsize⟩:=hx' hver;exact .inr ⟨b,cap,hv,h1,h2,λ_=>⟨by simp[Mem.put,hb],arr,e',hh,hsize⟩⟩
  ·obtain⟨rfl,rfl,rfl⟩:=yU hl';refine⟨by simp[Mem.put],?_⟩;rcases hrow with⟨hnone,h0⟩|⟨b,arr,hb,hh,hns,hcr⟩
   ·exact .inl ⟨by simp[Mem.put,hnone],by omega⟩
   ·refine .inr ⟨b,arr,by simp[Mem.put,hb],hh,Nat.le_trans (Nat.mul_le_mul_right _ (by omega)) hns,λj hj=>?_⟩;rw[hf'l j (by omega)];exact⟨(hcr j (by omega)).1,λq hq=>he.irep ((hcr j (by omega)).2 q hq)⟩
 -- a new array
 have grows:∀(olds news:List Value) (cap:Nat) (w':World),olds.length=len*i.size->news.length=m*i.size->(∀p j,p<len->j<i.size->IRep w M.imm ((f p).getD j .unk) (olds.getD (p*i.size+j) undef))->(∀p,p<len->(f p).length=i.size)->
   (∀p j,p<m->j<i.size->IRep w M.imm ((g p).getD j .unk) (news.getD (p*i.size+j) undef))->len+m<=cap->cap<=maxLen->
   w'=w.drew.alloc (.cells (olds.toArray++news.toArray++Builtin.zeroCells z.cells (cap-(len+m))) e)->
   (Builtin.append_ #[t,t] o.type #[a.eval s,a.eval x]).run K.P w= .ok (.slice (some ⟨w.heap.size,0,none⟩) (len+m) cap) w'->o.upon K.P a (λa' w'=>∃v M',a'=a.put o.dst v/\Ext M w M' w' (hits [(id,(k',.row e i.size (len+m) f'))]) (qZ [(id,k')])/\VRep w' M' (.v (.one (.own id k' i.size (len+m)))) v/\
   (∀i_1 k_1 o_1,look i_1 [(id,(k',O.row e i.size (len+m) f'))]=some (k_1,o_1)->ORep w' M' i_1 k_1 o_1)/\(∀i_1,M'.ver i_1≠none->M.ver i_1≠none\/hits [(id,(k',.row e i.size (len+m) f'))] i_1)) (λ_ _ _=>False) ((execOp a.eval o).run K.P w):=by
  intro olds news cap w' hol hnl ho1 ho2 hn1 hcap hcm hw' hr;rw[hexec hr];have hsz:w'.heap.size=w.heap.size+1:=by rw[hw'];simp
  have hold:∀c,c<w.heap.size->w'.heap[c]? =w.heap[c]? :=λc hc=>by rw[hw',heap_alloc_old _ _ c (by simpa using hc)];rfl
  have he:Ext M w (M.put id k' (some w.heap.size)) w' (hits [(id,(k',.row e i.size (len+m) f'))]) (qZ [(id,k')]):=
   Ext.put h (λb' hb=>by cases hb;exact⟨by omega,.inl (Nat.le_refl _)⟩) (λc hc _=>hold c hc) (λc arr e hc=>⟨arr,by rw[hold c (Array.getElem?_eq_some_iff.1 hc).1];exact hc,rfl⟩) (by omega) (by rw[hw'];rfl) (by rw[hw'];rfl) (by rw[hw'];rfl) (by rw[hw'];exact Nat.le_succ _)
  have hnew:w'.heap[w.heap.size]? =some (.cells (olds.toArray++news.toArray++Builtin.zeroCells z.cells (cap-(len+m))) e (0,0)):=by rw[hw'];exact heap_alloc_new w.drew _
  have hasz:(olds.toArray++news.toArray++Builtin.zeroCells z.cells (cap-(len+m))).size=cap*i.size:=by
   simp only[Array.size_append,List.size_toArray,size_zeroCells,hzs',hol,hnl,<-Nat.add_mul]
   congr 1
   omega
  refine⟨_,_,rfl,he,.inr ⟨w.heap.size,cap,rfl,hcap,hcm,λ_=>⟨by simp[Mem.put],_,e,hnew,hasz⟩⟩,λi' l' p hl'=>?_,BB⟩;obtain⟨rfl,rfl,rfl⟩:=yU hl';refine⟨by simp[Mem.put],.inr ⟨w.heap.size,_,by simp[Mem.put],hnew,by rw[hasz];exact Nat.mul_le_mul_right _ hcap,λp hp=>?_⟩⟩;have hget:∀q,q<i.size->(olds.toArray++news.toArray++Builtin.zeroCells z.cells (cap-(len+m))).getD (p*i.size+q) undef=(olds++news).getD (p*i.size+q) undef:=λq hq=>by
   have:=RM hp hq;rw[Nat.add_mul] at this;rw[GV];simp only[Array.toList_append,List.append_assoc];rw[<-List.append_assoc,SC (by simp;omega)]
  by_cases hpl:p<len
  ·rw[hf'l p hpl];refine⟨ho2 p hpl,λq hq=>?_⟩;have:=RM hpl hq;rw[hget q hq,SC (by omega)];exact he.irep (ho1 p q hpl hq)
  ·obtain⟨p',rfl⟩:∃p',p=len+p':=⟨p-len,by omega⟩
   rw[hf'r p' (by omega)];refine⟨hgl p' (by omega),λq hq=>?_⟩;rw[hget q hq,Nat.add_mul,qHs (by omega),hol,show len*i.size+p'*i.size+q-len*i.size=p'*i.size+q by omega];exact he.irep (hn1 p' q (by omega) hq)
 rcases hxv with⟨hm0,ax,hax⟩|⟨b2,o2,c2,vs,hxe,hvl,hvc,hvr⟩
 ·subst hm0;refine stays rfl ?_;rw[hax];rcases hsv with⟨h0,as,has⟩|⟨b,cap,hv,h1,h2,hx'⟩
  ·rw[has];exact YU ht hi _ _ _ _ _ (Nat.le_refl _)
  ·rw[hv];exact YU ht hi _ _ _ _ _ h1
 ·by_cases hm0:m=0
  ·refine stays hm0 ?_;subst hm0;rw[hxe];rcases hsv with⟨h0,as,has⟩|⟨b,cap,hv,h1,h2,hx'⟩
   ·rw[has];exact YU ht hi _ _ _ _ _ (Nat.le_refl _)
   ·rw[hv];exact YU ht hi _ _ _ _ _ h1
  ·rcases hsv with⟨h0,as,has⟩|⟨b,cap,hv,h1,h2,hx'⟩
   ·subst h0;have hr:(Builtin.append_ #[t,t] o.type #[a.eval s,a.eval x]).run K.P w= .ok (.slice (some ⟨w.heap.size,0,none⟩) (0+m) (grownCap w (0+m) 0 e)) (w.drew.alloc (.cells (([]:List Value).toArray++vs.toArray++Builtin.zeroCells z.cells (grownCap w (0+m) 0 e-(0+m))) e)):=by
     rw[has,hxe];cases as with
     |none=>
      have:=run_append_nil (P:=K.P) w t o.type e i z ht hi hz ⟨b2,o2,none⟩ m c2 vs hvl (λj u hu=>by rw[Addr.add_lit];exact hvc j u hu) (by omega) (by omega) (by simp only[Nat.zero_add] at hroom;omega);simpa using this
     |some ad=>
      have:=run_append_grow (P:=K.P) w t o.type e i z ht hi hz ad 0 0 [] (by simp) (λj v hj=>by cases hj) ⟨b2,o2,none⟩ m c2 vs hvl (λj u hu=>by rw[Addr.add_lit];exact hvc j u hu) (by omega) (by omega) (growslice_fits (by omega) hroom);exact this
    exact grows [] vs _ _ (by simp) hvl (λp j hp=>by omega) (λp hp=>by omega) hvr (grownCap_ge w _ _ _) (grownCap_le_maxLen w _ _ _ hml) rfl hr
   ·obtain⟨hb,arr,e',hh,hsize⟩:=hx' hver;have hee:e'=e:=by
     rcases hrow with⟨hnone,_⟩|⟨b',arr',hb',hh',_⟩
     ·rw[hb] at hnone;cases hnone
     ·have hbb:b'=b:=Option.some.inj (hb'.symm.trans hb);subst hbb;rw[hh] at hh';cases hh';rfl
    subst hee;have hcr:∀p,p<len->(f p).length=i.size/\∀j,j<i.size->IRep w M.imm ((f p).getD j .unk) (arr.getD (p*i.size+j) undef):=by
     intro p hp;rcases hrow with⟨hnone,_⟩|⟨b',arr',hb',hh',_,hcr⟩
     ·rw[hb] at hnone;cases hnone
     ·have hbb:b'=b:=Option.some.inj (hb'.symm.trans hb);subst hbb;rw[hh] at hh';cases hh';exact hcr p (by omega)
    have hlc:len*i.size<=arr.size:=by rw[hsize];exact Nat.mul_le_mul_right _ h1
    by_cases hr1:len+m<=cap
    ·have hfit:len*i.size+vs.length<=arr.size:=by rw[hvl,hsize,<-Nat.add_mul];exact Nat.mul_le_mul_right _ hr1
     have h1c:∀u∈vs,u.oneCell'=true:=by
      intro u hu;obtain⟨q,hq,rfl⟩:=List.mem_iff_getElem.1 hu;have hq':q<m*i.size:=by omega
      have hd:q/i.size<m:=Nat.div_lt_of_lt_mul (by rw[Nat.mul_comm];exact hq');have:=(hvr (q/i.size) (q % i.size) hd (Nat.mod_lt _ hpos')).cell;rw[show q/i.size*i.size+q % i.size=q by rw[Nat.mul_comm];exact Nat.div_add_mod q i.size] at this;simpa[List.getD_eq_getElem?_getD,List.getElem?_eq_getElem hq] using this
     have hr:=run_append_room (P:=K.P) w t o.type e' i ht hi b len cap arr hh ⟨b2,o2,none⟩ m c2 vs hvl (λj u hu=>by rw[Addr.add_lit];exact hvc j u hu) h1c hr1 hfit;rw[<-hv,<-hxe] at hr;rw[hexec hr];have hs':(arr.toList.take (len*i.size)++vs++arr.toList.drop (len*i.size+vs.length)).toArray.size=arr.size:=by simp;omega
     have hblt:b<w.heap.size:=(h.rng id k b hver hb).2;have hnew:(w.setRow b (arr.toList.take (len*i.size)++vs++arr.toList.drop (len*i.size+vs.length)).toArray).heap[b]? =some (.cells (arr.toList.take (len*i.size)++vs++arr.toList.drop (len*i.size+vs.length)).toArray e' (0,0)):=setRow_heap w b arr _ e' (0,0) hh;have hcell:∀q,(arr.toList.take (len*i.size)++vs++arr.toList.drop (len*i.size+vs.length)).toArray.getD q undef=if len*i.size<=q/\q<len*i.size+vs.length then vs.getD (q-len*i.size) undef else arr.getD q undef:=λq=>by
      rw[GV,LT _ _ _ _ _ (by simpa using hfit),<-GV (arr:=arr)]
     have he:Ext M w (M.put id k' (some b)) (w.setRow b (arr.toList.take (len*i.size)++vs++arr.toList.drop (len*i.size+vs.length)).toArray) (hits [(id,(k',.row e' i.size (len+m) f'))]) (qZ [(id,k')]):=
      Ext.put h (λb' hb'=>by cases hb';exact⟨by rw[size_setRow];exact hblt,.inr ⟨k,hver,hb⟩⟩) (λc hc hw=>setRow_other w b c _ λhcb=>hw k hver (by rw[hb,hcb]))
       (λc arr0 e0 hc=>by
        by_cases hcb:c=b
        ·subst hcb;rw[hh] at hc;cases hc;exact⟨_,hnew,hs'⟩
        ·exact⟨arr0,by rw[setRow_other w b c _ hcb];exact hc,rfl⟩) (by rw[size_setRow];exact Nat.le_refl _) rfl rfl rfl
     generalize (arr.toList.take (len*i.size)++vs++arr.toList.drop (len*i.size+vs.length)).toArray=arr2 at he hnew hcell hs';refine⟨_,_,rfl,he,.inr ⟨b,cap,rfl,hr1,h2,λ_=>⟨by simp[Mem.put],arr2,e',hnew,by omega⟩⟩,λi' l' p hl'=>?_,BB⟩;obtain⟨rfl,rfl,rfl⟩:=yU hl';refine⟨by simp[Mem.put],.inr ⟨b,arr2,by simp[Mem.put],hnew,by rw[hs',hsize];exact Nat.mul_le_mul_right _ hr1,λp hp=>?_⟩⟩;by_cases hpl:p<len
     ·rw[hf'l p hpl];refine⟨(hcr p hpl).1,λq hq=>?_⟩;have:=RM hpl hq;rw[hcell,if_neg (by omega)];exact he.irep ((hcr p hpl).2 q hq)
     ·obtain⟨p',rfl⟩:∃p',p=len+p':=⟨p-len,by omega⟩
      rw[hf'r p' (by omega)];refine⟨hgl p' (by omega),λq hq=>?_⟩;have:=RM (show p'<m by omega) hq;rw[hcell,Nat.add_mul,if_pos (by omega),show len*i.size+p'*i.size+q-len*i.size=p'*i.size+q by omega];exact he.irep (hvr p' q (by omega) hq)
    ·have hr:=run_append_grow (P:=K.P) w t o.type e' i z ht hi hz ⟨b,0,none⟩ len cap (arr.toList.take (len*i.size)) (by simp;omega) (λj u hu=>by
       rw[Addr.add_lit,Nat.zero_add,cell_of_row w b j arr e' (0,0) hh];rw[List.getElem?_take] at hu;split at hu
       ·simpa using hu
       ·cases hu) ⟨b2,o2,none⟩ m c2 vs hvl (λj u hu=>by rw[Addr.add_lit];exact hvc j u hu) (by omega) (by omega) (growslice_fits (by omega) hroom)
     rw[<-hv,<-hxe] at hr;refine grows (arr.toList.take (len*i.size)) vs _ _ (by simp;omega) hvl (λp j hp hj=>?_) (λp hp=>(hcr p hp).1) hvr (grownCap_ge w _ _ _) (grownCap_le_maxLen w _ _ _ hml) rfl hr;have hlt:=RM hp hj;have:=(hcr p hp).2 j hj;rw[GV] at this;simp only[List.getD_eq_getElem?_getD,List.getElem?_take,hlt,if_true] at this⊢;exact this
theorem qOJ {K:Ctx} {st:St} {o:Oper} (s x:Operand) (t e:TypeId) (id k' m:Nat) (i:TypeInfo) (z:Value) (g:Nat->List C) (xv:V1) (ob:Prop) (ho:qG2 o.op=some (s,x,t))
  (hs:op1 K.globs st s=some (.one .emp)) (ht:K.P.underlying t=some (.slice e)) (hi:K.P.info? e=some i) (hz:i.zero=some z) (hzs:Nat.beq z.cells.size i.size=true)
  (hpos:Nat.blt 0 i.size=true) (hby:Nat.blt 0 i.bytes=true) (hx:op1 K.globs st x=some xv) (hsrc:qG8 st xv=some (m,g,ob)) (hob:ob) (hgl:∀j,j<m->(g j).length=i.size)
  (hroom:m*i.bytes<=140737488355328):
  Step K st o [(id,k')] [(id,(k',.row e i.size m g))] (.v (.one (.own id k' i.size m))):=by
 refine WD (qPi ho) ?_;intro M a w h _;have hpos':0<i.size:=by simpa[Nat.blt_eq] using hpos
 have hby':0<i.bytes:=by simpa[Nat.blt_eq] using hby
 have hzs':=Nat.eq_of_beq_eq_true hzs;have hsv:IRep w M.imm .emp (a.eval s):=op1_rep h hs;obtain⟨as,has⟩:∃as,a.eval s= .slice as 0 0:=by
  generalize a.eval s=u at hsv;cases hsv;exact⟨_,rfl⟩
 have hxv:=qMs h (op1_rep h hx) hsrc hob hgl hpos';have hsmall:m<=140737488355328:=by
  have:m*1<=m*i.bytes:=Nat.mul_le_mul_left _ hby';omega
 have hml:m<=maxLen:=by unfold maxLen;omega
 have hexec:∀{v w'},(Builtin.append_ #[t,t] o.type #[a.eval s,a.eval x]).run K.P w= .ok v w'->(execOp a.eval o).run K.P w= .ok (.value v) w':=fun{v w'} hr=>by
  unfold execOp;rw[qOC ho];simp only[resolve,invoke,builtin,Sem.run_bind,Sem.run_pure,Result.andThen_ok,List.map_toArray,List.map_cons,List.map_nil,hr]
 unfold Oper.wp;have stays:m=0->(Builtin.append_ #[t,t] o.type #[a.eval s,a.eval x]).run K.P w= .ok (.slice as 0 0) w->o.upon K.P a (λa' w'=>∃v M',a'=a.put o.dst v/\Ext M w M' w' (hits [(id,(k',.row e i.size m g))]) (qZ [(id,k')])/\VRep w' M' (.v (.one (.own id k' i.size m))) v/\
   (∀i_1 k_1 o_1,look i_1 [(id,(k',O.row e i.size m g))]=some (k_1,o_1)->ORep w' M' i_1 k_1 o_1)/\(∀i_1,M'.ver i_1≠none->M.ver i_1≠none\/hits [(id,(k',.row e i.size m g))] i_1)) (λ_ _ _=>False) ((execOp a.eval o).run K.P w):=by
  intro hm0 hr;subst hm0;rw[hexec hr];have he:Ext M w (M.put id k' none) w (hits [(id,(k',.row e i.size 0 g))]) (qZ [(id,k')]):=
   Ext.put h (λb' hb=>by cases hb) (λ_ _ _=>rfl) (λc arr e hc=>⟨arr,hc,rfl⟩) (Nat.le_refl _) rfl rfl rfl
  refine⟨_,_,rfl,he,.inl ⟨rfl,_,rfl⟩,λi' l' p hl'=>?_,BB⟩;obtain⟨rfl,rfl,rfl⟩:=yU hl';exact⟨by simp[Mem.put],.inl ⟨by simp[Mem.put],rfl⟩⟩
 rcases hxv with⟨hm0,ax,hax⟩|⟨b2,o2,c2,vs,hxe,hvl,hvc,hvr⟩
 ·refine stays hm0 ?_;rw[hax,has];exact YU ht hi _ _ _ _ _ (Nat.le_refl _)
 ·by_cases hm0:m=0
  ·refine stays hm0 ?_;rw[hxe,has,hm0];exact YU ht hi _ _ _ _ _ (Nat.le_refl _)
  ·have hr:(Builtin.append_ #[t,t] o.type #[a.eval s,a.eval x]).run K.P w= .ok (.slice (some ⟨w.heap.size,0,none⟩) m (grownCap w m 0 e)) (w.drew.alloc (.cells (vs.toArray++Builtin.zeroCells z.cells (grownCap w m 0 e-m)) e)):=by
    rw[has,hxe];cases as with
    |none=>exact run_append_nil (P:=K.P) w t o.type e i z ht hi hz ⟨b2,o2,none⟩ m c2 vs hvl (λj u hu=>by rw[Addr.add_lit];exact hvc j u hu) (by omega) (by omega) (by omega)
    |some ad=>
     have:=run_append_grow (P:=K.P) w t o.type e i z ht hi hz ad 0 0 [] (by simp) (λj v hj=>by cases hj) ⟨b2,o2,none⟩ m c2 vs hvl (λj u hu=>by rw[Addr.add_lit];exact hvc j u hu) (by omega) (by omega) (growslice_fits (by omega) (by simpa using hroom));simpa using this
   rw[hexec hr];have hold:∀c,c<w.heap.size->(w.drew.alloc (.cells (vs.toArray++Builtin.zeroCells z.cells (grownCap w m 0 e-m)) e)).heap[c]? =w.heap[c]? :=λc hc=>by rw[heap_alloc_old _ _ c (by simpa using hc)];rfl
   have he:Ext M w (M.put id k' (some w.heap.size)) (w.drew.alloc (.cells (vs.toArray++Builtin.zeroCells z.cells (grownCap w m 0 e-m)) e)) (hits [(id,(k',.row e i.size m g))]) (qZ [(id,k')]):=
    Ext.put h (λb' hb=>by cases hb;exact⟨by simp,.inl (Nat.le_refl _)⟩) (λc hc _=>hold c hc) (λc arr e hc=>⟨arr,by rw[hold c (Array.getElem?_eq_some_iff.1 hc).1];exact hc,rfl⟩) (by simp) rfl rfl rfl (Nat.le_succ _)
   have hge:=grownCap_ge w m 0 e;have hasz:(vs.toArray++Builtin.zeroCells z.cells (grownCap w m 0 e-m)).size=grownCap w m 0 e*i.size:=by
    simp only[Array.size_append,List.size_toArray,size_zeroCells,hzs',hvl,<-Nat.add_mul]
    congr 1
    omega
   have hnew:(w.drew.alloc (.cells (vs.toArray++Builtin.zeroCells z.cells (grownCap w m 0 e-m)) e)).heap[w.heap.size]? =some (.cells (vs.toArray++Builtin.zeroCells z.cells (grownCap w m 0 e-m)) e (0,0)):=heap_alloc_new w.drew _;refine⟨_,_,rfl,he,.inr ⟨w.heap.size,_,rfl,hge,grownCap_le_maxLen w _ _ _ hml,λ_=>⟨by simp[Mem.put],_,e,hnew,hasz⟩⟩,λi' l' p hl'=>?_,BB⟩;obtain⟨rfl,rfl,rfl⟩:=yU hl';refine⟨by simp[Mem.put],.inr ⟨w.heap.size,_,by simp[Mem.put],hnew,by rw[hasz];exact Nat.mul_le_mul_right _ hge,λp hp=>⟨hgl p hp,λq hq=>?_⟩⟩⟩;have:=RM hp hq;rw[GV];simp only[Array.toList_append]
   rw[SC (by omega)];exact he.irep (hvr p q hp hq)
end Go.SL
namespace Go.SL
open Go.RowKit
section
variable {w :World} {M:Mem} {D:Nat} {o':Obj}
theorem GO (hnc:∀arr e z,w.heap[D]? ≠some (.cells arr e z)) {ok:Nat->Prop} {c:C} {v:Value} (h:IRep w ok c v):IRep (w.putObj D o') ok c v:=
 h.move2 (λb arr e z _ hb=>World.putObj_heap_other (show b≠D from λhe=>hnc arr e z (he▸hb))) (λ_ hb _=>hb)
theorem qMS (hnc:∀arr e z,w.heap[D]? ≠some (.cells arr e z)) {c:C} {v:Value} (h:yH w M c v):yH (w.putObj D o') M c v:=by
 cases c with
 |bptr id k j=>exact h
 |_=>exact GO hnc h
theorem qEL (hnc:∀arr e z,w.heap[D]? ≠some (.cells arr e z)) {c:C} {v:Value} (h:CRep w M c v):CRep (w.putObj D o') M c v:=by
 have hc:∀(b:Nat) (arr:Array Value) (e:TypeId) z,w.heap[b]? =some (.cells arr e z)->(w.putObj D o').heap[b]? =some (.cells arr e z):=λb arr e z hb=>by
  rw[World.putObj_heap_other (show b≠D from λhe=>hnc arr e z (he▸hb))];exact hb
 cases c with
 |own id k sz len=>
  rcases h with h0|⟨b,cap,hv,h1,h2,hx⟩
  ·exact .inl h0
  ·exact .inr ⟨b,cap,hv,h1,h2,λhd=>let ⟨hb,arr,e,hh,h3⟩:=hx hd;⟨hb,arr,e,hc b arr e _ hh,h3⟩⟩
 |sub id k sz off len=>
  rcases h with h0|⟨b,cap,hv,h1,h2,hx⟩
  ·exact .inl h0
  ·exact .inr ⟨b,cap,hv,h1,h2,λhd=>let ⟨hb,arr,e,hh,h3⟩:=hx hd;⟨hb,arr,e,hc b arr e _ hh,h3⟩⟩
 |bptr id k j=>exact h
 |rptr id k sz i j=>exact h
 |fn g caps=>obtain⟨vs,h1,h2,h3⟩:=h;exact⟨vs,h1,h2,λj hj=>qMS hnc (h3 j hj)⟩
 |yl R b ts caps=>exact⟨h.1,λj hj=>qMS hnc (h.2 j hj)⟩
 |unk=>exact h
 |val v=>exact GO hnc h
 |emp=>exact GO hnc h
 |lst n f=>exact GO hnc h
 |lptr cs=>exact GO hnc h
 |aptr n sz f=>exact GO hnc h
theorem qHR (hnc:∀arr e z,w.heap[D]? ≠some (.cells arr e z)) {x:V1} {v:Value} (h:qO w M x v):qO (w.putObj D o') M x v:=by
 cases x with
 |one c=>exact qEL hnc h
 |agg cs=>obtain⟨vs,hv,h1,h2⟩:=h;exact⟨vs,hv,h1,λj hj=>qEL hnc (h2 j hj)⟩
theorem qKF (hnc:∀arr e z,w.heap[D]? ≠some (.cells arr e z)) {x:V} {v:Value} (h:VRep w M x v):VRep (w.putObj D o') M x v:=by
 cases x with
 |any=>trivial
 |undef=>exact h
 |v x=>exact qHR hnc h
 |tup xs=>obtain⟨vs,hv,h1,h2⟩:=h;exact⟨vs,hv,h1,λj hj=>qHR hnc (h2 j hj)⟩
theorem qJ7 (hnc:∀arr e z,w.heap[D]? ≠some (.cells arr e z)) {id k:Nat} {o:O} (hne:M.blk id≠some D) (h:ORep w M id k o):ORep (w.putObj D o') M id k o:=by
 have hc:∀(b:Nat),M.blk id=some b->(w.putObj D o').heap[b]? =w.heap[b]? :=λb hb=>World.putObj_heap_other (show b≠D from λhe=>hne (he▸hb));cases o with
 |box e cs=>obtain⟨h1,b,arr,h2,h3,h4⟩:=h;exact⟨h1,b,arr,h2,by rw[hc b h2];exact h3,h4.1,λj hj=>qEL hnc (h4.2 j hj)⟩
 |row e sz n f=>
  refine⟨h.1,?_⟩;rcases h.2 with h0|⟨b,arr,h2,h3,h4,h5⟩
  ·exact .inl h0
  ·exact .inr ⟨b,arr,h2,by rw[hc b h2];exact h3,h4,λi hi=>⟨(h5 i hi).1,λj hj=>GO hnc ((h5 i hi).2 j hj)⟩⟩
 |lp R b s j=>exact⟨h.1,h.2.1,by rw[hc b h.2.1];exact h.2.2⟩
theorem qKM {n:Nat} {d:Deferred} (hd:d≠{target:= .collected D,args:= #[]}) (h:qGS w M n d):qGS (w.putObj D o') M n d:=by
 obtain⟨E,rfl,h1,h2,h3⟩:=h;refine⟨E,rfl,h1,?_,h3⟩;rw[World.putObj_heap_other (show E≠D from λhe=>hd (he▸rfl))];exact h2
end
theorem Sim1.other {K:Ctx} {M:Mem} {st:St} {a a':Act} {w:World} {D:Nat} {o':Obj} (h:Sim1 K M st a w) (hnc:∀arr e z,w.heap[D]? ≠some (.cells arr e z)) (hno:¬M.owns D) (hK:K.w0.heap.size<=D)
  (ht:a'.tmps=a.tmps) (hd:CM (w.putObj D o') M K.w0.heap.size a'.defers):Sim1 K M st a' (w.putObj D o'):=by
 obtain⟨h,h2⟩:=h;refine⟨⟨h.inj,λi k b hv hb=>⟨(h.rng i k b hv hb).1,by rw[World.putObj_size];exact(h.rng i k b hv hb).2⟩,h.fix,⟨h.below.os,h.below.tape,h.below.output,by rw[World.putObj_size];exact h.below.size,λb hb hB=>?_,h.below.drawn⟩,λb arr e hb=>?_,h.area,by rw[ht];exact h.size,hd,λs x hx=>by rw[ht];exact qKF hnc (h.slots s x hx),λi k o ho=>qJ7 hnc (λhb=>hno ⟨i,k,(h.objs i k o ho).ver,hb⟩) (h.objs i k o ho)⟩,h2⟩
 ·rw[World.putObj_heap_other (by omega)];exact h.below.block b hb hB
 ·obtain⟨arr',ha,hs⟩:=h.shape b arr e hb;exact⟨arr',by rw[World.putObj_heap_other (λhe=>hnc arr' e _ (he▸ha))];exact ha,hs⟩
theorem Sim1.setLp {K:Ctx} {M:Mem} {st:St} {a:Act} {w:World} {id k b:Nat} {R:WI} {s:LoopState} {j:Option Code} (h:Sim1 K M st a w) (hl:look id st.objs=some (k,.lp R b s j)) (s':LoopState) (j':Option Code):
  Sim1 K M {slots:=st.slots,objs:=(id,(k,.lp R b s' j'))::st.objs} a (w.putObj b (.loop (R.at s' j'))):=by
 obtain⟨h,h2⟩:=h;obtain⟨hv,hb,hh⟩:=h.objs id k _ hl;have hnc:∀arr e z,w.heap[b]? ≠some (.cells arr e z):=λarr e z q=>by rw[hh] at q;cases q
 have hlt:b<w.heap.size:=(Array.getElem?_eq_some_iff.1 hh).1;refine⟨⟨h.inj,λi k b' hv hb=>⟨(h.rng i k b' hv hb).1,by rw[World.putObj_size];exact(h.rng i k b' hv hb).2⟩,h.fix,⟨h.below.os,h.below.tape,h.below.output,by rw[World.putObj_size];exact h.below.size,λb' hb' hB=>?_,h.below.drawn⟩,λb' arr e hb'=>?_,h.area,h.size,⟨λd hd=>?_,h.defers.2⟩,λs x hx=>qKF hnc (h.slots s x hx),λi k' o ho=>?_⟩,λi hi=>?_⟩
 ·by_cases e:b'=b
  ·subst e;exfalso;rcases(h.rng id k b' hv hb).1 with q|q
   ·omega
   ·exact hB ⟨id,q⟩
  ·rw[World.putObj_heap_other e];exact h.below.block b' hb' hB
 ·obtain⟨arr',ha,hs⟩:=h.shape b' arr e hb';exact⟨arr',by rw[World.putObj_heap_other (λhe=>hnc arr' e _ (he▸ha))];exact ha,hs⟩
 ·have hm:=h.defers.1 d hd;refine qKM (λhe=>?_) hm;obtain⟨E,rfl,_,_,h5⟩:=hm;cases he;exact h5 ⟨id,k,hv,hb⟩
 ·simp only[look_cons] at ho;split at ho
  ·rename_i he;subst he;cases ho;exact⟨hv,hb,World.putObj_heap_same hlt⟩
  ·rename_i he;have hr:=h.objs i k' o ho;exact qJ7 hnc (λq=>he (h.inj id i k k' b hv hr.ver hb q)) hr
 ·unfold hits;simp only[look_cons];split
  ·rfl
  ·exact h2 i hi
theorem qC5 {K:Ctx} {M:Mem} {st:St} {fn:Func} {tmps:Array Value} {R:Ending->World->Prop} (key:∀w,Sim1 K M st ⟨tmps,[]⟩ w->∃v,(results fn tmps).run K.P w= .ok v w/\R (.returned v) w):
  ∀(ds:List Deferred) (w:World),Sim1 K M st ⟨tmps,ds⟩ w->LeavesInM Fence.wide 0 K.P fn tmps R ds .returning w
 |[],w,h=>key w h
 |d::ds,w,h=>by
  obtain⟨hm,hp⟩:=h.1.defers;obtain⟨D,rfl,h1,h2,h3⟩:=hm d List.mem_cons_self;have hne:=(List.pairwise_cons.1 hp).1;refine⟨by simp,.inl ⟨D,_,rfl,run_takeDeferred h2,qC5 key ds _ (h.other (a':=⟨tmps,ds⟩) (λarr e z q=>by rw[h2] at q;cases q) h3 h1 rfl ⟨λd' hd'=>?_,(List.pairwise_cons.1 hp).2⟩)⟩⟩;exact qKM (λe=>hne d' hd' e.symm) (hm d' (List.mem_cons_of_mem _ hd'))
end Go.SL
namespace Go.SL
open Go.RowKit
def oP :Option Prop->Prop
 |none=>True
 |some p=>p
def an :Option Prop->Option Prop->Option Prop
 |none,q=>q
 |some p,none=>some p
 |some p,some q=>some (p/\q)
theorem ZS {p q:Option Prop} (h:oP (an p q)):oP p/\oP q:=by
 cases p with
 |none=>exact⟨trivial,h⟩
 |some p=>
  cases q with
  |none=>exact⟨h,trivial⟩
  |some q=>exact h
theorem o0 :oP none:=trivial
theorem o1 {p:Prop} (h:p):oP (some p):=h
theorem o2 {p q:Prop} (h:p) (k:oP (some q)):oP (some (p/\q)):=⟨h,k⟩
theorem o3 {p q:Prop} (h:oP (some p)) (k:oP (some q)):oP (some (p/\q)):=⟨h,k⟩
def qPw (objs:List (Nat×(Nat×O))):C->Option C
 | .bptr id k j=>match look id objs with|some (k',_)=>bif Nat.beq k k' then some (.bptr id 0 j) else none|none=>none
 |c=>some c
def qDu (objs:List (Nat×(Nat×O))):List C->Option (List C)
 |[]=>some []
 |p::r=>match qPw objs p,qDu objs r with|some q,some r'=>some (q::r')|_,_=>none
def C.rev (objs:List (Nat×(Nat×O))):C->C
 | .fn g caps=>match qDu objs caps with|some caps'=> .fn g caps'|none=> .unk
 | .yl R b ts caps=>match qDu objs caps with|some caps'=> .yl R b ts caps'|none=> .unk
 | .own id k sz len=>match look id objs with|some (k',_)=>bif Nat.beq k k' then .own id 0 sz len else .unk|none=> .unk
 | .sub id k sz off len=>match look id objs with|some (k',_)=>bif Nat.beq k k' then .sub id 0 sz off len else .unk|none=> .unk
 | .bptr id k j=>match look id objs with|some (k',_)=>bif Nat.beq k k' then .bptr id 0 j else .unk|none=> .unk
 | .rptr id k sz i j=>match look id objs with|some (k',_)=>bif Nat.beq k k' then .rptr id 0 sz i j else .unk|none=> .unk
 |c=>c
def V1.rev (objs:List (Nat×(Nat×O))):V1->V1
 | .one c=> .one (c.rev objs)
 | .agg cs=> .agg (cs.map (C.rev objs))
def V.rev (objs:List (Nat×(Nat×O))):V->V
 | .v x=> .v (x.rev objs)
 | .tup xs=> .tup (xs.map (V1.rev objs))
 |x=>x
def O.rev (objs:List (Nat×(Nat×O))):O->O
 | .box e cs=> .box e (cs.map (C.rev objs))
 |o=>o
def St.rev (st:St):St:={slots:=st.slots.map λp=>(p.1,p.2.rev st.objs),objs:=st.objs.map λp=>(p.1,(0,p.2.2.rev st.objs))}
theorem qEE {β γ:Type} (f:β->γ) (s:Nat) (l:List (Nat×β)):look s (l.map λp=>(p.1,f p.2))=(look s l).map f:=by
 induction l with
 |nil=>rfl
 |cons p l ih=>
  obtain⟨k,x⟩:=p;simp only[List.map_cons,look_cons,ih];split<;>rfl
def Mem.rev (M:Mem) (objs:List (Nat×(Nat×O))):Mem:={ver:=λi=>(look i objs).map λ_=>0,blk:=M.blk,A:=M.A}
section
variable {K :Ctx} {M:Mem} {st:St} {a:Act} {w:World}
theorem qOD (h:Sim K M st a w) {b:Nat} (hb:(M.rev st.objs).owns b):M.owns b:=by
 obtain⟨i,k,hv,hbk⟩:=hb;simp only[Mem.rev,Option.map_eq_some_iff] at hv;obtain⟨⟨k',o⟩,hl,_⟩:=hv;exact⟨i,k',(h.objs i k' o hl).ver,hbk⟩
theorem rev_irep (h:Sim K M st a w) {c:C} {v:Value} (hr:IRep w M.imm c v):IRep w (M.rev st.objs).imm c v:=
 hr.move (λ_ _ _=>rfl) λ_ hb _=>⟨hb.1,λho=>hb.2 (qOD h ho)⟩
theorem qRP (h:Sim K M st a w) {c d:C} {v:Value} (hc:qPw st.objs c=some d) (hr:yH w M c v):yH w (M.rev st.objs) d v:=by
 cases c with
 |bptr id k j=>
  simp only[qPw] at hc;split at hc
  ·rename_i k' o hl;cases hk:Nat.beq k k' with
   |false=>rw[hk] at hc;cases hc
   |true=>
    rw[hk] at hc;cases hc;have hkk:=Nat.eq_of_beq_eq_true hk;subst hkk;obtain⟨b,h1,hx⟩:=hr;exact⟨b,h1,λ_=>hx (h.objs id k o hl).ver⟩
  ·cases hc
 |_=>cases hc;exact rev_irep h hr
theorem qC6 (h:Sim K M st a w):∀{caps caps':List C},qDu st.objs caps=some caps'->caps'.length=caps.length/\∀j v,j<caps.length->yH w M (caps.getD j .unk) v->yH w (M.rev st.objs) (caps'.getD j .unk) v
 |[],_,hr=>by cases hr;exact⟨rfl,λj v hj=>absurd hj (Nat.not_lt_zero j)⟩
 |p::r,caps',hr=>by
  simp only[qDu] at hr;split at hr
  ·rename_i q r' h1 h2;cases hr;obtain⟨i1,i2⟩:=qC6 h h2;refine⟨by simp[i1],λj v hj hp=>?_⟩;cases j with
   |zero=>exact qRP h h1 hp
   |succ j=>exact i2 j v (by simpa using hj) hp
  ·cases hr
theorem qPl (h:Sim K M st a w) {c:C} {v:Value} (hr:CRep w M c v):CRep w (M.rev st.objs) (c.rev st.objs) v:=by
 cases c with
 |own id k sz len=>
  simp only[C.rev];split
  ·rename_i k' o hl;cases hk:Nat.beq k k' with
   |false=>exact hr.cell
   |true=>
    have hkk:=Nat.eq_of_beq_eq_true hk;subst hkk;have hv:=(h.objs id k o hl).ver;rcases hr with h0|⟨b,cap,h1,h2,h3,hx⟩
    ·exact .inl h0
    ·exact .inr ⟨b,cap,h1,h2,h3,λ_=>hx hv⟩
  ·exact hr.cell
 |sub id k sz off len=>
  simp only[C.rev];split
  ·rename_i k' o hl;cases hk:Nat.beq k k' with
   |false=>exact hr.cell
   |true=>
    have hkk:=Nat.eq_of_beq_eq_true hk;subst hkk;have hv:=(h.objs id k o hl).ver;rcases hr with h0|⟨b,cap,h1,h2,h3,hx⟩
    ·exact .inl h0
    ·exact .inr ⟨b,cap,h1,h2,h3,λ_=>hx hv⟩
  ·exact hr.cell
 |bptr id k j=>
  simp only[C.rev];split
  ·rename_i k' o hl;cases hk:Nat.beq k k' with
   |false=>exact hr.cell
   |true=>
    have hkk:=Nat.eq_of_beq_eq_true hk;subst hkk;have hv:=(h.objs id k o hl).ver;obtain⟨b,h1,hx⟩:=hr;exact⟨b,h1,λ_=>hx hv⟩
  ·exact hr.cell
 |rptr id k sz i j=>
  simp only[C.rev];split
  ·rename_i k' o hl;cases hk:Nat.beq k k' with
   |false=>exact hr.cell
   |true=>
    have hkk:=Nat.eq_of_beq_eq_true hk;subst hkk;have hv:=(h.objs id k o hl).ver;obtain⟨b,h1,hx⟩:=hr;exact⟨b,h1,λ_=>hx hv⟩
  ·exact hr.cell
 |fn g caps=>
  simp only[C.rev];split
  ·rename_i caps' hc;obtain⟨vs,hv,hs,hx⟩:=hr;obtain⟨i1,i2⟩:=qC6 h hc;exact⟨vs,hv,by rw[i1];exact hs,λj hj=>i2 j _ (by omega) (hx j (by omega))⟩
  ·exact hr.cell
 |yl R b ts caps=>
  simp only[C.rev];split
  ·rename_i caps' hc;obtain⟨i1,i2⟩:=qC6 h hc;exact⟨hr.1,λj hj=>i2 j _ (by omega) (hr.2 j (by omega))⟩
  ·exact hr.cell
 |unk=>exact hr
 |val v=>exact rev_irep h hr
 |emp=>exact rev_irep h hr
 |lst n f=>exact rev_irep h hr
 |lptr cs=>exact rev_irep h hr
 |aptr n sz f=>exact rev_irep h hr
theorem qMJ (h:Sim K M st a w) {cs:List C} {vs:Array Value} (hr:jI w M cs vs):jI w (M.rev st.objs) (cs.map (C.rev st.objs)) vs:=by
 refine⟨by simpa using hr.1,λj hj=>?_⟩;have hj':j<cs.length:=by simpa using hj
 have:=qPl h (hr.2 j hj');simpa only[List.getD_eq_getElem?_getD,List.getElem?_map,List.getElem?_eq_getElem hj',Option.map_some,Option.getD_some] using this
theorem qMt (h:Sim K M st a w) {x:V1} {v:Value} (hr:qO w M x v):qO w (M.rev st.objs) (x.rev st.objs) v:=by
 cases x with
 |one c=>exact qPl h hr
 |agg cs=>obtain⟨vs,hv,hc⟩:=hr;exact⟨vs,hv,qMJ h hc⟩
theorem qUc (h:Sim K M st a w) {x:V} {v:Value} (hr:VRep w M x v):VRep w (M.rev st.objs) (x.rev st.objs) v:=by
 cases x with
 |any=>trivial
 |undef=>exact hr
 |v x=>exact qMt h hr
 |tup xs=>
  obtain⟨vs,hv,hl,hc⟩:=hr;refine⟨vs,hv,by simpa using hl,λj hj=>?_⟩;have hj':j<xs.length:=by simpa using hj
  have:=qMt h (hc j hj');simpa only[List.getD_eq_getElem?_getD,List.getElem?_map,List.getElem?_eq_getElem hj',Option.map_some,Option.getD_some] using this
theorem Sim1.rev (h:Sim1 K M st a w):Sim1 K (M.rev st.objs) st.rev a w:=by
 have hs:=h.1;have old:∀i k,(M.rev st.objs).ver i=some k->∃k',M.ver i=some k':=λi k hv=>by
  simp only[Mem.rev,Option.map_eq_some_iff] at hv;obtain⟨⟨k',o⟩,hl,_⟩:=hv;exact⟨k',(hs.objs i k' o hl).ver⟩
 refine⟨⟨λi j k l b hi hj hbi hbj=>?_,λi k b hv hb=>?_,λi k him hv=>?_,hs.below,hs.shape,hs.area,hs.size,hs.defers.less λ_=>qOD hs,λs x hx=>?_,λi k o ho=>?_⟩,λi hi=>?_⟩
 ·obtain⟨k',hk'⟩:=old i k hi;obtain⟨l',hl'⟩:=old j l hj;exact hs.inj i j k' l' b hk' hl' hbi hbj
 ·obtain⟨k',hk'⟩:=old i k hv;exact hs.rng i k' b hk' hb
 ·obtain⟨k',hk'⟩:=old i k hv;exact hs.fix i k' him hk'
 ·have:look s (st.slots.map λp=>(p.1,p.2.rev st.objs))=some x:=hx;rw[qEE (V.rev st.objs),Option.map_eq_some_iff] at this;obtain⟨y,hy,rfl⟩:=this;exact qUc hs (hs.slots s y hy)
 ·have:look i (st.objs.map λp=>(p.1,((0:Nat),p.2.2.rev st.objs)))=some (k,o):=ho;rw[qEE (λq:Nat×O=>((0:Nat),q.2.rev st.objs)),Option.map_eq_some_iff] at this;obtain⟨⟨k',o'⟩,hy,hko⟩:=this;cases hko;have hv:(M.rev st.objs).ver i=some 0:=by simp[Mem.rev,hy]
  have hor:=hs.objs i k' o' hy;cases o' with
  |box e cs=>
   obtain⟨_,b,arr,hb,hh,hc⟩:=hor;exact⟨hv,b,arr,hb,hh,qMJ hs hc⟩
  |row e sz n f=>
   refine⟨hv,?_⟩;rcases hor.2 with h0|⟨b,arr,hb,hh,hn,hc⟩
   ·exact .inl h0
   ·exact .inr ⟨b,arr,hb,hh,hn,λi hi=>⟨(hc i hi).1,λj hj=>rev_irep hs ((hc i hi).2 j hj)⟩⟩
  |lp R b s j=>exact⟨hv,hor.2.1,hor.2.2⟩
 ·simp only[Mem.rev,ne_eq,Option.map_eq_none_iff] at hi;unfold hits;show(look i (st.objs.map λp=>(p.1,((0:Nat),p.2.2.rev st.objs)))).isSome=true;rw[qEE (λq:Nat×O=>((0:Nat),q.2.rev st.objs)),Option.isSome_map];exact Option.isSome_iff_ne_none.2 hi
def Mem.keep (M:Mem) (objs:List (Nat×(Nat×O))):Mem:={ver:=λi=>if(look i objs).isSome then M.ver i else none,blk:=M.blk,A:=M.A}
theorem jH {M:Mem} {objs:List (Nat×(Nat×O))} {i k:Nat} (h:(M.keep objs).ver i=some k):M.ver i=some k:=by
 simp only[Mem.keep] at h;split at h
 ·exact h
 ·cases h
theorem FI {objs:List (Nat×(Nat×O))} {c:C} {v:Value} (hr:IRep w M.imm c v):IRep w (M.keep objs).imm c v:=
 hr.move (λ_ _ _=>rfl) λ_ hb _=>⟨hb.1,fun⟨i,k,hv,hbk⟩=>hb.2 ⟨i,k,jH hv,hbk⟩⟩
theorem qPK {objs:List (Nat×(Nat×O))} {c:C} {v:Value} (hr:yH w M c v):yH w (M.keep objs) c v:=by
 cases c with
 |bptr id k j=>obtain⟨b,h1,hx⟩:=hr;exact⟨b,h1,λhv=>hx (jH hv)⟩
 |_=>exact FI hr
theorem qM0 {objs:List (Nat×(Nat×O))} {c:C} {v:Value} (hr:CRep w M c v):CRep w (M.keep objs) c v:=by
 cases c with
 |own id k sz len=>
  rcases hr with h0|⟨b,cap,h1,h2,h3,hx⟩
  ·exact .inl h0
  ·exact .inr ⟨b,cap,h1,h2,h3,λhv=>hx (jH hv)⟩
 |sub id k sz off len=>
  rcases hr with h0|⟨b,cap,h1,h2,h3,hx⟩
  ·exact .inl h0
  ·exact .inr ⟨b,cap,h1,h2,h3,λhv=>hx (jH hv)⟩
 |bptr id k j=>obtain⟨b,h1,hx⟩:=hr;exact⟨b,h1,λhv=>hx (jH hv)⟩
 |rptr id k sz i j=>obtain⟨b,h1,hx⟩:=hr;exact⟨b,h1,λhv=>hx (jH hv)⟩
 |fn g caps=>
  obtain⟨vs,hv,hs,hx⟩:=hr;exact⟨vs,hv,hs,λj hj=>qPK (hx j hj)⟩
 |yl R b ts caps=>exact⟨hr.1,λj hj=>qPK (hr.2 j hj)⟩
 |unk=>exact hr
 |val v=>exact FI hr
 |emp=>exact FI hr
 |lst n f=>exact FI hr
 |lptr cs=>exact FI hr
 |aptr n sz f=>exact FI hr
theorem qKl {objs:List (Nat×(Nat×O))} {cs:List C} {vs:Array Value} (hr:jI w M cs vs):jI w (M.keep objs) cs vs:=⟨hr.1,λj hj=>qM0 (hr.2 j hj)⟩
theorem qKH {objs:List (Nat×(Nat×O))} {x:V1} {v:Value} (hr:qO w M x v):qO w (M.keep objs) x v:=by
 cases x with
 |one c=>exact qM0 hr
 |agg cs=>obtain⟨vs,hv,hc⟩:=hr;exact⟨vs,hv,qKl hc⟩
theorem qFy {objs:List (Nat×(Nat×O))} {x:V} {v:Value} (hr:VRep w M x v):VRep w (M.keep objs) x v:=by
 cases x with
 |any=>trivial
 |undef=>exact hr
 |v x=>exact qKH hr
 |tup xs=>obtain⟨vs,hv,hl,hc⟩:=hr;exact⟨vs,hv,hl,λj hj=>qKH (hc j hj)⟩
theorem qFz {objs:List (Nat×(Nat×O))} {i k:Nat} {o:O} (hi:(look i objs).isSome=true) (hr:ORep w M i k o):ORep w (M.keep objs) i k o:=by
 have hv:(M.keep objs).ver i=some k:=by simp only[Mem.keep,hi,if_true];exact hr.ver
 cases o with
 |box e cs=>obtain⟨_,b,arr,hb,hh,hc⟩:=hr;exact⟨hv,b,arr,hb,hh,qKl hc⟩
 |row e sz n f=>
  refine⟨hv,?_⟩;rcases hr.2 with h0|⟨b,arr,hb,hh,hn,hc⟩
  ·exact .inl h0
  ·exact .inr ⟨b,arr,hb,hh,hn,λi hi=>⟨(hc i hi).1,λj hj=>FI ((hc i hi).2 j hj)⟩⟩
 |lp R b s j=>exact⟨hv,hr.2.1,hr.2.2⟩
structure Sub (st' st:St):Prop where
 slots:st'.slots.map (λp=>look p.1 st.slots)=st'.slots.map λp=>some p.2
 objs:st'.objs.map (λp=>look p.1 st.objs)=st'.objs.map λp=>some p.2
theorem qCp {β:Type} {l:List (Nat×β)} {g:Nat->Option β} (h:l.map (λp=>g p.1)=l.map λp=>some p.2) {s:Nat} {x:β} (hx:look s l=some x):g s=some x:=by
 have hm:=look_mem hx;clear hx
 induction l with
 |nil=>cases hm
 |cons p l ih=>
  simp only[List.map_cons,List.cons.injEq] at h;rcases List.mem_cons.1 hm with h1|h1
  ·rw[<-h1] at h;exact h.1
  ·exact ih h.2 h1
theorem Sim1.sub (h:Sim1 K M st a w) {st':St} (hs:Sub st' st):Sim1 K (M.keep st'.objs) st' a w:=by
 refine⟨⟨λi j k l b hi hj hbi hbj=>h.1.inj i j k l b (jH hi) (jH hj) hbi hbj,λi k b hv hb=>h.1.rng i k b (jH hv) hb,λi k him hv=>h.1.fix i k him (jH hv),h.1.below,h.1.shape,h.1.area,h.1.size,h.1.defers.less λ_ ⟨i,k,hv,hb⟩=>⟨i,k,jH hv,hb⟩,λs x hx=>?_,λi k o ho=>?_⟩,λi hi=>?_⟩
 ·exact qFy (h.1.slots s x (qCp (g:=λs=>look s st.slots) hs.slots hx))
 ·exact qFz (by rw[ho];rfl) (h.1.objs i k o (qCp (g:=λs=>look s st.objs) hs.objs ho))
 ·simp only[Mem.keep] at hi;split at hi
  ·assumption
  ·exact absurd rfl hi
end
theorem H_sub {K:Ctx} {st:St} {c:Code} {Q:Exit->St->Prop} (st':St) (hs:Sub st' st.rev) (h:H K st' c Q):H K st c Q:=λ_ a w hsim=>h _ a w (hsim.rev.sub hs)
theorem HL_sub {K:Ctx} {st:St} {c:Code} {Q:Exit->St->Prop} {n:Nat} (st':St) (hs:Sub st' st.rev) (h:HL K c Q n st'):HL K c Q n st:=λ_ a w hsim=>h _ a w (hsim.rev.sub hs)
def Mem.of (A:Nat->Prop):Mem:=⟨λ_=>none,λ_=>none,A⟩
structure InOk (w:World) (M:Mem) (n:Nat) (ob:List (Nat×(Nat×O))):Prop where
 inj:∀i j k l b,M.ver i=some k->M.ver j=some l->M.blk i=some b->M.blk j=some b->i=j
 rng:∀i k b,M.ver i=some k->M.blk i=some b->i<n/\b<w.heap.size/\¬M.A b
 only:∀i,M.ver i≠none->hits ob i
 objs:∀i k o,look i ob=some (k,o)->ORep w M i k o
def qGk (w:World) (M:Mem) (xs:List V1) (vs:Array Value):Prop:=vs.size=xs.length/\∀j,j<xs.length->qO w M (xs.getD j (.one .unk)) (vs.getD j undef)
structure qEe (w w':World) (M M':Mem) (m:Nat) (x:V) (ob:List (Nat×(Nat×O))) (v:Value):Prop where
 only:∀i,M'.ver i≠none->hits ob i
 inj:∀i j k l b,M'.ver i=some k->M'.ver j=some l->M'.blk i=some b->M'.blk j=some b->i=j
 rng:∀i k b,M'.ver i=some k->M'.blk i=some b->(w.heap.size<=b\/(∃k',M.ver i=some k')/\M.blk i=some b)/\b<w'.heap.size
 fix:∀i k k',i<m->M.ver i=some k->M'.ver i=some k'->M'.blk i=M.blk i
 area:∀b,M'.A b↔M.A b\/w.heap.size<=b
 val:VRep w' M' x v
 objs:∀i k o,look i ob=some (k,o)->ORep w' M' i k o
def qBi (gl:List (Nat×C)) (w:World) (A:Nat->Prop):Prop:=∀g c,look g gl=some c->IRep w A c (.pointer (some ⟨g,0,none⟩))
def CtX (P:Program) (gl:List (Nat×C)) (f:FuncId) (n m:Nat) (xs:List V1) (oi:List (Nat×(Nat×O))) (x:V) (ob:List (Nat×(Nat×O))):Prop:=
 ∀(w:World) (M:Mem) (vs:Array Value),qBi gl w M.A->InOk w M n oi->qGk w M xs vs->Calls P f vs w λe w'=>∃v M',e= .returned v/\DQ M.owns w w'/\BS w w'/\qEe w w' M M' m x ob v
def qOq (P:Program) (st:St):ResultVar->Option V1
 | .tmp t=>match look t st.slots with|some (.v x)=>some x|_=>none
 | .cell a t=>match look a st.slots with|some (.v (.one (.bptr id k j)))=>(match FO st (.bptr id k j) with|some (cs,_)=>qCD P t cs|none=>none)|_=>none
def qGp (P:Program) (st:St):List ResultVar->Option (List V1)
 |[]=>some []
 |r::rs=>match qOq P st r,qGp P st rs with|some x,some xs=>some (x::xs)|_,_=>none
def retV (P:Program) (st:St) (rs:List ResultVar):Option V:=
 match qGp P st rs with
 |some [x]=>some (.v x)
 |some []=>some .undef
 |some xs=>some (.tup xs)
 |none=>none
theorem qSh {K:Ctx} {M:Mem} {st:St} {a:Act} {w:World} (h:Sim K M st a w) {r:ResultVar} {x:V1} (hr:qOq K.P st r=some x):
  ∃v,(match r with| .tmp t=>pure (a.tmps.getD t undef)| .cell b t=>do loadVar t (<-asAddr (a.tmps.getD b undef)):Sem Value).run K.P w= .ok v w/\qO w M x v:=by
 unfold qOq at hr;split at hr
 ·rename_i t;split at hr
  ·rename_i y hl;cases hr;exact⟨_,rfl,h.slots t _ hl⟩
  ·cases hr
 ·rename_i b t;split at hr
  ·rename_i id k j hl;split at hr
   ·rename_i cs ob hp;have hc:=h.slots b _ hl;have hob:ob:=by
     unfold FO at hp;simp only at hp;split at hp
     ·rename_i k' e cs' hl';cases hk:Nat.beq k k' with
      |false=>rw[hk] at hp;cases hp
      |true=>rw[hk] at hp;cases hp;trivial
     ·cases hp
    obtain⟨b',o',g,hv,hc1,hc2⟩:=qGL h (c:= .bptr id k j) hc hp hob;obtain⟨v,hv1,hv2⟩:=qH3 (P:=K.P) hr hc1 hc2;exact⟨v,by simp only[hv,asAddr,Sem.run_bind,Sem.run_pure,Result.andThen_ok,hv1],hv2⟩
   ·cases hr
  ·cases hr
theorem qKJ {K:Ctx} {M:Mem} {st:St} {a:Act} {w:World} (h:Sim K M st a w):∀{rs:List ResultVar} {xs:List V1},qGp K.P st rs=some xs->
  ∃vs:List Value,(rs.mapM fun| .tmp t=>pure (a.tmps.getD t undef)| .cell b t=>do loadVar t (<-asAddr (a.tmps.getD b undef)):Sem (List Value)).run K.P w= .ok vs w/\vs.length=xs.length/\∀j,j<xs.length->qO w M (xs.getD j (.one .unk)) (vs.getD j undef)
 |[],_,hr=>by cases hr;exact⟨[],rfl,rfl,λj hj=>by simp at hj⟩
 |r::rs,xs,hr=>by
  simp only[qGp] at hr;split at hr
  ·rename_i x ys hx hys;cases hr;obtain⟨v,h1,h2⟩:=qSh h hx;obtain⟨vs,h3,h4,h5⟩:=qKJ h hys;refine⟨v::vs,?_,by simp[h4],λj hj=>?_⟩
   ·rw[List.mapM_cons];simp only[Sem.run_bind];rw[h1];simp only[Result.andThen_ok];rw[h3];rfl
   ·cases j with
    |zero=>exact h2
    |succ j=>simpa using h5 j (by simpa using hj)
  ·cases hr
theorem qUu {K:Ctx} {M:Mem} {st:St} {a:Act} {w:World} (h:Sim K M st a w) {fn:Func} {x:V} (hr:retV K.P st fn.results.toList=some x):∃v,(results fn a.tmps).run K.P w= .ok v w/\VRep w M x v:=by
 unfold retV at hr;have base:∀xs,qGp K.P st fn.results.toList=some xs->∃vs:List Value,(results fn a.tmps).run K.P w= .ok (if h:vs.toArray.size=1 then vs.toArray[0] else .tuple vs.toArray) w/\vs.length=xs.length/\∀j,j<xs.length->qO w M (xs.getD j (.one .unk)) (vs.getD j undef):=by
  intro xs hxs;obtain⟨vs,h1,h2,h3⟩:=qKJ h hxs;refine⟨vs,?_,h2,h3⟩;unfold results;simp only[Sem.run_bind];rw[Array.mapM_eq_mapM_toList,Sem.run_map];exact congrArg (λr:Result (List Value)=>(r.andThen λa w'=>Result.ok a.toArray w').andThen λa w'=>Sem.run K.P (pure (if h:a.size=1 then a[0] else Value.tuple a)) w') h1
 split at hr
 ·rename_i y hy;cases hr;obtain⟨vs,h1,h2,h3⟩:=base _ hy
  match vs,h2 with
  |[v],_=>exact⟨v,by simpa using h1,show qO w M y v by simpa using h3 0 (by simp)⟩
 ·rename_i hy;cases hr;obtain⟨vs,h1,h2,h3⟩:=base _ hy
  match vs,h2 with
  |[],_=>exact⟨.tuple #[],by simpa using h1,rfl⟩
 ·rename_i xs hx1 hx2 hy;cases hr;obtain⟨vs,h1,h2,h3⟩:=base _ hy;have hne:vs.toArray.size≠1:=by
   simp only[List.size_toArray,h2]
   match xs,hx1 with
   |[],_=>simp
   |[x],hx=>exact absurd rfl (hx x)
   |_::_::_,_=>simp
  refine⟨.tuple vs.toArray,by rw[dif_neg hne] at h1;exact h1,vs.toArray,rfl,by simpa using h2,λj hj=>?_⟩;have:=h3 j hj;simpa[Array.getD_eq_getD_getElem?,List.getD_eq_getElem?_getD] using this
 ·cases hr
def RetQ (P:Program) (fn:Func) (x:V) (ob:List (Nat×(Nat×O))):Exit->St->Prop
 | .ret,st| .normal,st=>retV P st.rev fn.results.toList=some x/\ob.map (λp=>look p.1 st.rev.objs)=ob.map λp=>some p.2
 |_,_=>False
def qDW :Nat->List V1->List (Nat×V)
 |_,[]=>[]
 |k,x::xs=>(k,.v x)::qDW (k+1) xs
theorem qHS :∀(xs:List V1) (k s:Nat) (x:V),look s (qDW k xs)=some x->∃j,s=k+j/\j<xs.length/\x= .v (xs.getD j (.one .unk))
 |[],_,_,_,h=>by cases h
 |y::xs,k,s,x,h=>by
  simp only[qDW,look_cons] at h;split at h
  ·rename_i hk;cases h;exact⟨0,by omega,by simp,rfl⟩
  ·obtain⟨j,h1,h2,h3⟩:=qHS xs (k+1) s x h;exact⟨j+1,by omega,by simpa using h2,by simpa using h3⟩
theorem qUF {P:Program} {gl:List (Nat×C)} {f:FuncId} {fn:Func} {c:Code} {n m:Nat} {xs:List V1} {oi:List (Nat×(Nat×O))} {x:V} {ob:List (Nat×(Nat×O))} (hm:P.follows .mixedOrders=true) (hf:P.funcs[f]? =some fn) (hb:fn.body=some c) (hn:Nat.ble xs.length fn.ntmps=true)
  (h:∀(w:World) (A:Nat->Prop) (In:Nat->Option Nat) (hI:∀i b,In i=some b->i<n/\b<w.heap.size/\¬A b) (hg:qBi gl w A),H {P:=P,w0:=w,nt:=fn.ntmps,A:=A,globs:=gl,mixed:=hm,glob:=hg,n:=n,m:=m,In:=In,hIn:=hI} {slots:=qDW 0 xs,objs:=oi} c (RetQ P fn x ob)):CtX P gl f n m xs oi x ob:=by
 intro w M vs hg hin ha;have hle:=Nat.le_of_ble_eq_true hn;have hI:∀i b,(λi=>if M.ver i=none then none else M.blk i) i=some b->i<n/\b<w.heap.size/\¬M.A b:=λi b hi=>by
  simp only at hi;split at hi
  ·cases hi
  ·rename_i hv;obtain⟨k,hk⟩:=Option.ne_none_iff_exists'.1 hv;exact hin.rng i k b hk hi
 -- the areas alone differ
 have himm:∀b,M.imm b->b<w.heap.size->Mem.imm {M with A:=λb=>M.A b\/w.heap.size<=b} b:=λb hb _=>⟨.inl hb.1,hb.2⟩
 have hir:∀{c:C} {v:Value},IRep w M.imm c v->IRep w (Mem.imm {M with A:=λb=>M.A b\/w.heap.size<=b}) c v:=λhr=>hr.move (λ_ _ _=>rfl) himm;have hcr:∀{c:C} {v:Value},CRep w M c v->CRep w {M with A:=λb=>M.A b\/w.heap.size<=b} c v:=fun{c v} hr=>by
  cases c with
  |own id k sz len=>exact hr
  |sub id k sz off len=>exact hr
  |bptr id k j=>exact hr
  |rptr id k sz i j=>exact hr
  |fn g caps=>
   obtain⟨vs,h1,h2,h3⟩:=hr;refine⟨vs,h1,h2,λj hj=>?_⟩;have:=h3 j hj;generalize caps.getD j .unk=c at this;cases c with
   |bptr id k j=>exact this
   |_=>exact hir this
  |yl R b ts caps=>
   refine⟨hr.1,λj hj=>?_⟩;have:=hr.2 j hj;generalize caps.getD j .unk=c at this;cases c with
   |bptr id k j=>exact this
   |_=>exact hir this
  |unk=>exact hr
  |val v=>exact hir hr
  |emp=>exact hir hr
  |lst n f=>exact hir hr
  |lptr cs=>exact hir hr
  |aptr n sz f=>exact hir hr
 refine callsIn_wide.1 (callsIn_of_wp_marks (n:=0) hf hb trivial (wpIn_mono (h w M.A _ hI hg {M with A:=λb=>M.A b\/w.heap.size<=b} _ w ⟨⟨hin.inj,λi k b hv hb=>?_,λi k _ hv=>?_,DQ.refl _ _,BS.refl _,λb=>Iff.rfl,?_,CM.nil,?_,?_⟩,?_⟩) ?_))
 ·refine⟨.inr ?_,(hin.rng i k b hv hb).2.1⟩;have hv':M.ver i=some k:=hv;simp only[hv',reduceCtorEq,if_false];exact hb
 ·have hv':M.ver i=some k:=hv;simp only[hv',reduceCtorEq,if_false]
 ·have:=ha.1;simp;omega
 ·intro s y hy;obtain⟨j,rfl,hj,rfl⟩:=qHS xs 0 s y hy;have h1:=ha.2 j hj;have hjs:j<vs.size:=by rw[ha.1];exact hj
  have hget:(vs++Array.replicate (fn.ntmps-vs.size) undef).getD (0+j) undef=vs.getD j undef:=by
   simp only[Nat.zero_add,Array.getD_eq_getD_getElem?,Array.getElem?_append_left hjs]
  rw[hget];show qO _ _ _ _;generalize xs.getD j (.one .unk)=y at h1;cases y with
  |one c=>exact hcr h1
  |agg cs=>obtain⟨us,hu,hc⟩:=h1;exact⟨us,hu,hc.1,λj hj=>hcr (hc.2 j hj)⟩
 ·intro i k o ho;have:=hin.objs i k o ho;cases o with
  |box e cs=>obtain⟨h1,b,arr,h2,h3,h4⟩:=this;exact⟨h1,b,arr,h2,h3,h4.1,λj hj=>hcr (h4.2 j hj)⟩
  |row e sz n f=>
   refine⟨this.1,?_⟩;rcases this.2 with h0|⟨b,arr,h2,h3,h4,h5⟩
   ·exact .inl h0
   ·exact .inr ⟨b,arr,h2,h3,h4,λi hi=>⟨(h5 i hi).1,λj hj=>hir ((h5 i hi).2 j hj)⟩⟩
  |lp R b s j=>exact this
 ·intro i hi;exact hin.only i hi
 ·rintro e a' w' ⟨M',st',hq,hsim⟩;have fin:∀st' w' a',Sim1 {P:=P,w0:=w,nt:=fn.ntmps,A:=M.A,globs:=gl,mixed:=hm,glob:=hg,n:=n,m:=m,In:=λi=>if M.ver i=none then none else M.blk i,hIn:=hI} M' st' a' w'->retV P st'.rev fn.results.toList=some x/\ob.map (λp=>look p.1 st'.rev.objs)=(ob.map λp=>some p.2)->
    ∃v,(results fn a'.tmps).run P w'= .ok v w'/\(∃v' M',Ending.returned v= .returned v'/\DQ M.owns w w'/\BS w w'/\qEe w w' M M' m x ob v'):=by
   intro st' w' a' hsim ⟨h1,h2⟩;have hrev:=hsim.rev;obtain⟨v,hv,hvr⟩:=qUu hrev.1 h1;have hIn:∀i b,(if M.ver i=none then none else M.blk i)=some b->(∃k',M.ver i=some k')/\M.blk i=some b:=λi b hi=>by
    split at hi
    ·cases hi
    ·rename_i hne;exact⟨Option.ne_none_iff_exists'.1 hne,hi⟩
   refine⟨v,hv,v,(M'.rev st'.objs).keep ob,rfl,⟨hsim.1.below.os,hsim.1.below.tape,hsim.1.below.output,hsim.1.below.size,λb hb hnb=>hsim.1.below.block b hb fun⟨i,hi⟩=>?_,hsim.1.below.drawn⟩,hsim.1.shape,
    ⟨λi hi=>?_,λi j k l b hi hj hbi hbj=>hrev.1.inj i j k l b (jH hi) (jH hj) hbi hbj,λi k b hvi hbi=>?_,λi k k' him hk hv'=>?_,λb=>hsim.1.area b,qFy hvr,λi k o ho=>?_⟩⟩
   ·obtain⟨⟨k',hk'⟩,hbk⟩:=hIn i b hi;exact hnb ⟨i,k',hk',hbk⟩
   ·simp only[Mem.keep] at hi;split at hi
    ·assumption
    ·exact absurd rfl hi
   ·obtain⟨h1,h2⟩:=hrev.1.rng i k b (jH hvi) hbi;exact⟨h1.imp id (hIn i b),h2⟩
   ·have:=hrev.1.fix i k' him (jH hv');simp only[hk,reduceCtorEq,if_false] at this;exact this
   ·exact qFz (by rw[ho];rfl) (hrev.1.objs i k o (qCp (g:=λs=>look s st'.rev.objs) h2 ho))
  cases e with
  |normal=>exact qC5 (λw2 h2=>fin st' w2 _ h2 hq) a'.defers w' hsim
  |ret=>exact qC5 (λw2 h2=>fin st' w2 _ h2 hq) a'.defers w' hsim
  |exit id=>exact hq.elim
  |goto l=>exact hq.elim
  |panic c=>exact hq.elim
  |outgrown=>exact hq.elim
end Go.SL
namespace Go.SL
open Go.RowKit
def rid (y:Nat):List (Nat×Nat)->Option Nat
 |[]=>none
 |p::r=>bif Nat.beq p.1 y then some 0 else(match rid y r with|some i=>some (i+1)|none=>none)
def ridx (ren:List (Nat×Nat)) (id k:Nat):Option Nat:=
 match rid id ren with|some i=>(match ren[i]? with|some p=>bif Nat.beq p.2 k then some i else none|none=>none)|none=>none
theorem qEi {y:Nat}:∀{ren:List (Nat×Nat)} {i:Nat},rid y ren=some i->∃k,ren[i]? =some (y,k)
 |[],_,h=>by cases h
 |p::r,i,h=>by
  simp only[rid] at h;cases hb:Nat.beq p.1 y with
  |true=>
   rw[hb] at h;cases h;exact⟨p.2,by rw[<-Nat.eq_of_beq_eq_true hb];rfl⟩
  |false=>
   rw[hb] at h;simp only[cond_false] at h;split at h
   ·rename_i j hj;cases h;obtain⟨k,hk⟩:=qEi hj;exact⟨k,by simpa using hk⟩
   ·cases h
theorem qOn {y:Nat}:∀{ren:List (Nat×Nat)},rid y ren=none->∀(i k:Nat),ren[i]? ≠some (y,k)
 |[],_,i,k=>by simp
 |p::r,h,i,k=>by
  simp only[rid] at h;cases hb:Nat.beq p.1 y with
  |true=>rw[hb] at h;cases h
  |false=>
   rw[hb] at h;simp only[cond_false] at h;split at h
   ·cases h
   ·rename_i hj;cases i with
    |zero=>intro he;cases he;rw[Nat.beq_refl] at hb;cases hb
    |succ i=>simpa using qOn hj i k
theorem qAi {ren:List (Nat×Nat)} {id k i:Nat} (h:ridx ren id k=some i):ren[i]? =some (id,k):=by
 unfold ridx at h;split at h
 ·rename_i j hj;obtain⟨k',hk'⟩:=qEi hj;rw[hk'] at h;simp only at h;cases hb:Nat.beq k' k with
  |false=>rw[hb] at h;cases h
  |true=>rw[hb] at h;cases h;rw[hk',Nat.eq_of_beq_eq_true hb]
 ·cases h
def TS (top:Nat):List (Nat×Nat)->Bool
 |[]=>true
 |p::r=>Nat.blt p.1 top&&((rid p.1 r).isNone&&TS top r)
theorem qOm {top:Nat}:∀{ren:List (Nat×Nat)},TS top ren=true->∀(i:Nat) (p:Nat×Nat),ren[i]? =some p->p.1<top
 |[],_,i,p,h=>by simp at h
 |q::r,hr,i,p,h=>by
  simp only[TS,Bool.and_eq_true] at hr;cases i with
  |zero=>cases h;simpa[Nat.blt_eq] using hr.1
  |succ i=>exact qOm hr.2.2 i p (by simpa using h)
theorem qCI {top:Nat}:∀{ren:List (Nat×Nat)},TS top ren=true->∀(i y k:Nat),ren[i]? =some (y,k)->rid y ren=some i
 |[],_,i,y,k,h=>by simp at h
 |q::r,hr,i,y,k,h=>by
  simp only[TS,Bool.and_eq_true] at hr;cases i with
  |zero=>cases h;simp[rid]
  |succ i=>
   have h':r[i]? =some (y,k):=by simpa using h
   have ih:=qCI hr.2.2 i y k h';have hne:Nat.beq q.1 y=false:=by
    cases hb:Nat.beq q.1 y with
    |false=>rfl
    |true=>
     rw[Nat.eq_of_beq_eq_true hb,ih] at hr;cases hr.2.1
   simp only[rid,hne,cond_false,ih]
def C.into (st:St) (ren:List (Nat×Nat)):C->Option (C×Option Prop×Bool)
 | .own id k sz len=>match ridx ren id k with
  |some i=>some (.own i 0 sz len,none,true)
  |none=>(match look id st.objs,rid id ren with|some (k',.row _ sz' n f),none=>bif Nat.beq k k'&&Nat.beq sz sz'&&Nat.blt 0 sz then some (.lst len f,some (len<=n),false) else none|_,_=>none)
 | .sub id k sz off len=>match ridx ren id k with
  |some i=>some (.sub i 0 sz off len,none,true)
  |none=>(match look id st.objs,rid id ren with|some (k',.row _ sz' n f),none=>bif Nat.beq k k'&&Nat.beq sz sz'&&Nat.blt 0 sz then some (.lst len (λi=>f (off+i)),some (off+len<=n),false) else none|_,_=>none)
 | .bptr id k j=>match ridx ren id k with|some i=>some (.bptr i 0 j,none,true)|none=>none
 | .rptr id k sz x j=>match ridx ren id k with|some i=>some (.rptr i 0 sz x j,none,true)|none=>none
 | .fn g caps=>match capsInto ren caps with|some cs=>some (.fn g cs,none,true)|none=>none
 | .yl R b ts caps=>match capsInto ren caps with|some cs=>some (.yl R b ts cs,none,true)|none=>none
 | .unk=>some (.unk,none,true)
 |c=>some (c,none,true)
where
 capInto (ren:List (Nat×Nat)):C->Option C
  | .bptr id k j=>match ridx ren id k with|some i=>some (.bptr i 0 j)|none=>none
  |c=>some c
 capsInto (ren:List (Nat×Nat)):List C->Option (List C)
  |[]=>some []
  |c::r=>match capInto ren c,capsInto ren r with|some d,some ds=>some (d::ds)|_,_=>none
def qEc (st:St) (ren:List (Nat×Nat)):List C->Option (List C×Option Prop×Bool)
 |[]=>some ([],none,true)
 |c::r=>match c.into st ren,qEc st ren r with|some (d,p,b),some (ds,q,b')=>some (d::ds,an p q,b&&b')|_,_=>none
def V1.into (st:St) (ren:List (Nat×Nat)):V1->Option (V1×Option Prop×Bool)
 | .one c=>match c.into st ren with|some (d,p,b)=>some (.one d,p,b)|none=>none
 | .agg cs=>match qEc st ren cs with|some (ds,p,b)=>some (.agg ds,p,b)|none=>none
def DX (st:St) (ren:List (Nat×Nat)):List V1->Option (List V1×Option Prop×Bool)
 |[]=>some ([],none,true)
 |x::r=>match x.into st ren,DX st ren r with|some (y,p,b),some (ys,q,b')=>some (y::ys,an p q,b&&b')|_,_=>none
def O.into (st:St) (ren:List (Nat×Nat)):O->Option O
 | .box e cs=>match qEc st ren cs with|some (ds,_,true)=>some (.box e ds)|_=>none
 | .row e sz n f=>some (.row e sz n f)
 | .lp R b s j=>some (.lp R b s j)
def PP (st:St) (ren:List (Nat×Nat)):Nat->List (Nat×Nat)->Option (List (Nat×(Nat×O)))
 |_,[]=>some []
 |j,(id,k)::r=>match look id st.objs,PP st ren (j+1) r with
  |some (k',o),some os=>bif Nat.beq k k' then(match o.into st ren with|some o'=>some ((j,(0,o'))::os)|none=>none) else none
  |_,_=>none
def Mem.inn (M:Mem) (ren:List (Nat×Nat)) (A:Nat->Prop):Mem:={ver:=λi=>(ren[i]?).map λ_=>0,blk:=λi=>(ren[i]?).bind λp=>M.blk p.1,A:=A}
section
variable {K :Ctx} {M:Mem} {st:St} {a:Act} {w:World} {ren:List (Nat×Nat)} {A:Nat->Prop}
theorem qAt {i id k:Nat} (h:ren[i]? =some (id,k)):(M.inn ren A).ver i=some 0/\(M.inn ren A).blk i=M.blk id:=by
 simp[Mem.inn,h]
theorem SZ {i k:Nat} (h:(M.inn ren A).ver i=some k):k=0/\∃p,ren[i]? =some p/\(M.inn ren A).blk i=M.blk p.1:=by
 simp only[Mem.inn,Option.map_eq_some_iff] at h;obtain⟨p,hp,rfl⟩:=h;exact⟨rfl,p,hp,by simp[Mem.inn,hp]⟩
structure Area (M:Mem) (st:St) (ren:List (Nat×Nat)) (A:Nat->Prop) (views:Bool):Prop where
 imm:∀b,M.imm b->A b
 out:∀(i:Nat) (p:Nat×Nat) (b:Nat),ren[i]? =some p->M.blk p.1=some b->¬A b
 view:views=true->∀id k b,rid id ren=none->M.ver id=some k->M.blk id=some b->A b
theorem qQ4 {views:Bool} (hA:Area M st ren A views) {b:Nat} (hb:A b):(M.inn ren A).imm b:=
 ⟨hb,fun⟨i,k,hv,hbk⟩=>by
  obtain⟨_,p,hp,he⟩:=SZ hv;rw[he] at hbk;exact hA.out i p b hp hbk hb⟩
theorem inn_irep {views:Bool} (hA:Area M st ren A views) {c:C} {v:Value} (h:IRep w M.imm c v):IRep w (M.inn ren A).imm c v:=
 h.move (λ_ _ _=>rfl) λb hb _=>qQ4 hA (hA.imm b hb)
theorem qQG {views:Bool} (h:Sim K M st a w) (hA:Area M st ren A views) (hren:∀(i id k:Nat),ren[i]? =some (id,k)->M.ver id=some k) {c d:C} {v:Value} (hc:C.into.capInto ren c=some d) (hr:yH w M c v):yH w (M.inn ren A) d v:=by
 cases c with
 |bptr id k j=>
  simp only[C.into.capInto] at hc;split at hc
  ·rename_i i hi;cases hc;obtain⟨b,h1,hx⟩:=hr;have:=qAi hi;exact⟨b,h1,λ_=>by rw[(qAt this).2];exact hx (hren _ _ _ this)⟩
  ·cases hc
 |_=>cases hc;exact inn_irep hA hr
theorem qBX {views:Bool} (h:Sim K M st a w) (hA:Area M st ren A views) (hren:∀(i id k:Nat),ren[i]? =some (id,k)->M.ver id=some k):∀{cs ds:List C},C.into.capsInto ren cs=some ds->ds.length=cs.length/\∀j v,j<cs.length->yH w M (cs.getD j .unk) v->yH w (M.inn ren A) (ds.getD j .unk) v
 |[],_,hr=>by cases hr;exact⟨rfl,λj v hj=>absurd hj (Nat.not_lt_zero j)⟩
 |p::r,caps',hr=>by
  simp only[C.into.capsInto] at hr;split at hr
  ·rename_i q r' h1 h2;cases hr;obtain⟨i1,i2⟩:=qBX h hA hren h2;refine⟨by simp[i1],λj v hj hp=>?_⟩;cases j with
   |zero=>exact qQG h hA hren h1 hp
   |succ j=>exact i2 j v (by simpa using hj) hp
  ·cases hr
theorem qN3 {views:Bool} (h:Sim K M st a w) (hA:Area M st ren A views) (hviews:views=true) {id k e sz n len off:Nat} {f:Nat->List C} {v:Value} (hl:look id st.objs=some (k,.row e sz n f)) (hid:rid id ren=none) (hpos:0<sz) (hle:off+len<=n)
  (hc:(len=0/\∃a,v= .slice a 0 0)\/∃b cap,v= .slice (some ⟨b,off*sz,none⟩) len cap/\len<=cap/\cap<=maxLen/\(M.ver id=some k->M.blk id=some b/\∃arr e,w.heap[b]? =some (.cells arr e (0,0))/\arr.size=(off+cap)*sz)) (g:Nat->List C) (hg:∀i,i<len->g i=f (off+i)):
  IRep w (M.inn ren A).imm (.lst len g) v:=by
 obtain⟨hver,hrow⟩:=h.objs id k _ hl;rcases hc with⟨h0,b,rfl⟩|⟨b,cap,rfl,h1,h2,hx⟩
 ·subst h0;exact .lst0 _ _
 ·obtain⟨hb,arr,e',hh,hsize⟩:=hx hver;by_cases hz:len=0
  ·subst hz;exact .lst b (off*sz) 0 cap 0 _ (λ_ _=>undef) (Nat.zero_le _) h2 (λi hi=>by omega) (λi j hi=>by omega) (λi j hi=>by omega) (λi j hi=>by omega)
  ·rcases hrow with⟨hnone,_⟩|⟨b',arr',hb',hh',hns,hcr⟩
   ·rw[hb] at hnone;cases hnone
   ·have hbb:b'=b:=Option.some.inj (hb'.symm.trans hb);subst hbb;rw[hh] at hh';cases hh';refine .lst b' (off*sz) len cap sz g (λi j=>arr.getD ((off+i)*sz+j) undef) h1 h2 (λi hi=>by rw[hg i hi];exact(hcr (off+i) (by omega)).1) (λi j hi hj=>qQ4 hA (hA.view hviews id k b' hid hver hb)) (λi j hi hj=>?_) (λi j hi hj=>by rw[hg i hi];exact inn_irep hA ((hcr (off+i) (by omega)).2 j hj));have:=RM (n:=n) (show off+i<n by omega) hj;rw[show off*sz+(i*sz+j)=(off+i)*sz+j by rw[Nat.add_mul];omega];exact cell_of_row' hh (by omega)
theorem into_crep {views:Bool} (h:Sim K M st a w) (hA:Area M st ren A views) (hren:∀(i id k:Nat),ren[i]? =some (id,k)->M.ver id=some k) {c d:C} {p:Option Prop} {b:Bool} {v:Value} (hc:c.into st ren=some (d,p,b)) (hp:oP p) (hb:b=true\/views=true) (hr:CRep w M c v):CRep w (M.inn ren A) d v:=by
 cases c with
 |own id k sz len=>
  simp only[C.into] at hc;split at hc
  ·rename_i i hi;cases hc;have hi':=qAi hi;rcases hr with h0|⟨b,cap,h1,h2,h3,hx⟩
   ·exact .inl h0
   ·exact .inr ⟨b,cap,h1,h2,h3,λ_=>by rw[(qAt hi').2];exact hx (hren _ _ _ hi')⟩
  ·split at hc
   ·rename_i k' e sz' n f hl hid;cases hk:Nat.beq k k'&&Nat.beq sz sz'&&Nat.blt 0 sz with
    |false=>rw[hk] at hc;cases hc
    |true=>
     rw[hk] at hc;cases hc;simp only[Bool.and_eq_true,Nat.blt_eq] at hk;have hkk:=Nat.eq_of_beq_eq_true hk.1.1;have hss:=Nat.eq_of_beq_eq_true hk.1.2;subst hkk hss;have hp':len<=n:=hp;refine qN3 h hA (hb.resolve_left (by decide)) (off:=0) hl hid hk.2 (by omega) ?_ f (λi _=>by rw[Nat.zero_add]);simp only[Nat.zero_mul,Nat.zero_add];exact hr
   ·cases hc
 |sub id k sz off len=>
  simp only[C.into] at hc;split at hc
  ·rename_i i hi;cases hc;have hi':=qAi hi;rcases hr with h0|⟨b,cap,h1,h2,h3,hx⟩
   ·exact .inl h0
   ·exact .inr ⟨b,cap,h1,h2,h3,λ_=>by rw[(qAt hi').2];exact hx (hren _ _ _ hi')⟩
  ·split at hc
   ·rename_i k' e sz' n f hl hid;cases hk:Nat.beq k k'&&Nat.beq sz sz'&&Nat.blt 0 sz with
    |false=>rw[hk] at hc;cases hc
    |true=>
     rw[hk] at hc;cases hc;simp only[Bool.and_eq_true,Nat.blt_eq] at hk;have hkk:=Nat.eq_of_beq_eq_true hk.1.1;have hss:=Nat.eq_of_beq_eq_true hk.1.2;subst hkk hss;exact qN3 h hA (hb.resolve_left (by decide)) hl hid hk.2 hp hr _ (λi _=>rfl)
   ·cases hc
 |bptr id k j=>
  simp only[C.into] at hc;split at hc
  ·rename_i i hi;cases hc;have hi':=qAi hi;obtain⟨b,h1,hx⟩:=hr;exact⟨b,h1,λ_=>by rw[(qAt hi').2];exact hx (hren _ _ _ hi')⟩
  ·cases hc
 |rptr id k sz x j=>
  simp only[C.into] at hc;split at hc
  ·rename_i i hi;cases hc;have hi':=qAi hi;obtain⟨b,h1,hx⟩:=hr;exact⟨b,h1,λ_=>by rw[(qAt hi').2];exact hx (hren _ _ _ hi')⟩
  ·cases hc
 |fn g caps=>
  simp only[C.into] at hc;split at hc
  ·rename_i cs hcs;cases hc;obtain⟨i1,i2⟩:=qBX h hA hren hcs;obtain⟨vs,hv,hs,hx⟩:=hr;exact⟨vs,hv,by rw[i1];exact hs,λj hj=>i2 j _ (by omega) (hx j (by omega))⟩
  ·cases hc
 |yl R b ts caps=>
  simp only[C.into] at hc;split at hc
  ·rename_i cs hcs;cases hc;obtain⟨i1,i2⟩:=qBX h hA hren hcs;exact⟨hr.1,λj hj=>i2 j _ (by omega) (hr.2 j (by omega))⟩
  ·cases hc
 |unk=>cases hc;exact hr
 |val v=>cases hc;exact inn_irep hA hr
 |emp=>cases hc;exact inn_irep hA hr
 |lst n f=>cases hc;exact inn_irep hA hr
 |lptr cs=>cases hc;exact inn_irep hA hr
 |aptr n sz f=>cases hc;exact inn_irep hA hr
theorem qGd {views:Bool} (h:Sim K M st a w) (hA:Area M st ren A views) (hren:∀(i id k:Nat),ren[i]? =some (id,k)->M.ver id=some k):∀{cs ds:List C} {p:Option Prop} {b:Bool},qEc st ren cs=some (ds,p,b)->oP p->(b=true\/views=true)->ds.length=cs.length/\∀j v,j<cs.length->CRep w M (cs.getD j .unk) v->CRep w (M.inn ren A) (ds.getD j .unk) v
 |[],_,_,_,hr,_,_=>by cases hr;exact⟨rfl,λj v hj=>absurd hj (Nat.not_lt_zero j)⟩
 |c::r,_,_,_,hr,hp,hb=>by
  simp only[qEc] at hr;split at hr
  ·rename_i d p1 b1 ds p2 b2 h1 h2;cases hr;have hb1:b1=true\/views=true:=hb.imp (λh=>by rw[Bool.and_eq_true] at h;exact h.1) id;have hb2:b2=true\/views=true:=hb.imp (λh=>by rw[Bool.and_eq_true] at h;exact h.2) id;obtain⟨hp1,hp2⟩:=ZS hp;obtain⟨i1,i2⟩:=qGd h hA hren h2 hp2 hb2;refine⟨by simp[i1],λj v hj hq=>?_⟩;cases j with
   |zero=>exact into_crep h hA hren h1 hp1 hb1 hq
   |succ j=>exact i2 j v (by simpa using hj) hq
  ·cases hr
theorem qRQ {views:Bool} (h:Sim K M st a w) (hA:Area M st ren A views) (hren:∀(i id k:Nat),ren[i]? =some (id,k)->M.ver id=some k) {x y:V1} {p:Option Prop} {b:Bool} {v:Value} (hx:x.into st ren=some (y,p,b)) (hp:oP p) (hb:b=true\/views=true) (hr:qO w M x v):qO w (M.inn ren A) y v:=by
 cases x with
 |one c=>
  simp only[V1.into] at hx;split at hx
  ·rename_i d p' b' hd;cases hx;exact into_crep h hA hren hd hp hb hr
  ·cases hx
 |agg cs=>
  simp only[V1.into] at hx;split at hx
  ·rename_i ds p' b' hd;cases hx;obtain⟨vs,hv,hs,hc⟩:=hr;obtain⟨i1,i2⟩:=qGd h hA hren hd hp hb;exact⟨vs,hv,by rw[i1];exact hs,λj hj=>i2 j _ (by omega) (hc j (by omega))⟩
  ·cases hx
theorem qHV {views:Bool} (h:Sim K M st a w) (hA:Area M st ren A views) (hren:∀(i id k:Nat),ren[i]? =some (id,k)->M.ver id=some k):∀{xs ys:List V1} {p:Option Prop} {b:Bool},DX st ren xs=some (ys,p,b)->oP p->(b=true\/views=true)->ys.length=xs.length/\∀j v,j<xs.length->qO w M (xs.getD j (.one .unk)) v->qO w (M.inn ren A) (ys.getD j (.one .unk)) v
 |[],_,_,_,hr,_,_=>by cases hr;exact⟨rfl,λj v hj=>absurd hj (Nat.not_lt_zero j)⟩
 |c::r,_,_,_,hr,hp,hb=>by
  simp only[DX] at hr;split at hr
  ·rename_i d p1 b1 ds p2 b2 h1 h2;cases hr;have hb1:b1=true\/views=true:=hb.imp (λh=>by rw[Bool.and_eq_true] at h;exact h.1) id;have hb2:b2=true\/views=true:=hb.imp (λh=>by rw[Bool.and_eq_true] at h;exact h.2) id;obtain⟨hp1,hp2⟩:=ZS hp;obtain⟨i1,i2⟩:=qHV h hA hren h2 hp2 hb2;refine⟨by simp[i1],λj v hj hq=>?_⟩;cases j with
   |zero=>exact qRQ h hA hren h1 hp1 hb1 hq
   |succ j=>exact i2 j v (by simpa using hj) hq
  ·cases hr
theorem qSH {c d:C} {p:Option Prop} (h:c.into st ren=some (d,p,true)):p=none:=by
 cases c with
 |own id k sz len=>
  simp only[C.into] at h;split at h
  ·cases h;rfl
  ·split at h
   ·cases hk:Nat.beq k _&&Nat.beq sz _&&Nat.blt 0 sz with
    |false=>rw[hk] at h;cases h
    |true=>rw[hk] at h;cases h
   ·cases h
 |sub id k sz off len=>
  simp only[C.into] at h;split at h
  ·cases h;rfl
  ·split at h
   ·cases hk:Nat.beq k _&&Nat.beq sz _&&Nat.blt 0 sz with
    |false=>rw[hk] at h;cases h
    |true=>rw[hk] at h;cases h
   ·cases h
 |bptr id k j=>simp only[C.into] at h;split at h<;>cases h;rfl
 |rptr id k sz x j=>simp only[C.into] at h;split at h<;>cases h;rfl
 |fn g caps=>simp only[C.into] at h;split at h<;>cases h;rfl
 |yl R b ts caps=>simp only[C.into] at h;split at h<;>cases h;rfl
 |unk=>cases h;rfl
 |val v=>cases h;rfl
 |emp=>cases h;rfl
 |lst n f=>cases h;rfl
 |lptr cs=>cases h;rfl
 |aptr n sz f=>cases h;rfl
theorem qDY :∀{cs ds:List C} {p:Option Prop},qEc st ren cs=some (ds,p,true)->oP p
 |[],_,_,h=>by cases h;trivial
 |c::r,_,_,h=>by
  simp only[qEc] at h;split at h
  ·rename_i d p1 b1 ds p2 b2 h1 h2;simp only[Option.some.injEq,Prod.mk.injEq] at h;obtain⟨_,rfl,hb⟩:=h;rw[Bool.and_eq_true] at hb;obtain⟨rfl,rfl⟩:=hb;rw[qSH h1];exact qDY h2
  ·cases h
theorem qTx {views:Bool} (h:Sim K M st a w) (hA:Area M st ren A views) (hren:∀(i id k:Nat),ren[i]? =some (id,k)->M.ver id=some k) {o o':O} {i id k:Nat} (ho:o.into st ren=some o') (hi:ren[i]? =some (id,k)) (hr:ORep w M id k o):ORep w (M.inn ren A) i 0 o':=by
 obtain⟨hv,hb⟩:=qAt (M:=M) (A:=A) hi;cases o with
 |box e cs=>
  simp only[O.into] at ho;split at ho
  ·rename_i ds p hd;cases ho;obtain⟨_,b,arr,h1,h2,h3,h4⟩:=hr;obtain⟨i1,i2⟩:=qGd h hA hren hd (qDY hd) (.inl rfl);exact⟨hv,b,arr,by rw[hb];exact h1,h2,by rw[i1];exact h3,λj hj=>i2 j _ (by omega) (h4 j (by omega))⟩
  ·cases ho
 |row e sz n f=>
  cases ho;refine⟨hv,?_⟩;rcases hr.2 with⟨h0,h1⟩|⟨b,arr,h1,h2,h3,h4⟩
  ·exact .inl ⟨by rw[hb];exact h0,h1⟩
  ·exact .inr ⟨b,arr,by rw[hb];exact h1,h2,h3,λi hi=>⟨(h4 i hi).1,λj hj=>inn_irep hA ((h4 i hi).2 j hj)⟩⟩
 |lp R b s j=>cases ho;exact⟨hv,by rw[hb];exact hr.2.1,hr.2.2⟩
theorem qGg :∀{l:List (Nat×Nat)} {s:Nat} {oi:List (Nat×(Nat×O))},PP st ren s l=some oi->∀i k o,look i oi=some (k,o)->∃id k' o',s<=i/\l[i-s]? =some (id,k')/\k=0/\look id st.objs=some (k',o')/\o'.into st ren=some o
 |[],_,_,h,i,k,o,hl=>by cases h;cases hl
 |(id,kk)::r,s,oi,h,i,k,o,hl=>by
  simp only[PP] at h;split at h
  ·rename_i k' o' os h1 h2;cases hb:Nat.beq kk k' with
   |false=>rw[hb] at h;cases h
   |true=>
    rw[hb] at h;simp only[cond_true] at h;split at h
    ·rename_i o2 h3;cases h;have hkk:=Nat.eq_of_beq_eq_true hb;subst hkk;rw[look_cons] at hl;split at hl
     ·rename_i hs;cases hl;exact⟨id,kk,o',by omega,by rw[<-hs,Nat.sub_self];rfl,rfl,h1,h3⟩
     ·obtain⟨id',k',o',e1,e2,e3⟩:=qGg h2 i k o hl;exact⟨id',k',o',by omega,by rw[show i-s=(i-(s+1))+1 by omega];simpa using e2,e3⟩
    ·cases h
  ·cases h
theorem qDe :∀{l:List (Nat×Nat)} {s:Nat} {oi:List (Nat×(Nat×O))},PP st ren s l=some oi->∀(i id k:Nat),l[i]? =some (id,k)->(look (s+i) oi).isSome=true/\∃o,look id st.objs=some (k,o)
 |[],_,_,_,i,id,k,hl=>by simp at hl
 |(id',kk)::r,s,oi,h,i,id,k,hl=>by
  simp only[PP] at h;split at h
  ·rename_i k' o' os h1 h2;cases hb:Nat.beq kk k' with
   |false=>rw[hb] at h;cases h
   |true=>
    rw[hb] at h;simp only[cond_true] at h;split at h
    ·rename_i o2 h3;cases h;have hkk:=Nat.eq_of_beq_eq_true hb;subst hkk;cases i with
     |zero=>cases hl;exact⟨by simp[look_cons],_,h1⟩
     |succ i=>
      have:=qDe h2 i id k (by simpa using hl);refine⟨?_,this.2⟩;rw[look_cons,if_neg (by omega),show s+(i+1)=s+1+i by omega];exact this.1
    ·cases h
  ·cases h
end
end Go.SL

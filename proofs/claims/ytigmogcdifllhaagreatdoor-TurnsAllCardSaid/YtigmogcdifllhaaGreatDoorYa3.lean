/- Operations that make or write memory. -/
import Derived.Test.YtigmogcdifllhaaGreatDoorYa2
import Derived.Test.YtigmogcdifllhaaGreatDoorYa1
set_option linter.unusedVariables false
set_option linter.unusedSimpArgs false
namespace Go.SL
open Go.RowKit
def Mem.put (M:Mem) (id k:Nat) (b:Option Nat):Mem:={ver:=λi=>if i=id then some k else M.ver i,blk:=λi=>if i=id then b else M.blk i,A:=M.A}
theorem qEO {id k:Nat} {o:O} {i:Nat}:hits [(id,(k,o))] i↔i=id:=by
 simp only[hits,look_cons];by_cases h:id=i
 ·simp[h]
 ·simp[h,look,Ne.symm h]
theorem newIn_one {id k i l:Nat}:zV [(id,k)] i l↔i=id/\l=k:=by
 simp[zV]
theorem Ext.put {K:Ctx} {M:Mem} {st:St} {a:Act} {w:World} (h:Sim K M st a w) {w':World} {id k:Nat} {b:Option Nat} {o:O}
  (hb:∀b',b=some b'->b'<w'.heap.size/\(w.heap.size<=b'\/∃k',M.ver id=some k'/\M.blk id=some b'))
  (hheap:∀c,c<w.heap.size->(∀k',M.ver id=some k'->M.blk id≠some c)->w'.heap[c]? =w.heap[c]?)
  (hshape:∀(c:Nat) (arr:Array Value) (e:TypeId),w.heap[c]? =some (.cells arr e (0,0))->∃arr':Array Value,w'.heap[c]? =some (.cells arr' e (0,0))/\arr'.size=arr.size)
  (hs:w.heap.size<=w'.heap.size) (h1:w'.os=w.os) (h2:w'.tape=w.tape) (h3:w'.output=w.output) (h4:w.drawn<=w'.drawn:=by exact kq _):
  Ext (drOf K.globs) M w (M.put id k b) w' (hits [(id,(k,o))]) (zV [(id,k)]) where
 ver:=λi l hv=>by
  simp only[Mem.put] at hv;split at hv
  ·rename_i hi;cases hv;exact .inl (newIn_one.2 ⟨hi,rfl⟩)
  ·exact .inr hv
 keep:=λi l hv hw=>by
  have:i≠id:=λe=>hw (qEO.2 e);simp[Mem.put,this,hv]
 blk:=λi l hv hn=>by
  simp only[Mem.put] at hv⊢;split
  ·rename_i hi;rw[if_pos hi] at hv;cases hv;exact absurd (newIn_one.2 ⟨hi,rfl⟩) hn
  ·rfl
 fresh:=λi l c hn hv hc=>by
  obtain⟨rfl,rfl⟩:=newIn_one.1 hn;simp only[Mem.put,if_true] at hc;exact(hb c hc).2
 inj:=λi j l m c hi hj hbi hbj=>by
  have key:∀x y,x≠id->(M.put id k b).ver x=some y->(M.put id k b).blk x=some c->b≠some c:=by
   intro x y hx hv hbx hbc;simp only[Mem.put,hx,if_false] at hv hbx;rcases(hb c hbc).2 with h'|⟨k',h1,h2⟩
   ·have:=(h.rng x y c hv hbx).2;omega
   ·exact hx (h.inj x id y k' c hv h1 hbx h2)
  by_cases hii:i=id<;>by_cases hjj:j=id
  ·rw[hii,hjj]
  ·subst hii;exact absurd (by simpa[Mem.put] using hbi) (key j m hjj hj hbj)
  ·subst hjj;exact absurd (by simpa[Mem.put] using hbj) (key i l hii hi hbi)
  ·simp only[Mem.put,hii,hjj,if_false] at hi hj hbi hbj;exact h.inj i j l m c hi hj hbi hbj
 rng:=λi l c hv hc=>by
  by_cases hii:i=id
  ·subst hii;simp only[Mem.put,if_true] at hc;exact(hb c hc).1
  ·simp only[Mem.put,hii,if_false] at hv hc;exact uA (h.rng i l c hv hc).2 hs
 heap:=λc hc hw=>hheap c hc λk' hv=>hw id k' (qEO.2 rfl) hv
 shape:=hshape
 size:=hs
 area:=rfl
 os:=h1
 tape:=h2
 output:=h3
 drawn:=λ_=>h4
theorem WU {id k:Nat} {o:O} {i l:Nat} {p:O} (h:look i [(id,(k,o))]=some (l,p)):i=id/\l=k/\p=o:=by
 simp only[look_cons] at h;split at h
 ·rename_i hi;cases h;exact⟨hi.symm,rfl,rfl⟩
 ·cases h
theorem MX {M:Mem} {id k:Nat} {b:Option Nat} {o:O}:∀i,(M.put id k b).ver i≠none->M.ver i≠none\/hits [(id,(k,o))] i:=λi hi=>by
 by_cases h:i=id
 ·exact .inr (qEO.2 h)
 ·exact .inl (by simpa[Mem.put,h] using hi)
theorem Ext.alloc {K:Ctx} {M:Mem} {st:St} {a:Act} {w:World} (h:Sim K M st a w) (id k:Nat) (o:O) (obj:Obj):Ext (drOf K.globs) M w (M.put id k (some w.heap.size)) (w.alloc obj) (hits [(id,(k,o))]) (zV [(id,k)]):=
 Ext.put h (λb' hb=>by cases hb;exact⟨by simp,.inl (kq _)⟩) (λc hc _=>heap_alloc_old w obj c hc)
  (λc arr e hc=>⟨arr,by rw[heap_alloc_old w obj c (ui.1 hc).1];exact hc,rfl⟩) (by simp) rfl rfl rfl
theorem Step_box {K:Ctx} {st:St} {o:Oper} (e:TypeId) (x:Operand) (id k:Nat) (y:V1) (ho:o.op= .box e x) (hx:op1 K.globs st x=some y) (hf:y.freeB [(id,k)]=true):
  Step K st o [(id,k)] [(id,(k,.box e y.cells))] (.v (.one (.bptr id k 0))):=by
 refine XC (by rw[ho];rfl) ?_;intro M a w h _;have hv:=op1_rep h hx;have he:=Ext.alloc h id k (.box e y.cells) (.cells (a.eval x).cells e);unfold Oper.wp;have hrun:(execOp a.eval o).run K.P w= .ok (.value (.pointer (some ⟨w.heap.size,0,none⟩))) (w.alloc (.cells (a.eval x).cells e)):=by
  unfold execOp;rw[ho];simp[Instr.box,newVar,newRow]
 rw[hrun];refine⟨_,_,rfl,he,⟨w.heap.size,rfl,λ_=>by simp[Mem.put]⟩,λi l p hl=>?_,MX⟩;obtain⟨rfl,rfl,rfl⟩:=WU hl;refine⟨by simp[Mem.put],w.heap.size,(a.eval x).cells,by simp[Mem.put],heap_alloc_new w _,?_⟩;have hy:=he.v1rep (V1.free_of hf) hv;exact qH2 hy
theorem Step_alloc {K:Ctx} {st:St} {o:Oper} (e:TypeId) (id k:Nat) (cs:List C) (ho:o.op= .alloc e) (hz:AP K.P e=some cs) (hf:cs.all (C.freeB [(id,k)])=true):
  Step K st o [(id,k)] [(id,(k,.box e cs))] (.v (.one (.bptr id k 0))):=by
 refine XC (by rw[ho];rfl) ?_;intro M a w h _;obtain⟨z,hzr,hzc⟩:=qA9 hz w M;have he:=Ext.alloc h id k (.box e cs) (.cells z.cells e);unfold Oper.wp;have hrun:(execOp a.eval o).run K.P w= .ok (.value (.pointer (some ⟨w.heap.size,0,none⟩))) (w.alloc (.cells z.cells e)):=by
  unfold execOp;rw[ho];simp[Instr.alloc,newVar,newRow,hzr]
 rw[hrun];refine⟨_,_,rfl,he,⟨w.heap.size,rfl,λ_=>by simp[Mem.put]⟩,λi l p hl=>?_,MX⟩;obtain⟨rfl,rfl,rfl⟩:=WU hl;exact⟨by simp[Mem.put],w.heap.size,z.cells,by simp[Mem.put],heap_alloc_new w _,he.csrep (qI7 hf) hzc⟩
theorem qAX {w:World} {M:Mem} {cs:List C} {vs:Array Value} (h:yQ w M cs vs):∀v∈vs.toList,v.oneCell'=true:=by
 intro v hv;obtain⟨j,hj,rfl⟩:=uV.1 hv;have hj':j<vs.size:=by simpa using hj
 have:=(h.2 j (by rw[<-h.1];exact hj')).cell;simpa[kw,kE hj'] using this
theorem qTf {w:World} {M:Mem} {cs xs:List C} {arr vs:Array Value} {j:Nat} (hc:yQ w M cs arr) (hx:yQ w M xs vs) (hb:j+xs.length<=cs.length):
  yQ w M (JH cs j xs) (arr.toList.take j++vs.toList++arr.toList.drop (j+vs.toList.length)).toArray:=by
 have hcs:=hc.1;have hxs:=hx.1;have hvl:vs.toList.length=xs.length:=by simpa using hxs
 refine⟨by simp[JH];omega,λm hm=>?_⟩;have hm':m<cs.length:=by simp[JH] at hm;omega
 unfold JH;simp only[ki,kw,dJ,hvl];by_cases h1:m<j
 ·have:=hc.2 m hm';simp only[ki,kw] at this;rw[kR,kL (by simp;omega),uh,if_pos h1,kR,kL (by simp;omega),uh,if_pos h1,dq (xs:=arr)];exact this
 ·by_cases h2:m<j+xs.length
  ·have:=hx.2 (m-j) (by omega);simp only[ki,kw] at this;rw[kR,kH (by simp;omega),kL (by simp;omega),kR,kH (by simp;omega),kL (by simp;omega)];simp only[ur,gu (show j<=cs.length by omega),Array.length_toList,gu (show j<=arr.size by omega),dq];exact this
  ·have:=hc.2 m hm';simp only[ki,kw] at this;rw[kH (by simp;omega),kH (by simp;omega),gk,gk];simp only[ub,ur,gu (show j<=cs.length by omega),Array.length_toList,gu (show j<=arr.size by omega),hvl,dq];rw[show j+xs.length+(m-(j+xs.length))=m by omega];exact this
theorem Ext.write {K:Ctx} {M:Mem} {st:St} {a:Act} {w:World} (h:Sim K M st a w) {id k b:Nat} {arr arr':Array Value} {e:TypeId} {o:O} (_hv:M.ver id=some k) (hb:M.blk id=some b) (hh:w.heap[b]? =some (.cells arr e (0,0))) (hs:arr'.size=arr.size):
  Ext (drOf K.globs) M w M (w.setRow b arr') (hits [(id,(k,o))]) (zV []) where
 ver:=λ_ _ h=> .inr h
 keep:=λ_ _ h _=>h
 blk:=λ_ _ _ _=>rfl
 fresh:=λ_ _ _ hn=>by cases hn
 inj:=h.inj
 rng:=λi l c hv hc=>by rw[size_setRow];exact(h.rng i l c hv hc).2
 heap:=λc hc hw=>setRow_other w b c arr' λhcb=>hw id k (qEO.2 rfl) _hv (by rw[hb,hcb])
 shape:=λc arr0 e0 hc=>by
  by_cases hcb:c=b
  ·subst hcb;rw[hh] at hc;cases hc;exact⟨arr',setRow_heap w c arr arr' e (0,0) hh,hs⟩
  ·exact⟨arr0,by rw[setRow_other w b c arr' hcb];exact hc,rfl⟩
 size:=by rw[size_setRow];exact kq _
 area:=rfl
 os:=rfl
 tape:=rfl
 output:=rfl
 drawn:=λ_=>kq _
theorem qIS {P:Program} {w:World} {t:TypeId} {i:TypeInfo} {b j:Nat} {arr:Array Value} {e:TypeId} {v:Value} (hi:P.info? t=some i) (hsz:v.cells.size=i.size) (hh:w.heap[b]? =some (.cells arr e (0,0)))
  (hl:j+v.cells.toList.length<=arr.size) (h1:∀x∈v.cells.toList,x.oneCell'=true):
  (storeVar t ⟨b,j,none⟩ v).run P w= .ok () (w.setRow b (arr.toList.take j++v.cells.toList++arr.toList.drop (j+v.cells.toList.length)).toArray):=by
 have:=run_storeCells_at P b j e v.cells.toList 0 arr w hh (by simpa using hl) h1;simp only[ug] at this;simp only[storeVar,Sem.run_bind,wK hi,Result.andThen_ok,hsz,ne_eq,not_true_eq_false,if_false];exact this
theorem qNW {K:Ctx} {st:St} {o:Oper} (t:TypeId) (p x:Operand) (id k j:Nat) (e:TypeId) (cs:List C) (y:V1) (cs':List C) (ho:o.op= .store t p x)
  (hp:op1 K.globs st p=some (.one (.bptr id k j))) (hx:op1 K.globs st x=some y) (hl:look id st.objs=some (k,.box e cs)) (hsz:szOf K.P t=y.cells.length) (hin:(K.P.info? t).isSome=true)
  (hb:Nat.ble (j+y.cells.length) cs.length=true) (hcs:JH cs j y.cells=cs'):Step K st o [] [(id,(k,.box e cs'))] .undef:=by
 subst hcs;refine XC (by rw[ho];rfl) ?_;intro M a w h _;have hv:=op1_rep h hx;obtain⟨b',hpv,hbb⟩:=op1_rep h hp;obtain⟨hver,b,arr,hbk,hh,hcr⟩:=h.objs id k _ hl;have hb':b'=b:=kQ ((hbb hver).symm.trans hbk);rw[hb'] at hpv;clear hbb hb';obtain⟨i,hi⟩:=uB.1 hin;have hyc:=qH2 hv;have hle:=kW hb;have hisz:i.size=y.cells.length:=by rw[<-hsz];simp[szOf,hi]
 have hrun:=qIS (P:=K.P) (w:=w) (t:=t) (b:=b) (j:=j) (v:=a.eval x) hi (by rw[hyc.1,hisz]) hh (by have:=hyc.1;have:=hcr.1;simp;omega) (qAX hyc);have hs':(arr.toList.take j++(a.eval x).cells.toList++arr.toList.drop (j+(a.eval x).cells.toList.length)).toArray.size=arr.size:=by
  have:=hyc.1;have:=hcr.1;simp;omega
 have he:=Ext.write (o:= .box e (JH cs j y.cells)) h hver hbk hh hs';unfold Oper.wp;have hex:(execOp a.eval o).run K.P w= .ok .skip (w.setRow b (arr.toList.take j++(a.eval x).cells.toList++arr.toList.drop (j+(a.eval x).cells.toList.length)).toArray):=by
  unfold execOp;rw[ho];simp only[Instr.storeAt,hpv,Instr.sureAddr,Sem.run_bind,Sem.run_pure,Result.andThen_ok,hrun]
 rw[hex];refine⟨undef,M,rfl,he,rfl,λi l q hl'=>?_,λi hi=> .inl hi⟩;obtain⟨rfl,rfl,rfl⟩:=WU hl';refine⟨hver,b,_,hbk,setRow_heap w b arr _ e (0,0) hh,?_⟩;have hnil:∀cs,qHr (zV []) cs:=λcs c _=>qXW c;exact qTf (he.csrep (hnil _) hcr) (he.csrep (hnil _) hyc) hle
theorem IT {α:Type} (l vs:List α) (p j:Nat) (d:α) (h:p+vs.length<=l.length):(l.take p++vs++l.drop (p+vs.length)).getD j d=if p<=j/\j<p+vs.length then vs.getD (j-p) d else l.getD j d:=by
 simp only[ki];by_cases h1:j<p
 ·rw[if_neg (by omega),kR,kL (by simp;omega),uh,if_pos h1]
 ·by_cases h2:j<p+vs.length
  ·rw[if_pos (by omega),kR,kH (by simp;omega),kL (by simp;omega)];simp only[ur,gu (show p<=l.length by omega)]
  ·rw[if_neg (by omega),kH (by simp;omega),gk];simp only[ub,ur,gu (show p<=l.length by omega)];rw[show p+vs.length+(j-(p+vs.length))=j by omega]
theorem FO {arr:Array Value} {j:Nat}:arr.getD j undef=arr.toList.getD j undef:=by
 simp[kw,ki]
theorem qOy {K:Ctx} {st:St} {o:Oper} (t:TypeId) (p x:Operand) (id k sz i j:Nat) (e:TypeId) (n:Nat) (f f':Nat->List C) (y:V1) (ho:o.op= .store t p x)
  (hp:op1 K.globs st p=some (.one (.rptr id k sz i j))) (hx:op1 K.globs st x=some y) (hl:look id st.objs=some (k,.row e sz n f)) (hsz:szOf K.P t=y.cells.length) (hin:(K.P.info? t).isSome=true)
  (himm:y.cells.all C.isImm=true) (hb:Nat.ble (j+y.cells.length) sz=true) (hi:i<n) (hf':∀m,m<n->f' m=if m=i then JH (f i) j y.cells else f m):
  Step K st o [] [(id,(k,.row e sz n f'))] .undef:=by
 refine XC (by rw[ho];rfl) ?_;intro M a w h _;have hv:=op1_rep h hx;obtain⟨b',hpv,hbb⟩:=op1_rep h hp;obtain⟨hver,hrow⟩:=h.objs id k _ hl;rcases hrow with⟨_,h0⟩|⟨b,arr,hbk,hh,hns,hcr⟩
 ·omega
 have hb':b'=b:=kQ ((hbb hver).symm.trans hbk);rw[hb'] at hpv;clear hbb hb';obtain⟨ti,hti⟩:=uB.1 hin;have hyc:=qH2 hv;have hle:=kW hb;have hisz:ti.size=y.cells.length:=by rw[<-hsz];simp[szOf,hti]
 have hin':i*sz+sz<=n*sz:=by
  have:(i+1)*sz<=n*sz:=kS _ hi;rw[uo,dg] at this;exact this
 have hvs:(a.eval x).cells.size=y.cells.length:=hyc.1;have hrun:=qIS (P:=K.P) (w:=w) (t:=t) (b:=b) (j:=i*sz+j) (v:=a.eval x) hti (by rw[hyc.1,hisz]) hh (by simp;omega) (qAX hyc);have hs':(arr.toList.take (i*sz+j)++(a.eval x).cells.toList++arr.toList.drop (i*sz+j+(a.eval x).cells.toList.length)).toArray.size=arr.size:=by
  simp;omega
 have he:=Ext.write (o:= .row e sz n f') h hver hbk hh hs';unfold Oper.wp;have hex:(execOp a.eval o).run K.P w= .ok .skip (w.setRow b (arr.toList.take (i*sz+j)++(a.eval x).cells.toList++arr.toList.drop (i*sz+j+(a.eval x).cells.toList.length)).toArray):=by
  unfold execOp;rw[ho];simp only[Instr.storeAt,hpv,Instr.sureAddr,Sem.run_bind,Sem.run_pure,Result.andThen_ok,hrun]
 rw[hex];refine⟨undef,M,rfl,he,rfl,λi' l q hl'=>?_,λi hi=> .inl hi⟩;obtain⟨rfl,rfl,rfl⟩:=WU hl';refine⟨hver,.inr ⟨b,_,hbk,setRow_heap w b arr _ e (0,0) hh,by omega,λm hm=>?_⟩⟩;have hfi:=hcr i hi;have hlen:(f' m).length=sz:=by
  rw[hf' m hm];split
  ·simp only[JH,ub,ur,uv,hfi.1];omega
  ·exact(hcr m hm).1
 refine⟨hlen,λq hq=>?_⟩;rw[hf' m hm];have hmn:m*sz+sz<=n*sz:=by
  have:(m+1)*sz<=n*sz:=kS _ hm;rw[uo,dg] at this;exact this
 have hcell:((arr.toList.take (i*sz+j)++(a.eval x).cells.toList++arr.toList.drop (i*sz+j+(a.eval x).cells.toList.length)).toArray).getD (m*sz+q) undef=
   if i*sz+j<=m*sz+q/\m*sz+q<i*sz+j+y.cells.length then(a.eval x).cells.getD (m*sz+q-(i*sz+j)) undef else arr.getD (m*sz+q) undef:=by
  rw[FO,IT _ _ _ _ _ (by simp;omega)];simp only[Array.length_toList,hvs,<-FO]
 rw[hcell];clear hcell hex hrun;generalize (w.setRow b (arr.toList.take (i*sz+j)++(a.eval x).cells.toList++arr.toList.drop (i*sz+j+(a.eval x).cells.toList.length)).toArray)=w2 at he;by_cases hmi:m=i
 ·subst hmi;rw[if_pos rfl];unfold JH;rw[IT _ _ _ _ _ (by rw[hfi.1];exact hle)];by_cases hq1:j<=q/\q<j+y.cells.length
  ·rw[if_pos hq1,if_pos (by omega),show m*sz+q-(m*sz+j)=q-j by omega];have hy:=hyc.2 (q-j) (by omega);have hyi:(y.cells.getD (q-j) .unk).isImm=true:=kB.1 himm _ (ZH (by omega));have hy':IRep w M.imm (y.cells.getD (q-j) .unk) ((a.eval x).cells.getD (q-j) undef):=by
    generalize y.cells.getD (q-j) .unk=c at hy hyi;cases c<;>first|exact hy|cases hyi
   exact he.irep hy'
  ·rw[if_neg hq1,if_neg (by omega)];exact he.irep (hfi.2 q hq)
 ·rw[if_neg hmi];have hne:¬(i*sz+j<=m*sz+q/\m*sz+q<i*sz+j+y.cells.length):=by
   rcases kab hmi with hlt|hgt
   ·have:(m+1)*sz<=i*sz:=kS _ hlt;rw[uo,dg] at this;omega
   ·have hg:(i+1)*sz<=m*sz:=kS _ hgt;rw[uo,dg] at hg;omega
  rw[if_neg hne];exact he.irep ((hcr m hm).2 q hq)
theorem qOM (z:Array Value) (n j:Nat) (hj:j<n) (hz:0<z.size):(madeCells z n).getD j undef=z.getD (j % z.size) undef:=by
 have h1:j % z.size<z.size:=kT _ hz;simp[madeCells,hj,h1]
theorem qJZ (m sz q:Nat) (hq:q<sz):(m*sz+q) % sz=q:=by
 rw[dn,Nat.add_mul_mod_self_right,uW hq]
theorem GO {m n sz q:Nat} (hm:m<n) (hq:q<sz):m*sz+q<n*sz:=by
 have:(m+1)*sz<=n*sz:=kS _ hm;rw[uo,dg] at this;omega
theorem qKD {w:World} {M:Mem} {cs:List C} {vs:Array Value} (h:yQ w M cs vs) (hi:cs.all C.isImm=true) {j:Nat} (hj:j<cs.length):IRep w M.imm (cs.getD j .unk) (vs.getD j undef):=by
 have h1:=h.2 j hj;have h2:(cs.getD j .unk).isImm=true:=kB.1 hi _ (ZH hj);generalize cs.getD j .unk=c at h1 h2;cases c<;>first|exact h1|cases h2
inductive EL :List C->List C->Prop
 |nil:EL [] []
 |same (c:C) {l r:List C} (h:EL l r):EL (c::l) (c::r)
 |emp (g:Nat->List C) {l r:List C} (h:EL l r):EL (.lst 0 g::l) (.emp::r)
theorem EL.rfl :∀(l:List C),EL l l
 |[]=> .nil
 |c::l=> .same c (EL.rfl l)
theorem EL.len {l r:List C} (h:EL l r):l.length=r.length:=by induction h<;>simp_all
theorem EL.irep {w:World} {ok:Nat->Prop} {l r:List C} (h:EL l r):∀{j:Nat} {v:Value},j<r.length->IRep w ok (r.getD j .unk) v->IRep w ok (l.getD j .unk) v:=by
 induction h with
 |nil=>intro j v hj;simp at hj
 |same c h ih=>intro j v hj hv;cases j with
  |zero=>exact hv
  |succ j=>exact ih (by simpa using hj) hv
 |emp g h ih=>intro j v hj hv;cases j with
  |zero=>
   have hv':IRep w ok .emp v:=hv;cases hv';exact .lst0 _ _
  |succ j=>exact ih (by simpa using hj) hv
theorem qWy {K:Ctx} {st:St} {o:Oper} (t e:TypeId) (l c:Operand) (id k:Nat) (kl kc:IntKind) (z:Int) (i:TypeInfo) (cs:List C) (ho:o.op= .makeSlice t l c)
  (hl:op1 K.globs st l=some (.one (.val (.int kl z)))) (hc:op1 K.globs st c=some (.one (.val (.int kc z)))) (ht:K.P.underlying t=some (.slice e)) (hi:K.P.info? e=some i)
  (hz:AP K.P e=some cs) (hcs:Nat.beq cs.length i.size=true) (himm:cs.all C.isImm=true) (hpos:Nat.blt 0 i.size=true) (h0:0<=z) (hb:(i.bytes:Int)*z<=140737488355328) (h63:z<=9223372036854775807) (f':Nat->List C) (hf':∀m,m<z.toNat->EL (f' m) cs):
  Step K st o [(id,k)] [(id,(k,.row e i.size z.toNat f'))] (.v (.one (.own id k i.size z.toNat))):=by
 refine XC (by rw[ho];rfl) ?_;intro M a w h _;obtain⟨zz,hzz⟩:∃zz,i.zero=some zz:=by
  unfold AP at hz;rw[hi] at hz;simp only at hz;split at hz
  ·rename_i x hx;exact⟨x,hx⟩
  ·cases hz
 have hzc:yQ w M cs zz.cells:=by
  obtain⟨z',hr,hcr⟩:=qA9 hz w M;have:(zeroValue e).run K.P w= .ok zz w:=by simp[zeroValue,typeInfo,hi,hzz]
  rw[this] at hr;cases hr;exact hcr
 have hlen:zz.cells.size=i.size:=by rw[hzc.1];exact ku hcs
 have hpos':0<i.size:=by simpa[uf] using hpos
 have hrun:=run_make (P:=K.P) w t e i zz ht hi hzz kl kc z z h0 (kM _) (by omega) h63;have he:=Ext.alloc h id k (.row e i.size z.toNat f') (.cells (madeCells zz.cells (z.toNat*i.size)) e);unfold Oper.wp;have hex:(execOp a.eval o).run K.P w= .ok (.value (.slice (some ⟨w.heap.size,0,none⟩) z.toNat z.toNat)) (w.alloc (.cells (madeCells zz.cells (z.toNat*i.size)) e)):=by
  unfold execOp;rw[ho];simp only[v1_val (op1_rep h hl),v1_val (op1_rep h hc),Sem.run_bind,hrun,Result.andThen_ok,Sem.run_pure]
 rw[hex];have hmx:z.toNat<=maxLen:=by unfold maxLen;omega
 refine⟨_,_,rfl,he,.inr ⟨w.heap.size,z.toNat,rfl,kq _,hmx,λ_=>⟨by simp[Mem.put],_,e,heap_alloc_new w _,by simp[madeCells]⟩⟩,λi' l' p hl'=>?_,MX⟩;obtain⟨rfl,rfl,rfl⟩:=WU hl';refine⟨by simp[Mem.put],.inr ⟨w.heap.size,_,by simp[Mem.put],heap_alloc_new w _,by simp[madeCells],λm hm=>⟨by rw[(hf' m hm).len];exact ku hcs,λq hq=>?_⟩⟩⟩;rw[qOM _ _ _ (GO hm hq) (by omega),hlen,qJZ _ _ _ hq];exact(hf' m hm).irep (by rw[<-hzc.1,hlen];exact hq) (he.irep (qKD hzc himm (by rw[<-hzc.1,hlen];exact hq)))
def qD2 (out:List C) (sz:Nat) (i:Nat):List C:=(out.drop (i*sz)).take sz
theorem qM1 {out:List C} {sz n:Nat} (hl:out.length=n*sz) {m q:Nat} (hm:m<n) (hq:q<sz):(qD2 out sz m).length=sz/\(qD2 out sz m).getD q .unk=out.getD (m*sz+q) .unk:=by
 have h1:(m+1)*sz<=n*sz:=kS _ hm;rw[uo,dg] at h1;unfold qD2;refine⟨by simp;omega,?_⟩;simp only[ki,uh,hq,if_true,gk]
theorem qYN {K:Ctx} {st:St} {o:Oper} (t e:TypeId) (len:Nat) (parts:Array (Nat×Operand)) (id k:Nat) (i:TypeInfo) (cs:List C) (ps:List (Nat×V1)) (out:List C) (ho:o.op= .buildSlice t len parts)
  (hps:qGI K.globs st parts.toList=some ps) (ht:K.P.underlying t=some (.slice e)) (hi:K.P.info? e=some i)
  (hz:AP K.P e=some cs) (hcs:Nat.beq cs.length i.size=true) (hpos:Nat.blt 0 i.size=true) (hsmall:Nat.ble (len*i.size) 16777216=true)
  (hfill:qEk (λj=>some (j*i.size,i.size)) ((List.range (len*i.size)).map λj=>cs.getD (j % i.size) .unk) ps=some out) (himm:out.all C.isImm=true) (holen:Nat.beq out.length (len*i.size)=true) (f':Nat->List C) (hf':∀m,m<len->f' m=qD2 out i.size m):
  Step K st o [(id,k)] [(id,(k,.row e i.size len f'))] (.v (.one (.own id k i.size len))):=by
 refine XC (by rw[ho];rfl) ?_;intro M a w h _;obtain⟨zz,hzz⟩:∃zz,i.zero=some zz:=by
  unfold AP at hz;rw[hi] at hz;simp only at hz;split at hz
  ·rename_i x hx;exact⟨x,hx⟩
  ·cases hz
 have hzrun:(zeroValue e).run K.P w= .ok zz w:=by simp[zeroValue,typeInfo,hi,hzz]
 have hzc:yQ w M cs zz.cells:=by
  obtain⟨z',hr,hcr⟩:=qA9 hz w M;rw[hzrun] at hr;cases hr;exact hcr
 have hlen:zz.cells.size=i.size:=by rw[hzc.1];exact ku hcs
 have hpos':0<i.size:=by simpa[uf] using hpos
 have hbase:yQ w M ((List.range (len*i.size)).map λj=>cs.getD (j % i.size) .unk) (madeCells zz.cells (len*i.size)):=by
  refine⟨by simp[madeCells],λj hj=>?_⟩;have hj':j<len*i.size:=by simpa using hj
  rw[qOM _ _ _ hj' (by omega),hlen];have hm:j % i.size<cs.length:=by rw[<-hzc.1,hlen];exact kT _ hpos'
  have:=hzc.2 (j % i.size) hm;simpa[ki,kI,hj'] using this
 obtain⟨arr,hfr,hout⟩:=qFj ps (parts.toList.map λp:Nat×Operand=>(p.1,a.eval p.2)) _ _ out hbase (qIl h hps) hfill;have hsm:=kW hsmall;have hol:=ku holen;have he:=Ext.alloc h id k (.row e i.size len f') (.cells arr e);unfold Oper.wp;have hex:(execOp a.eval o).run K.P w= .ok (.value (.slice (some ⟨w.heap.size,0,none⟩) len len)) (w.alloc (.cells arr e)):=by
  unfold execOp;rw[ho];have hparts:(parts.map fun(i,x)=>(i,a.eval x)).toList=parts.toList.map λp:Nat×Operand=>(p.1,a.eval p.2):=by simp
  by_cases hz0:len*i.size=0
  ·have hm0:madeCells zz.cells (len*i.size)= #[]:=by rw[hz0];simp[madeCells]
   rw[hm0] at hfr;simp only[Instr.buildSlice,Sem.run_bind,run_underlying ht,Result.andThen_ok,wK hi,hz0,gt,if_false,if_true,Sem.run_pure,hparts,Array.range_zero',Array.map_empty,hfr,newRow,run_newObj,gt_iff_lt];rfl
  ·have hng:¬(len*i.size>2^24):=by omega
   simp only[Instr.buildSlice,Sem.run_bind,run_underlying ht,Result.andThen_ok,wK hi,hng,hz0,if_false,Sem.run_pure,hzrun,hparts];have:(Array.map (λx=>zz.cells[x % zz.cells.size]!) (Array.range (len*i.size)))=madeCells zz.cells (len*i.size):=rfl;rw[this,hfr];simp only[newRow,Sem.run_bind,run_newObj,Result.andThen_ok,Sem.run_pure];rfl
 rw[hex];have hmx:len<=maxLen:=by
  have:len*1<=len*i.size:=dz _ hpos';unfold maxLen;omega
 have hasz:arr.size=len*i.size:=by rw[hout.1,hol]
 refine⟨_,_,rfl,he,.inr ⟨w.heap.size,len,rfl,kq _,hmx,λ_=>⟨by simp[Mem.put],_,e,heap_alloc_new w _,hasz⟩⟩,λi' l' p hl'=>?_,MX⟩;obtain⟨rfl,rfl,rfl⟩:=WU hl';refine⟨by simp[Mem.put],.inr ⟨w.heap.size,_,by simp[Mem.put],heap_alloc_new w _,by omega,λm hm=>?_⟩⟩;rw[hf' m hm];refine⟨(qM1 hol hm hpos').1,λq hq=>?_⟩;rw[(qM1 hol hm hq).2];exact he.irep (qKD hout himm (by rw[hol];exact GO hm hq))
def qKh (st:St):V1->Option (Nat×(Nat->List C)×Prop)
 | .one (.lst n f)=>some (n,f,True)
 | .one .emp=>some (0,λ_=>[],True)
 | .one (.own id k sz len)=>match look id st.objs with|some (k',.row _ sz' n f)=>bif Nat.beq k k'&&Nat.beq sz sz' then some (len,f,len<=n) else none|_=>none
 | .one (.sub id k sz off len)=>match look id st.objs with|some (k',.row _ sz' n f)=>bif Nat.beq k k'&&Nat.beq sz sz' then some (len,λj=>f (off+j),off+len<=n) else none|_=>none
 |_=>none
def qWs (w:World) (M:Mem) (sz m:Nat) (g:Nat->List C) (v:Value):Prop:=
 (m=0/\∃a,v= .slice a 0 0)\/∃(b o c:Nat) (vs:List Value),v= .slice (some ⟨b,o,none⟩) m c/\vs.length=m*sz/\(∀j u,vs[j]? =some u->w.cell? ⟨b,o+j,none⟩=some u)/\
  ∀i j,i<m->j<sz->IRep w M.imm ((g i).getD j .unk) (vs.getD (i*sz+j) undef)
theorem qMD {i j sz:Nat} (hj:j<sz):(i*sz+j)/sz=i/\(i*sz+j) % sz=j:=by
 refine⟨?_,qJZ i sz j hj⟩;rw[dn,Nat.add_mul_div_right _ _ (by omega),Nat.div_eq_of_lt hj,kz]
theorem qPm {K:Ctx} {M:Mem} {st:St} {a:Act} {w:World} (h:Sim K M st a w) {x:V1} {v:Value} (hv:zC w M x v) {m sz:Nat} {g:Nat->List C} {ob:Prop} (hs:qKh st x=some (m,g,ob)) (hob:ob)
  (hsz:∀i,i<m->(g i).length=sz) (hpos:0<sz):qWs w M sz m g v:=by
 have build:∀(b o c:Nat) (G:Nat->Nat->Value),(∀i j,i<m->j<sz->w.cell? ⟨b,o+(i*sz+j),none⟩=some (G i j))->(∀i j,i<m->j<sz->IRep w M.imm ((g i).getD j .unk) (G i j))->qWs w M sz m g (.slice (some ⟨b,o,none⟩) m c):=by
  intro b o c G hc hr;refine .inr ⟨b,o,c,(List.range (m*sz)).map λq=>G (q/sz) (q % sz),rfl,by simp,λj u hu=>?_,λi j hi hj=>?_⟩
  ·rw[kI] at hu;cases hq:(List.range (m*sz))[j]? with
   |none=>rw[hq] at hu;cases hu
   |some q=>
    rw[hq] at hu;cases hu;have hjlt:j<m*sz:=by simpa using(gf.1 hq).1
    have hqj:q=j:=by rw[gY hjlt] at hq;cases hq;rfl
    subst hqj;have h1:q/sz<m:=dQ (by rw[dj];exact hjlt);have:=hc (q/sz) (q % sz) h1 (kT _ hpos);rw[show q/sz*sz+q % sz=q by rw[dj];exact Nat.div_add_mod q sz] at this;exact this
  ·have hlt:=GO hi hj;have:=hr i j hi hj;simp only[ki,kI,gY hlt,kZ,kJ,(qMD (i:=i) hj).1,(qMD (i:=i) hj).2] at this⊢;exact this
 unfold qKh at hs;split at hs
 ·rename_i n f;cases hs;cases hv with
  |lst0 a f=>exact .inl ⟨rfl,a,rfl⟩
  |lst b o n cap sz' f G hn hm hl hb hc hr=>
   by_cases hm0:m=0
   ·subst hm0;exact build b o cap G (λi j hi=>by omega) (λi j hi=>by omega)
   ·have hss:sz'=sz:=by rw[<-hl 0 (by omega),hsz 0 (by omega)]
    subst hss;exact build b o cap G hc hr
 ·cases hs;cases hv with
  |emp a=>exact .inl ⟨rfl,a,rfl⟩
 ·rename_i id k sz0 len;split at hs
  ·rename_i k' e sz' n f hl;cases hk:Nat.beq k k'&&Nat.beq sz0 sz' with
   |false=>rw[hk] at hs;cases hs
   |true=>
    rw[hk] at hs;cases hs;simp only[kv] at hk;have hkk:=ku hk.1;have hss:=ku hk.2;subst hkk hss;obtain⟨hver,hrow⟩:=h.objs id k _ hl;rcases hv with⟨h0,a,rfl⟩|⟨b,cap,rfl,h1,h2,hx⟩
    ·subst h0;exact .inl ⟨rfl,a,rfl⟩
    ·obtain⟨hb,arr,e',hh,hsize⟩:=hx hver;by_cases hm0:m=0
     ·subst hm0;exact build b 0 cap (λ_ _=>undef) (λi j hi=>by omega) (λi j hi=>by omega)
     ·rcases hrow with⟨hnone,_⟩|⟨b',arr',hb',hh',hns,hcr⟩
      ·rw[hb] at hnone;cases hnone
      ·have hbb:b'=b:=kQ (hb'.symm.trans hb);subst hbb;rw[hh] at hh';cases hh';have hss:sz0=sz:=by rw[<-(hcr 0 (by omega)).1,hsz 0 (by omega)]
       subst hss;exact build b' 0 cap (λi j=>arr.getD (i*sz0+j) undef) (λi j hi hj=>by rw[kz];exact cell_of_row' hh (by have:=GO (n:=n) (show i<n by omega) hj;omega)) λi j hi hj=>(hcr i (by omega)).2 j hj
  ·cases hs
 ·rename_i id k sz0 off len;split at hs
  ·rename_i k' e sz' n f hl;cases hk:Nat.beq k k'&&Nat.beq sz0 sz' with
   |false=>rw[hk] at hs;cases hs
   |true=>
    rw[hk] at hs;cases hs;simp only[kv] at hk;have hkk:=ku hk.1;have hss:=ku hk.2;subst hkk hss;obtain⟨hver,hrow⟩:=h.objs id k _ hl;rcases hv with⟨h0,a,rfl⟩|⟨b,cap,rfl,h1,h2,hx⟩
    ·subst h0;exact .inl ⟨rfl,a,rfl⟩
    ·obtain⟨hb,arr,e',hh,hsize⟩:=hx hver;by_cases hm0:m=0
     ·subst hm0;exact build b (off*sz0) cap (λ_ _=>undef) (λi j hi=>by omega) (λi j hi=>by omega)
     ·rcases hrow with⟨hnone,_⟩|⟨b',arr',hb',hh',hns,hcr⟩
      ·rw[hb] at hnone;cases hnone
      ·have hbb:b'=b:=kQ (hb'.symm.trans hb);subst hbb;rw[hh] at hh';cases hh';have hss:sz0=sz:=by rw[<-(hcr (off+0) (by omega)).1,hsz 0 (by omega)]
       subst hss;exact build b' (off*sz0) cap (λi j=>arr.getD ((off+i)*sz0+j) undef) (λi j hi hj=>by rw[show off*sz0+(i*sz0+j)=(off+i)*sz0+j by rw[uo];omega];exact cell_of_row' hh (by have:=GO (n:=n) (show off+i<n by omega) hj;omega)) λi j hi hj=>(hcr (off+i) (by omega)).2 j hj
  ·cases hs
 ·cases hs
def qKk :Op->Option (Operand×Operand×TypeId)
 | .call {callee:= .builtin .append,args,argTypes}=>match args.toList,argTypes.toList with|[s,x],[t,t']=>bif Nat.beq t t' then some (s,x,t) else none|_,_=>none
 |_=>none
theorem qR7 {op:Op} {r:Operand×Operand×TypeId} (h:qKk op=some r):qCo op=true:=by
 cases op<;>first|rfl|cases h
theorem qSM {op:Op} {s x:Operand} {t:TypeId} (h:qKk op=some (s,x,t)):op= .call {callee:= .builtin .append,args:= #[s,x],argTypes:= #[t,t]}:=by
 unfold qKk at h;split at h
 ·rename_i args ats;split at h
  ·rename_i s' x' t' t'' ha hat;cases hb:Nat.beq t' t'' with
   |false=>rw[hb] at h;cases h
   |true=>
    rw[hb] at h;cases h;have:=ku hb;subst this;obtain⟨args⟩:=args;obtain⟨ats⟩:=ats;simp only at ha hat;subst ha hat;rfl
  ·cases h
 ·cases h
theorem RC {P:Program} {w:World} {t ty e:TypeId} {i:TypeInfo} (ht:P.underlying t=some (.slice e)) (hi:P.info? e=some i) (base src:Option Addr) (n cap:Nat) (c:Nat) (hn:n<=cap):
  (Builtin.append_ #[t,t] ty #[.slice base n cap,.slice src 0 c]).run P w= .ok (.slice base n cap) w:=by
 cases base<;>cases src<;>simp[Builtin.append_,run_underlying ht,sizeOf,typeInfo,hi,Builtin.lenOf,Builtin.firstCells,loadCells,loadCellsFrom,hn,storeCells]
theorem qAU {l r:List Value} {j:Nat} (h:j<l.length):(l++r).getD j undef=l.getD j undef:=by
 simp only[ki,kL h]
theorem qKp {l r:List Value} {j:Nat} (h:l.length<=j):(l++r).getD j undef=r.getD (j-l.length) undef:=by
 simp only[ki,kH h]
theorem qTd {K:Ctx} {st:St} {o:Oper} (s x:Operand) (t e:TypeId) (id k k' len n m:Nat) (i:TypeInfo) (z:Value) (f g f':Nat->List C) (xv:V1) (ob:Prop) (ho:qKk o.op=some (s,x,t))
  (hs:op1 K.globs st s=some (.one (.own id k i.size len))) (hl:look id st.objs=some (k,.row e i.size n f)) (ht:K.P.underlying t=some (.slice e)) (hi:K.P.info? e=some i) (hz:i.zero=some z) (hzs:Nat.beq z.cells.size i.size=true)
  (hpos:Nat.blt 0 i.size=true) (hby:Nat.blt 0 i.bytes=true) (hx:op1 K.globs st x=some xv) (hsrc:qKh st xv=some (m,g,ob)) (hob:ob) (hgl:∀j,j<m->(g j).length=i.size) (hln:len<=n)
  (hroom:(len+m)*i.bytes<=140737488355328) (hf':∀j,j<len+m->f' j=if j<len then f j else g (j-len)):
  Step K st o [(id,k')] [(id,(k',.row e i.size (len+m) f'))] (.v (.one (.own id k' i.size (len+m)))):=by
 refine XC (qR7 ho) ?_;intro M a w h _;have hpos':0<i.size:=by simpa[uf] using hpos
 have hby':0<i.bytes:=by simpa[uf] using hby
 have hzs':=ku hzs;have hsv:=op1_rep h hs;have hxv:=qPm h (op1_rep h hx) hsrc hob hgl hpos';obtain⟨hver,hrow⟩:=h.objs id k _ hl;have hsmall:len+m<=140737488355328:=by
  have:(len+m)*1<=(len+m)*i.bytes:=dz _ hby';omega
 have hml:len+m<=maxLen:=by unfold maxLen;omega
 have hf'l:∀j,j<len->f' j=f j:=λj hj=>by rw[hf' j (by omega),if_pos hj]
 have hf'r:∀j,j<m->f' (len+j)=g j:=λj hj=>by rw[hf' (len+j) (by omega),if_neg (by omega)];congr 1;omega
 have hexec:∀{v w'},(Builtin.append_ #[t,t] o.type #[a.eval s,a.eval x]).run K.P w= .ok v w'->(execOp a.eval o).run K.P w= .ok (.value v) w':=fun{v w'} hr=>by
  unfold execOp;rw[qSM ho];simp only[resolve,invoke,builtin,Sem.run_bind,Sem.run_pure,Result.andThen_ok,List.map_toArray,ut,dI,hr]
 unfold Oper.wp
 -- nothing is appended: the slice stays
 have stays:m=0->(Builtin.append_ #[t,t] o.type #[a.eval s,a.eval x]).run K.P w= .ok (a.eval s) w->o.upon K.P a (λa' w'=>∃v M',a'=a.put o.dst v/\Ext (drOf K.globs) M w M' w' (hits [(id,(k',.row e i.size (len+m) f'))]) (zV [(id,k')])/\VRep w' M' (.v (.one (.own id k' i.size (len+m)))) v/\
   (∀i_1 k_1 o_1,look i_1 [(id,(k',O.row e i.size (len+m) f'))]=some (k_1,o_1)->ORep w' M' i_1 k_1 o_1)/\(∀i_1,M'.ver i_1≠none->M.ver i_1≠none\/hits [(id,(k',.row e i.size (len+m) f'))] i_1)) (λ_ _ _=>False) ((execOp a.eval o).run K.P w):=by
  intro hm0 hr;subst hm0;rw[hexec hr];have he:Ext (drOf K.globs) M w (M.put id k' (M.blk id)) w (hits [(id,(k',.row e i.size (len+0) f'))]) (zV [(id,k')]):=
   Ext.put h (λb' hb=>⟨(h.rng id k b' hver hb).2,.inr ⟨k,hver,hb⟩⟩) (λ_ _ _=>rfl) (λc arr e hc=>⟨arr,hc,rfl⟩) (kq _) rfl rfl rfl
  refine⟨_,_,rfl,he,?_,λi' l' p hl'=>?_,MX⟩
  ·rcases hsv with h0|⟨b,cap,hv,h1,h2,hx'⟩
   ·exact .inl h0
   ·obtain⟨hb,arr,e',hh,hsize⟩:=hx' hver;exact .inr ⟨b,cap,hv,h1,h2,λ_=>⟨by simp[Mem.put,hb],arr,e',hh,hsize⟩⟩
  ·obtain⟨rfl,rfl,rfl⟩:=WU hl';refine⟨by simp[Mem.put],?_⟩;rcases hrow with⟨hnone,h0⟩|⟨b,arr,hb,hh,hns,hcr⟩
   ·exact .inl ⟨by simp[Mem.put,hnone],by omega⟩
   ·refine .inr ⟨b,arr,by simp[Mem.put,hb],hh,uz (kS _ (by omega)) hns,λj hj=>?_⟩;rw[hf'l j (by omega)];exact⟨(hcr j (by omega)).1,λq hq=>he.irep ((hcr j (by omega)).2 q hq)⟩
 -- a new array
 have grows:∀(olds news:List Value) (cap:Nat) (w':World),olds.length=len*i.size->news.length=m*i.size->(∀p j,p<len->j<i.size->IRep w M.imm ((f p).getD j .unk) (olds.getD (p*i.size+j) undef))->(∀p,p<len->(f p).length=i.size)->
   (∀p j,p<m->j<i.size->IRep w M.imm ((g p).getD j .unk) (news.getD (p*i.size+j) undef))->len+m<=cap->cap<=maxLen->
   w'=w.drew.alloc (.cells (olds.toArray++news.toArray++Builtin.zeroCells z.cells (cap-(len+m))) e)->
   (Builtin.append_ #[t,t] o.type #[a.eval s,a.eval x]).run K.P w= .ok (.slice (some ⟨w.heap.size,0,none⟩) (len+m) cap) w'->o.upon K.P a (λa' w'=>∃v M',a'=a.put o.dst v/\Ext (drOf K.globs) M w M' w' (hits [(id,(k',.row e i.size (len+m) f'))]) (zV [(id,k')])/\VRep w' M' (.v (.one (.own id k' i.size (len+m)))) v/\
   (∀i_1 k_1 o_1,look i_1 [(id,(k',O.row e i.size (len+m) f'))]=some (k_1,o_1)->ORep w' M' i_1 k_1 o_1)/\(∀i_1,M'.ver i_1≠none->M.ver i_1≠none\/hits [(id,(k',.row e i.size (len+m) f'))] i_1)) (λ_ _ _=>False) ((execOp a.eval o).run K.P w):=by
  intro olds news cap w' hol hnl ho1 ho2 hn1 hcap hcm hw' hr;rw[hexec hr];have hsz:w'.heap.size=w.heap.size+1:=by rw[hw'];simp
  have hold:∀c,c<w.heap.size->w'.heap[c]? =w.heap[c]? :=λc hc=>by rw[hw',heap_alloc_old _ _ c (by simpa using hc)];rfl
  have he:Ext (drOf K.globs) M w (M.put id k' (some w.heap.size)) w' (hits [(id,(k',.row e i.size (len+m) f'))]) (zV [(id,k')]):=
   Ext.put h (λb' hb=>by cases hb;exact⟨by omega,.inl (kq _)⟩) (λc hc _=>hold c hc) (λc arr e hc=>⟨arr,by rw[hold c (ui.1 hc).1];exact hc,rfl⟩) (by omega) (by rw[hw'];rfl) (by rw[hw'];rfl) (by rw[hw'];rfl) (by rw[hw'];exact Nat.le_succ _)
  have hnew:w'.heap[w.heap.size]? =some (.cells (olds.toArray++news.toArray++Builtin.zeroCells z.cells (cap-(len+m))) e (0,0)):=by rw[hw'];exact heap_alloc_new w.drew _
  have hasz:(olds.toArray++news.toArray++Builtin.zeroCells z.cells (cap-(len+m))).size=cap*i.size:=by
   simp only[Array.size_append,List.size_toArray,size_zeroCells,hzs',hol,hnl,<-uo]
   congr 1
   omega
  refine⟨_,_,rfl,he,.inr ⟨w.heap.size,cap,rfl,hcap,hcm,λ_=>⟨by simp[Mem.put],_,e,hnew,hasz⟩⟩,λi' l' p hl'=>?_,MX⟩;obtain⟨rfl,rfl,rfl⟩:=WU hl';refine⟨by simp[Mem.put],.inr ⟨w.heap.size,_,by simp[Mem.put],hnew,by rw[hasz];exact kS _ hcap,λp hp=>?_⟩⟩;have hget:∀q,q<i.size->(olds.toArray++news.toArray++Builtin.zeroCells z.cells (cap-(len+m))).getD (p*i.size+q) undef=(olds++news).getD (p*i.size+q) undef:=λq hq=>by
   have:=GO hp hq;rw[uo] at this;rw[FO];simp only[Array.toList_append,kR];rw[<-kR,qAU (by simp;omega)]
  by_cases hpl:p<len
  ·rw[hf'l p hpl];refine⟨ho2 p hpl,λq hq=>?_⟩;have:=GO hpl hq;rw[hget q hq,qAU (by omega)];exact he.irep (ho1 p q hpl hq)
  ·obtain⟨p',rfl⟩:∃p',p=len+p':=⟨p-len,by omega⟩
   rw[hf'r p' (by omega)];refine⟨hgl p' (by omega),λq hq=>?_⟩;rw[hget q hq,uo,qKp (by omega),hol,show len*i.size+p'*i.size+q-len*i.size=p'*i.size+q by omega];exact he.irep (hn1 p' q (by omega) hq)
 rcases hxv with⟨hm0,ax,hax⟩|⟨b2,o2,c2,vs,hxe,hvl,hvc,hvr⟩
 ·subst hm0;refine stays rfl ?_;rw[hax];rcases hsv with⟨h0,as,has⟩|⟨b,cap,hv,h1,h2,hx'⟩
  ·rw[has];exact RC ht hi _ _ _ _ _ (kq _)
  ·rw[hv];exact RC ht hi _ _ _ _ _ h1
 ·by_cases hm0:m=0
  ·refine stays hm0 ?_;subst hm0;rw[hxe];rcases hsv with⟨h0,as,has⟩|⟨b,cap,hv,h1,h2,hx'⟩
   ·rw[has];exact RC ht hi _ _ _ _ _ (kq _)
   ·rw[hv];exact RC ht hi _ _ _ _ _ h1
  ·rcases hsv with⟨h0,as,has⟩|⟨b,cap,hv,h1,h2,hx'⟩
   ·subst h0;have hr:(Builtin.append_ #[t,t] o.type #[a.eval s,a.eval x]).run K.P w= .ok (.slice (some ⟨w.heap.size,0,none⟩) (0+m) (grownCap w (0+m) 0 e)) (w.drew.alloc (.cells (([]:List Value).toArray++vs.toArray++Builtin.zeroCells z.cells (grownCap w (0+m) 0 e-(0+m))) e)):=by
     rw[has,hxe];cases as with
     |none=>
      have:=run_append_nil (P:=K.P) w t o.type e i z ht hi hz ⟨b2,o2,none⟩ m c2 vs hvl (λj u hu=>by rw[Addr.add_lit];exact hvc j u hu) (by omega) (by omega) (by simp only[kz] at hroom;omega);simpa using this
     |some ad=>
      have:=run_append_grow (P:=K.P) w t o.type e i z ht hi hz ad 0 0 [] (by simp) (λj v hj=>by cases hj) ⟨b2,o2,none⟩ m c2 vs hvl (λj u hu=>by rw[Addr.add_lit];exact hvc j u hu) (by omega) (by omega) (growslice_fits (by omega) hroom);exact this
    exact grows [] vs _ _ (by simp) hvl (λp j hp=>by omega) (λp hp=>by omega) hvr (grownCap_ge w _ _ _) (grownCap_le_maxLen w _ _ _ hml) rfl hr
   ·obtain⟨hb,arr,e',hh,hsize⟩:=hx' hver;have hee:e'=e:=by
     rcases hrow with⟨hnone,_⟩|⟨b',arr',hb',hh',_⟩
     ·rw[hb] at hnone;cases hnone
     ·have hbb:b'=b:=kQ (hb'.symm.trans hb);subst hbb;rw[hh] at hh';cases hh';rfl
    subst hee;have hcr:∀p,p<len->(f p).length=i.size/\∀j,j<i.size->IRep w M.imm ((f p).getD j .unk) (arr.getD (p*i.size+j) undef):=by
     intro p hp;rcases hrow with⟨hnone,_⟩|⟨b',arr',hb',hh',_,hcr⟩
     ·rw[hb] at hnone;cases hnone
     ·have hbb:b'=b:=kQ (hb'.symm.trans hb);subst hbb;rw[hh] at hh';cases hh';exact hcr p (by omega)
    have hlc:len*i.size<=arr.size:=by rw[hsize];exact kS _ h1
    by_cases hr1:len+m<=cap
    ·have hfit:len*i.size+vs.length<=arr.size:=by rw[hvl,hsize,<-uo];exact kS _ hr1
     have h1c:∀u∈vs,u.oneCell'=true:=by
      intro u hu;obtain⟨q,hq,rfl⟩:=uV.1 hu;have hq':q<m*i.size:=by omega
      have hd:q/i.size<m:=dQ (by rw[dj];exact hq');have:=(hvr (q/i.size) (q % i.size) hd (kT _ hpos')).cell;rw[show q/i.size*i.size+q % i.size=q by rw[dj];exact Nat.div_add_mod q i.size] at this;simpa[ki,ks hq] using this
     have hr:=run_append_room (P:=K.P) w t o.type e' i ht hi b len cap arr hh ⟨b2,o2,none⟩ m c2 vs hvl (λj u hu=>by rw[Addr.add_lit];exact hvc j u hu) h1c hr1 hfit;rw[<-hv,<-hxe] at hr;rw[hexec hr];have hs':(arr.toList.take (len*i.size)++vs++arr.toList.drop (len*i.size+vs.length)).toArray.size=arr.size:=by simp;omega
     have hblt:b<w.heap.size:=(h.rng id k b hver hb).2;have hnew:(w.setRow b (arr.toList.take (len*i.size)++vs++arr.toList.drop (len*i.size+vs.length)).toArray).heap[b]? =some (.cells (arr.toList.take (len*i.size)++vs++arr.toList.drop (len*i.size+vs.length)).toArray e' (0,0)):=setRow_heap w b arr _ e' (0,0) hh;have hcell:∀q,(arr.toList.take (len*i.size)++vs++arr.toList.drop (len*i.size+vs.length)).toArray.getD q undef=if len*i.size<=q/\q<len*i.size+vs.length then vs.getD (q-len*i.size) undef else arr.getD q undef:=λq=>by
      rw[FO,IT _ _ _ _ _ (by simpa using hfit),<-FO (arr:=arr)]
     have he:Ext (drOf K.globs) M w (M.put id k' (some b)) (w.setRow b (arr.toList.take (len*i.size)++vs++arr.toList.drop (len*i.size+vs.length)).toArray) (hits [(id,(k',.row e' i.size (len+m) f'))]) (zV [(id,k')]):=
      Ext.put h (λb' hb'=>by cases hb';exact⟨by rw[size_setRow];exact hblt,.inr ⟨k,hver,hb⟩⟩) (λc hc hw=>setRow_other w b c _ λhcb=>hw k hver (by rw[hb,hcb]))
       (λc arr0 e0 hc=>by
        by_cases hcb:c=b
        ·subst hcb;rw[hh] at hc;cases hc;exact⟨_,hnew,hs'⟩
        ·exact⟨arr0,by rw[setRow_other w b c _ hcb];exact hc,rfl⟩) (by rw[size_setRow];exact kq _) rfl rfl rfl
     generalize (arr.toList.take (len*i.size)++vs++arr.toList.drop (len*i.size+vs.length)).toArray=arr2 at he hnew hcell hs';refine⟨_,_,rfl,he,.inr ⟨b,cap,rfl,hr1,h2,λ_=>⟨by simp[Mem.put],arr2,e',hnew,by omega⟩⟩,λi' l' p hl'=>?_,MX⟩;obtain⟨rfl,rfl,rfl⟩:=WU hl';refine⟨by simp[Mem.put],.inr ⟨b,arr2,by simp[Mem.put],hnew,by rw[hs',hsize];exact kS _ hr1,λp hp=>?_⟩⟩;by_cases hpl:p<len
     ·rw[hf'l p hpl];refine⟨(hcr p hpl).1,λq hq=>?_⟩;have:=GO hpl hq;rw[hcell,if_neg (by omega)];exact he.irep ((hcr p hpl).2 q hq)
     ·obtain⟨p',rfl⟩:∃p',p=len+p':=⟨p-len,by omega⟩
      rw[hf'r p' (by omega)];refine⟨hgl p' (by omega),λq hq=>?_⟩;have:=GO (show p'<m by omega) hq;rw[hcell,uo,if_pos (by omega),show len*i.size+p'*i.size+q-len*i.size=p'*i.size+q by omega];exact he.irep (hvr p' q (by omega) hq)
    ·have hr:=run_append_grow (P:=K.P) w t o.type e' i z ht hi hz ⟨b,0,none⟩ len cap (arr.toList.take (len*i.size)) (by simp;omega) (λj u hu=>by
       rw[Addr.add_lit,kz,cell_of_row w b j arr e' (0,0) hh];rw[uh] at hu;split at hu
       ·simpa using hu
       ·cases hu) ⟨b2,o2,none⟩ m c2 vs hvl (λj u hu=>by rw[Addr.add_lit];exact hvc j u hu) (by omega) (by omega) (growslice_fits (by omega) hroom)
     rw[<-hv,<-hxe] at hr;refine grows (arr.toList.take (len*i.size)) vs _ _ (by simp;omega) hvl (λp j hp hj=>?_) (λp hp=>(hcr p hp).1) hvr (grownCap_ge w _ _ _) (grownCap_le_maxLen w _ _ _ hml) rfl hr;have hlt:=GO hp hj;have:=(hcr p hp).2 j hj;rw[FO] at this;simp only[ki,uh,hlt,if_true] at this⊢;exact this
theorem qSg {K:Ctx} {st:St} {o:Oper} (s x:Operand) (t e:TypeId) (id k' m:Nat) (i:TypeInfo) (z:Value) (g:Nat->List C) (xv:V1) (ob:Prop) (ho:qKk o.op=some (s,x,t))
  (hs:op1 K.globs st s=some (.one .emp)) (ht:K.P.underlying t=some (.slice e)) (hi:K.P.info? e=some i) (hz:i.zero=some z) (hzs:Nat.beq z.cells.size i.size=true)
  (hpos:Nat.blt 0 i.size=true) (hby:Nat.blt 0 i.bytes=true) (hx:op1 K.globs st x=some xv) (hsrc:qKh st xv=some (m,g,ob)) (hob:ob) (hgl:∀j,j<m->(g j).length=i.size)
  (hroom:m*i.bytes<=140737488355328):
  Step K st o [(id,k')] [(id,(k',.row e i.size m g))] (.v (.one (.own id k' i.size m))):=by
 refine XC (qR7 ho) ?_;intro M a w h _;have hpos':0<i.size:=by simpa[uf] using hpos
 have hby':0<i.bytes:=by simpa[uf] using hby
 have hzs':=ku hzs;have hsv:IRep w M.imm .emp (a.eval s):=op1_rep h hs;obtain⟨as,has⟩:∃as,a.eval s= .slice as 0 0:=by
  generalize a.eval s=u at hsv;cases hsv;exact⟨_,rfl⟩
 have hxv:=qPm h (op1_rep h hx) hsrc hob hgl hpos';have hsmall:m<=140737488355328:=by
  have:m*1<=m*i.bytes:=dz _ hby';omega
 have hml:m<=maxLen:=by unfold maxLen;omega
 have hexec:∀{v w'},(Builtin.append_ #[t,t] o.type #[a.eval s,a.eval x]).run K.P w= .ok v w'->(execOp a.eval o).run K.P w= .ok (.value v) w':=fun{v w'} hr=>by
  unfold execOp;rw[qSM ho];simp only[resolve,invoke,builtin,Sem.run_bind,Sem.run_pure,Result.andThen_ok,List.map_toArray,ut,dI,hr]
 unfold Oper.wp;have stays:m=0->(Builtin.append_ #[t,t] o.type #[a.eval s,a.eval x]).run K.P w= .ok (.slice as 0 0) w->o.upon K.P a (λa' w'=>∃v M',a'=a.put o.dst v/\Ext (drOf K.globs) M w M' w' (hits [(id,(k',.row e i.size m g))]) (zV [(id,k')])/\VRep w' M' (.v (.one (.own id k' i.size m))) v/\
   (∀i_1 k_1 o_1,look i_1 [(id,(k',O.row e i.size m g))]=some (k_1,o_1)->ORep w' M' i_1 k_1 o_1)/\(∀i_1,M'.ver i_1≠none->M.ver i_1≠none\/hits [(id,(k',.row e i.size m g))] i_1)) (λ_ _ _=>False) ((execOp a.eval o).run K.P w):=by
  intro hm0 hr;subst hm0;rw[hexec hr];have he:Ext (drOf K.globs) M w (M.put id k' none) w (hits [(id,(k',.row e i.size 0 g))]) (zV [(id,k')]):=
   Ext.put h (λb' hb=>by cases hb) (λ_ _ _=>rfl) (λc arr e hc=>⟨arr,hc,rfl⟩) (kq _) rfl rfl rfl
  refine⟨_,_,rfl,he,.inl ⟨rfl,_,rfl⟩,λi' l' p hl'=>?_,MX⟩;obtain⟨rfl,rfl,rfl⟩:=WU hl';exact⟨by simp[Mem.put],.inl ⟨by simp[Mem.put],rfl⟩⟩
 rcases hxv with⟨hm0,ax,hax⟩|⟨b2,o2,c2,vs,hxe,hvl,hvc,hvr⟩
 ·refine stays hm0 ?_;rw[hax,has];exact RC ht hi _ _ _ _ _ (kq _)
 ·by_cases hm0:m=0
  ·refine stays hm0 ?_;rw[hxe,has,hm0];exact RC ht hi _ _ _ _ _ (kq _)
  ·have hr:(Builtin.append_ #[t,t] o.type #[a.eval s,a.eval x]).run K.P w= .ok (.slice (some ⟨w.heap.size,0,none⟩) m (grownCap w m 0 e)) (w.drew.alloc (.cells (vs.toArray++Builtin.zeroCells z.cells (grownCap w m 0 e-m)) e)):=by
    rw[has,hxe];cases as with
    |none=>exact run_append_nil (P:=K.P) w t o.type e i z ht hi hz ⟨b2,o2,none⟩ m c2 vs hvl (λj u hu=>by rw[Addr.add_lit];exact hvc j u hu) (by omega) (by omega) (by omega)
    |some ad=>
     have:=run_append_grow (P:=K.P) w t o.type e i z ht hi hz ad 0 0 [] (by simp) (λj v hj=>by cases hj) ⟨b2,o2,none⟩ m c2 vs hvl (λj u hu=>by rw[Addr.add_lit];exact hvc j u hu) (by omega) (by omega) (growslice_fits (by omega) (by simpa using hroom));simpa using this
   rw[hexec hr];have hold:∀c,c<w.heap.size->(w.drew.alloc (.cells (vs.toArray++Builtin.zeroCells z.cells (grownCap w m 0 e-m)) e)).heap[c]? =w.heap[c]? :=λc hc=>by rw[heap_alloc_old _ _ c (by simpa using hc)];rfl
   have he:Ext (drOf K.globs) M w (M.put id k' (some w.heap.size)) (w.drew.alloc (.cells (vs.toArray++Builtin.zeroCells z.cells (grownCap w m 0 e-m)) e)) (hits [(id,(k',.row e i.size m g))]) (zV [(id,k')]):=
    Ext.put h (λb' hb=>by cases hb;exact⟨by simp,.inl (kq _)⟩) (λc hc _=>hold c hc) (λc arr e hc=>⟨arr,by rw[hold c (ui.1 hc).1];exact hc,rfl⟩) (by simp) rfl rfl rfl (Nat.le_succ _)
   have hge:=grownCap_ge w m 0 e;have hasz:(vs.toArray++Builtin.zeroCells z.cells (grownCap w m 0 e-m)).size=grownCap w m 0 e*i.size:=by
    simp only[Array.size_append,List.size_toArray,size_zeroCells,hzs',hvl,<-uo]
    congr 1
    omega
   have hnew:(w.drew.alloc (.cells (vs.toArray++Builtin.zeroCells z.cells (grownCap w m 0 e-m)) e)).heap[w.heap.size]? =some (.cells (vs.toArray++Builtin.zeroCells z.cells (grownCap w m 0 e-m)) e (0,0)):=heap_alloc_new w.drew _;refine⟨_,_,rfl,he,.inr ⟨w.heap.size,_,rfl,hge,grownCap_le_maxLen w _ _ _ hml,λ_=>⟨by simp[Mem.put],_,e,hnew,hasz⟩⟩,λi' l' p hl'=>?_,MX⟩;obtain⟨rfl,rfl,rfl⟩:=WU hl';refine⟨by simp[Mem.put],.inr ⟨w.heap.size,_,by simp[Mem.put],hnew,by rw[hasz];exact kS _ hge,λp hp=>⟨hgl p hp,λq hq=>?_⟩⟩⟩;have:=GO hp hq;rw[FO];simp only[Array.toList_append];rw[qAU (by omega)]
   exact he.irep (hvr p q hp hq)
section
variable {w :World} {M:Mem} {D:Nat} {o':Obj}
theorem FZ (hnc:∀arr e z,w.heap[D]? ≠some (.cells arr e z)) {ok:Nat->Prop} {c:C} {v:Value} (h:IRep w ok c v):IRep (w.putObj D o') ok c v:=
 h.move2 (λb arr e z _ hb=>World.putObj_heap_other (show b≠D from λhe=>hnc arr e z (he▸hb))) (λ_ hb _=>hb)
theorem qPq (hnc:∀arr e z,w.heap[D]? ≠some (.cells arr e z)) {c:C} {v:Value} (h:jI w M c v):jI (w.putObj D o') M c v:=by
 cases c with
 |bptr id k j=>exact h
 |_=>exact FZ hnc h
theorem qIh (hnc:∀arr e z,w.heap[D]? ≠some (.cells arr e z)) {c:C} {v:Value} (h:CRep w M c v):CRep (w.putObj D o') M c v:=by
 have hc:∀(b:Nat) (arr:Array Value) (e:TypeId) z,w.heap[b]? =some (.cells arr e z)->(w.putObj D o').heap[b]? =some (.cells arr e z):=λb arr e z hb=>by
  rw[World.putObj_heap_other (show b≠D from λhe=>hnc arr e z (he▸hb))];exact hb
 cases c with
 |own id k sz len=>
  rcases h with h0|⟨b,cap,hv,h1,h2,hx⟩
  ·exact .inl h0
  ·exact .inr ⟨b,cap,hv,h1,h2,λhd=>let ⟨hb,arr,e,hh,h3⟩:=hx hd;⟨hb,arr,e,hc b arr e _ hh,h3⟩⟩
 |sub id k sz off len=>
  rcases h with h0|⟨b,cap,hv,h1,h2,hx⟩
  ·exact .inl h0
  ·exact .inr ⟨b,cap,hv,h1,h2,λhd=>let ⟨hb,arr,e,hh,h3⟩:=hx hd;⟨hb,arr,e,hc b arr e _ hh,h3⟩⟩
 |bptr id k j=>exact h
 |rptr id k sz i j=>exact h
 |fn g caps=>obtain⟨vs,h1,h2,h3⟩:=h;exact⟨vs,h1,h2,λj hj=>qPq hnc (h3 j hj)⟩
 |yl R b ts caps=>exact⟨h.1,λj hj=>qPq hnc (h.2 j hj)⟩
 |unk=>exact h
 |val v=>exact FZ hnc h
 |emp=>exact FZ hnc h
 |lst n f=>exact FZ hnc h
 |lptr cs=>exact FZ hnc h
 |aptr n sz f=>exact FZ hnc h
theorem qKK (hnc:∀arr e z,w.heap[D]? ≠some (.cells arr e z)) {x:V1} {v:Value} (h:zC w M x v):zC (w.putObj D o') M x v:=by
 cases x with
 |one c=>exact qIh hnc h
 |agg cs=>obtain⟨vs,hv,h1,h2⟩:=h;exact⟨vs,hv,h1,λj hj=>qIh hnc (h2 j hj)⟩
theorem qUT (hnc:∀arr e z,w.heap[D]? ≠some (.cells arr e z)) {x:V} {v:Value} (h:VRep w M x v):VRep (w.putObj D o') M x v:=by
 cases x with
 |any=>trivial
 |undef=>exact h
 |v x=>exact qKK hnc h
 |tup xs=>obtain⟨vs,hv,h1,h2⟩:=h;exact⟨vs,hv,h1,λj hj=>qKK hnc (h2 j hj)⟩
theorem qUX (hnc:∀arr e z,w.heap[D]? ≠some (.cells arr e z)) {id k:Nat} {o:O} (hne:M.blk id≠some D) (h:ORep w M id k o):ORep (w.putObj D o') M id k o:=by
 have hc:∀(b:Nat),M.blk id=some b->(w.putObj D o').heap[b]? =w.heap[b]? :=λb hb=>World.putObj_heap_other (show b≠D from λhe=>hne (he▸hb));cases o with
 |box e cs=>obtain⟨h1,b,arr,h2,h3,h4⟩:=h;exact⟨h1,b,arr,h2,by rw[hc b h2];exact h3,h4.1,λj hj=>qIh hnc (h4.2 j hj)⟩
 |row e sz n f=>
  refine⟨h.1,?_⟩;rcases h.2 with h0|⟨b,arr,h2,h3,h4,h5⟩
  ·exact .inl h0
  ·exact .inr ⟨b,arr,h2,by rw[hc b h2];exact h3,h4,λi hi=>⟨(h5 i hi).1,λj hj=>FZ hnc ((h5 i hi).2 j hj)⟩⟩
 |lp R b s j=>exact⟨h.1,h.2.1,by rw[hc b h.2.1];exact h.2.2⟩
theorem qVN {n:Nat} {d:Deferred} (hd:d≠{target:= .collected D,args:= #[]}) (h:qJp w M n d):qJp (w.putObj D o') M n d:=by
 obtain⟨E,rfl,h1,h2,h3⟩:=h;refine⟨E,rfl,h1,?_,h3⟩;rw[World.putObj_heap_other (show E≠D from λhe=>hd (he▸rfl))];exact h2
end
theorem Sim1.other {K:Ctx} {M:Mem} {st:St} {a a':Act} {w:World} {D:Nat} {o':Obj} (h:Sim1 K M st a w) (hnc:∀arr e z,w.heap[D]? ≠some (.cells arr e z)) (hno:¬M.owns D) (hK:K.w0.heap.size<=D)
  (ht:a'.tmps=a.tmps) (hd:qEo K.globs (w.putObj D o') M K.w0.heap.size a'.defers):Sim1 K M st a' (w.putObj D o'):=by
 obtain⟨h,h2⟩:=h;refine⟨⟨h.inj,λi k b hv hb=>⟨(h.rng i k b hv hb).1,by rw[World.putObj_size];exact(h.rng i k b hv hb).2⟩,h.fix,⟨h.below.os,h.below.tape,h.below.output,by rw[World.putObj_size];exact h.below.size,λb hb hB=>?_,h.below.drawn⟩,λb arr e hb=>?_,h.area,by rw[ht];exact h.size,hd,λs x hx=>by rw[ht];exact qUT hnc (h.slots s x hx),λi k o ho=>qUX hnc (λhb=>hno ⟨i,k,(h.objs i k o ho).ver,hb⟩) (h.objs i k o ho)⟩,h2⟩
 ·rw[World.putObj_heap_other (by omega)];exact h.below.block b hb hB
 ·obtain⟨arr',ha,hs⟩:=h.shape b arr e hb;exact⟨arr',by rw[World.putObj_heap_other (λhe=>hnc arr' e _ (he▸ha))];exact ha,hs⟩
theorem qGG {K:Ctx} {M:Mem} {st:St} {fn:Func} {tmps:Array Value} {R:Ending->World->Prop} (key:∀w,Sim1 K M st ⟨tmps,[]⟩ w->∃v,(results fn tmps).run K.P w= .ok v w/\R (.returned v) w):
  ∀(ds:List Deferred) (w:World),Sim1 K M st ⟨tmps,ds⟩ w->LeavesInM Fence.wide 0 K.P fn tmps R ds .returning w
 |[],w,h=>key w h
 |d::ds,w,h=>by
  obtain⟨⟨hm,hp⟩,hz⟩:=h.1.defers;obtain⟨D,rfl,h1,h2,h3⟩:=hm d kF;have hne:=(kK.1 hp).1;refine⟨by simp,.inl ⟨D,_,rfl,run_takeDeferred h2,qGG key ds _ (h.other (a':=⟨tmps,ds⟩) (λarr e z q=>by rw[h2] at q;cases q) h3 h1 rfl ⟨⟨λd' hd'=>?_,(kK.1 hp).2⟩,λq=>by have:=hz q;cases this⟩)⟩⟩;exact qVN (λe=>hne d' hd' e.symm) (hm d' (kD _ hd'))
def oP :Option Prop->Prop
 |none=>True
 |some p=>p
def an :Option Prop->Option Prop->Option Prop
 |none,q=>q
 |some p,none=>some p
 |some p,some q=>some (p/\q)
theorem ZJ {p q:Option Prop} (h:oP (an p q)):oP p/\oP q:=by
 cases p with
 |none=>exact⟨trivial,h⟩
 |some p=>
  cases q with
  |none=>exact⟨h,trivial⟩
  |some q=>exact h
theorem o0 :oP none:=trivial
theorem o1 {p:Prop} (h:p):oP (some p):=h
theorem o2 {p q:Prop} (h:p) (k:oP (some q)):oP (some (p/\q)):=⟨h,k⟩
theorem o3 {p q:Prop} (h:oP (some p)) (k:oP (some q)):oP (some (p/\q)):=⟨h,k⟩
def qS9 (objs:List (Nat×(Nat×O))):C->Option C
 | .bptr id k j=>match look id objs with|some (k',_)=>bif Nat.beq k k' then some (.bptr id 0 j) else none|none=>none
 |c=>some c
def qHs (objs:List (Nat×(Nat×O))):List C->Option (List C)
 |[]=>some []
 |p::r=>match qS9 objs p,qHs objs r with|some q,some r'=>some (q::r')|_,_=>none
def C.rev (objs:List (Nat×(Nat×O))):C->C
 | .fn g caps=>match qHs objs caps with|some caps'=> .fn g caps'|none=> .unk
 | .yl R b ts caps=>match qHs objs caps with|some caps'=> .yl R b ts caps'|none=> .unk
 | .own id k sz len=>match look id objs with|some (k',_)=>bif Nat.beq k k' then .own id 0 sz len else .unk|none=> .unk
 | .sub id k sz off len=>match look id objs with|some (k',_)=>bif Nat.beq k k' then .sub id 0 sz off len else .unk|none=> .unk
 | .bptr id k j=>match look id objs with|some (k',_)=>bif Nat.beq k k' then .bptr id 0 j else .unk|none=> .unk
 | .rptr id k sz i j=>match look id objs with|some (k',_)=>bif Nat.beq k k' then .rptr id 0 sz i j else .unk|none=> .unk
 |c=>c
def V1.rev (objs:List (Nat×(Nat×O))):V1->V1
 | .one c=> .one (c.rev objs)
 | .agg cs=> .agg (cs.map (C.rev objs))
def V.rev (objs:List (Nat×(Nat×O))):V->V
 | .v x=> .v (x.rev objs)
 | .tup xs=> .tup (xs.map (V1.rev objs))
 |x=>x
def O.rev (objs:List (Nat×(Nat×O))):O->O
 | .box e cs=> .box e (cs.map (C.rev objs))
 |o=>o
def St.rev (st:St):St:={slots:=st.slots.map λp=>(p.1,p.2.rev st.objs),objs:=st.objs.map λp=>(p.1,(0,p.2.2.rev st.objs))}
theorem qHX {β γ:Type} (f:β->γ) (s:Nat) (l:List (Nat×β)):look s (l.map λp=>(p.1,f p.2))=(look s l).map f:=by
 induction l with
 |nil=>rfl
 |cons p l ih=>
  obtain⟨k,x⟩:=p;simp only[ut,look_cons,ih];split<;>rfl
def Mem.rev (M:Mem) (objs:List (Nat×(Nat×O))):Mem:={ver:=λi=>(look i objs).map λ_=>0,blk:=M.blk,A:=M.A}
section
variable {K :Ctx} {M:Mem} {st:St} {a:Act} {w:World}
theorem qS8 (h:Sim K M st a w) {b:Nat} (hb:(M.rev st.objs).owns b):M.owns b:=by
 obtain⟨i,k,hv,hbk⟩:=hb;simp only[Mem.rev,kY] at hv;obtain⟨⟨k',o⟩,hl,_⟩:=hv;exact⟨i,k',(h.objs i k' o hl).ver,hbk⟩
theorem rev_irep (h:Sim K M st a w) {c:C} {v:Value} (hr:IRep w M.imm c v):IRep w (M.rev st.objs).imm c v:=
 hr.move (λ_ _ _=>rfl) λ_ hb _=>⟨hb.1,λho=>hb.2 (qS8 h ho)⟩
theorem qVv (h:Sim K M st a w) {c d:C} {v:Value} (hc:qS9 st.objs c=some d) (hr:jI w M c v):jI w (M.rev st.objs) d v:=by
 cases c with
 |bptr id k j=>
  simp only[qS9] at hc;split at hc
  ·rename_i k' o hl;cases hk:Nat.beq k k' with
   |false=>rw[hk] at hc;cases hc
   |true=>
    rw[hk] at hc;cases hc;have hkk:=ku hk;subst hkk;obtain⟨b,h1,hx⟩:=hr;exact⟨b,h1,λ_=>hx (h.objs id k o hl).ver⟩
  ·cases hc
 |_=>cases hc;exact rev_irep h hr
theorem qGo (h:Sim K M st a w):∀{caps caps':List C},qHs st.objs caps=some caps'->caps'.length=caps.length/\∀j v,j<caps.length->jI w M (caps.getD j .unk) v->jI w (M.rev st.objs) (caps'.getD j .unk) v
 |[],_,hr=>by cases hr;exact⟨rfl,λj v hj=>absurd hj (gt j)⟩
 |p::r,caps',hr=>by
  simp only[qHs] at hr;split at hr
  ·rename_i q r' h1 h2;cases hr;obtain⟨i1,i2⟩:=qGo h h2;refine⟨by simp[i1],λj v hj hp=>?_⟩;cases j with
   |zero=>exact qVv h h1 hp
   |succ j=>exact i2 j v (by simpa using hj) hp
  ·cases hr
theorem qSa (h:Sim K M st a w) {c:C} {v:Value} (hr:CRep w M c v):CRep w (M.rev st.objs) (c.rev st.objs) v:=by
 cases c with
 |own id k sz len=>
  simp only[C.rev];split
  ·rename_i k' o hl;cases hk:Nat.beq k k' with
   |false=>exact hr.cell
   |true=>
    have hkk:=ku hk;subst hkk;have hv:=(h.objs id k o hl).ver;rcases hr with h0|⟨b,cap,h1,h2,h3,hx⟩
    ·exact .inl h0
    ·exact .inr ⟨b,cap,h1,h2,h3,λ_=>hx hv⟩
  ·exact hr.cell
 |sub id k sz off len=>
  simp only[C.rev];split
  ·rename_i k' o hl;cases hk:Nat.beq k k' with
   |false=>exact hr.cell
   |true=>
    have hkk:=ku hk;subst hkk;have hv:=(h.objs id k o hl).ver;rcases hr with h0|⟨b,cap,h1,h2,h3,hx⟩
    ·exact .inl h0
    ·exact .inr ⟨b,cap,h1,h2,h3,λ_=>hx hv⟩
  ·exact hr.cell
 |bptr id k j=>
  simp only[C.rev];split
  ·rename_i k' o hl;cases hk:Nat.beq k k' with
   |false=>exact hr.cell
   |true=>
    have hkk:=ku hk;subst hkk;have hv:=(h.objs id k o hl).ver;obtain⟨b,h1,hx⟩:=hr;exact⟨b,h1,λ_=>hx hv⟩
  ·exact hr.cell
 |rptr id k sz i j=>
  simp only[C.rev];split
  ·rename_i k' o hl;cases hk:Nat.beq k k' with
   |false=>exact hr.cell
   |true=>
    have hkk:=ku hk;subst hkk;have hv:=(h.objs id k o hl).ver;obtain⟨b,h1,hx⟩:=hr;exact⟨b,h1,λ_=>hx hv⟩
  ·exact hr.cell
 |fn g caps=>
  simp only[C.rev];split
  ·rename_i caps' hc;obtain⟨vs,hv,hs,hx⟩:=hr;obtain⟨i1,i2⟩:=qGo h hc;exact⟨vs,hv,by rw[i1];exact hs,λj hj=>i2 j _ (by omega) (hx j (by omega))⟩
  ·exact hr.cell
 |yl R b ts caps=>
  simp only[C.rev];split
  ·rename_i caps' hc;obtain⟨i1,i2⟩:=qGo h hc;exact⟨hr.1,λj hj=>i2 j _ (by omega) (hr.2 j (by omega))⟩
  ·exact hr.cell
 |unk=>exact hr
 |val v=>exact rev_irep h hr
 |emp=>exact rev_irep h hr
 |lst n f=>exact rev_irep h hr
 |lptr cs=>exact rev_irep h hr
 |aptr n sz f=>exact rev_irep h hr
theorem qOW (h:Sim K M st a w) {cs:List C} {vs:Array Value} (hr:yQ w M cs vs):yQ w (M.rev st.objs) (cs.map (C.rev st.objs)) vs:=by
 refine⟨by simpa using hr.1,λj hj=>?_⟩;have hj':j<cs.length:=by simpa using hj
 have:=qSa h (hr.2 j hj');simpa only[ki,kI,ks hj',kZ,kJ] using this
theorem qOT (h:Sim K M st a w) {x:V1} {v:Value} (hr:zC w M x v):zC w (M.rev st.objs) (x.rev st.objs) v:=by
 cases x with
 |one c=>exact qSa h hr
 |agg cs=>obtain⟨vs,hv,hc⟩:=hr;exact⟨vs,hv,qOW h hc⟩
theorem qXN (h:Sim K M st a w) {x:V} {v:Value} (hr:VRep w M x v):VRep w (M.rev st.objs) (x.rev st.objs) v:=by
 cases x with
 |any=>trivial
 |undef=>exact hr
 |v x=>exact qOT h hr
 |tup xs=>
  obtain⟨vs,hv,hl,hc⟩:=hr;refine⟨vs,hv,by simpa using hl,λj hj=>?_⟩;have hj':j<xs.length:=by simpa using hj
  have:=qOT h (hc j hj');simpa only[ki,kI,ks hj',kZ,kJ] using this
theorem Sim1.rev (h:Sim1 K M st a w):Sim1 K (M.rev st.objs) st.rev a w:=by
 have hs:=h.1;have old:∀i k,(M.rev st.objs).ver i=some k->∃k',M.ver i=some k':=λi k hv=>by
  simp only[Mem.rev,kY] at hv;obtain⟨⟨k',o⟩,hl,_⟩:=hv;exact⟨k',(hs.objs i k' o hl).ver⟩
 refine⟨⟨λi j k l b hi hj hbi hbj=>?_,λi k b hv hb=>?_,λi k him hv=>?_,hs.below,hs.shape,hs.area,hs.size,hs.defers.less λ_=>qS8 hs,λs x hx=>?_,λi k o ho=>?_⟩,λi hi=>?_⟩
 ·obtain⟨k',hk'⟩:=old i k hi;obtain⟨l',hl'⟩:=old j l hj;exact hs.inj i j k' l' b hk' hl' hbi hbj
 ·obtain⟨k',hk'⟩:=old i k hv;exact hs.rng i k' b hk' hb
 ·obtain⟨k',hk'⟩:=old i k hv;exact hs.fix i k' him hk'
 ·have:look s (st.slots.map λp=>(p.1,p.2.rev st.objs))=some x:=hx;rw[qHX (V.rev st.objs),kY] at this;obtain⟨y,hy,rfl⟩:=this;exact qXN hs (hs.slots s y hy)
 ·have:look i (st.objs.map λp=>(p.1,((0:Nat),p.2.2.rev st.objs)))=some (k,o):=ho;rw[qHX (λq:Nat×O=>((0:Nat),q.2.rev st.objs)),kY] at this;obtain⟨⟨k',o'⟩,hy,hko⟩:=this;cases hko;have hv:(M.rev st.objs).ver i=some 0:=by simp[Mem.rev,hy]
  have hor:=hs.objs i k' o' hy;cases o' with
  |box e cs=>
   obtain⟨_,b,arr,hb,hh,hc⟩:=hor;exact⟨hv,b,arr,hb,hh,qOW hs hc⟩
  |row e sz n f=>
   refine⟨hv,?_⟩;rcases hor.2 with h0|⟨b,arr,hb,hh,hn,hc⟩
   ·exact .inl h0
   ·exact .inr ⟨b,arr,hb,hh,hn,λi hi=>⟨(hc i hi).1,λj hj=>rev_irep hs ((hc i hi).2 j hj)⟩⟩
  |lp R b s j=>exact⟨hv,hor.2.1,hor.2.2⟩
 ·simp only[Mem.rev,ne_eq,Option.map_eq_none_iff] at hi;unfold hits;show(look i (st.objs.map λp=>(p.1,((0:Nat),p.2.2.rev st.objs)))).isSome=true;rw[qHX (λq:Nat×O=>((0:Nat),q.2.rev st.objs)),Option.isSome_map];exact Option.isSome_iff_ne_none.2 hi
def Mem.keep (M:Mem) (objs:List (Nat×(Nat×O))):Mem:={ver:=λi=>if(look i objs).isSome then M.ver i else none,blk:=M.blk,A:=M.A}
theorem WY {M:Mem} {objs:List (Nat×(Nat×O))} {i k:Nat} (h:(M.keep objs).ver i=some k):M.ver i=some k:=by
 simp only[Mem.keep] at h;split at h
 ·exact h
 ·cases h
theorem EJ {objs:List (Nat×(Nat×O))} {c:C} {v:Value} (hr:IRep w M.imm c v):IRep w (M.keep objs).imm c v:=
 hr.move (λ_ _ _=>rfl) λ_ hb _=>⟨hb.1,fun⟨i,k,hv,hbk⟩=>hb.2 ⟨i,k,WY hv,hbk⟩⟩
theorem qRA {objs:List (Nat×(Nat×O))} {c:C} {v:Value} (hr:jI w M c v):jI w (M.keep objs) c v:=by
 cases c with
 |bptr id k j=>obtain⟨b,h1,hx⟩:=hr;exact⟨b,h1,λhv=>hx (WY hv)⟩
 |_=>exact EJ hr
theorem qPM {objs:List (Nat×(Nat×O))} {c:C} {v:Value} (hr:CRep w M c v):CRep w (M.keep objs) c v:=by
 cases c with
 |own id k sz len=>
  rcases hr with h0|⟨b,cap,h1,h2,h3,hx⟩
  ·exact .inl h0
  ·exact .inr ⟨b,cap,h1,h2,h3,λhv=>hx (WY hv)⟩
 |sub id k sz off len=>
  rcases hr with h0|⟨b,cap,h1,h2,h3,hx⟩
  ·exact .inl h0
  ·exact .inr ⟨b,cap,h1,h2,h3,λhv=>hx (WY hv)⟩
 |bptr id k j=>obtain⟨b,h1,hx⟩:=hr;exact⟨b,h1,λhv=>hx (WY hv)⟩
 |rptr id k sz i j=>obtain⟨b,h1,hx⟩:=hr;exact⟨b,h1,λhv=>hx (WY hv)⟩
 |fn g caps=>
  obtain⟨vs,hv,hs,hx⟩:=hr;exact⟨vs,hv,hs,λj hj=>qRA (hx j hj)⟩
 |yl R b ts caps=>exact⟨hr.1,λj hj=>qRA (hr.2 j hj)⟩
 |unk=>exact hr
 |val v=>exact EJ hr
 |emp=>exact EJ hr
 |lst n f=>exact EJ hr
 |lptr cs=>exact EJ hr
 |aptr n sz f=>exact EJ hr
theorem qNa {objs:List (Nat×(Nat×O))} {cs:List C} {vs:Array Value} (hr:yQ w M cs vs):yQ w (M.keep objs) cs vs:=⟨hr.1,λj hj=>qPM (hr.2 j hj)⟩
theorem qNd {objs:List (Nat×(Nat×O))} {x:V1} {v:Value} (hr:zC w M x v):zC w (M.keep objs) x v:=by
 cases x with
 |one c=>exact qPM hr
 |agg cs=>obtain⟨vs,hv,hc⟩:=hr;exact⟨vs,hv,qNa hc⟩
theorem qPc {objs:List (Nat×(Nat×O))} {x:V} {v:Value} (hr:VRep w M x v):VRep w (M.keep objs) x v:=by
 cases x with
 |any=>trivial
 |undef=>exact hr
 |v x=>exact qNd hr
 |tup xs=>obtain⟨vs,hv,hl,hc⟩:=hr;exact⟨vs,hv,hl,λj hj=>qNd (hc j hj)⟩
theorem qPx {objs:List (Nat×(Nat×O))} {i k:Nat} {o:O} (hi:(look i objs).isSome=true) (hr:ORep w M i k o):ORep w (M.keep objs) i k o:=by
 have hv:(M.keep objs).ver i=some k:=by simp only[Mem.keep,hi,if_true];exact hr.ver
 cases o with
 |box e cs=>obtain⟨_,b,arr,hb,hh,hc⟩:=hr;exact⟨hv,b,arr,hb,hh,qNa hc⟩
 |row e sz n f=>
  refine⟨hv,?_⟩;rcases hr.2 with h0|⟨b,arr,hb,hh,hn,hc⟩
  ·exact .inl h0
  ·exact .inr ⟨b,arr,hb,hh,hn,λi hi=>⟨(hc i hi).1,λj hj=>EJ ((hc i hi).2 j hj)⟩⟩
 |lp R b s j=>exact⟨hv,hr.2.1,hr.2.2⟩
structure Sub (st' st:St):Prop where
 slots:st'.slots.map (λp=>look p.1 st.slots)=st'.slots.map λp=>some p.2
 objs:st'.objs.map (λp=>look p.1 st.objs)=st'.objs.map λp=>some p.2
theorem qJv {β:Type} {l:List (Nat×β)} {g:Nat->Option β} (h:l.map (λp=>g p.1)=l.map λp=>some p.2) {s:Nat} {x:β} (hx:look s l=some x):g s=some x:=by
 have hm:=look_mem hx;clear hx
 induction l with
 |nil=>cases hm
 |cons p l ih=>
  simp only[ut,List.cons.injEq] at h;rcases kN.1 hm with h1|h1
  ·rw[<-h1] at h;exact h.1
  ·exact ih h.2 h1
theorem Sim1.sub (h:Sim1 K M st a w) {st':St} (hs:Sub st' st):Sim1 K (M.keep st'.objs) st' a w:=by
 refine⟨⟨λi j k l b hi hj hbi hbj=>h.1.inj i j k l b (WY hi) (WY hj) hbi hbj,λi k b hv hb=>h.1.rng i k b (WY hv) hb,λi k him hv=>h.1.fix i k him (WY hv),h.1.below,h.1.shape,h.1.area,h.1.size,h.1.defers.less λ_ ⟨i,k,hv,hb⟩=>⟨i,k,WY hv,hb⟩,λs x hx=>?_,λi k o ho=>?_⟩,λi hi=>?_⟩
 ·exact qPc (h.1.slots s x (qJv (g:=λs=>look s st.slots) hs.slots hx))
 ·exact qPx (by rw[ho];rfl) (h.1.objs i k o (qJv (g:=λs=>look s st.objs) hs.objs ho))
 ·simp only[Mem.keep] at hi;split at hi
  ·assumption
  ·exact absurd rfl hi
end
theorem qMv {K:Ctx} {st:St} {c:Code} {Q:Exit->St->Prop} {n:Nat} (st':St) (hs:Sub st' st.rev) (h:HL K c Q n st'):HL K c Q n st:=λ_ a w hsim=>h _ a w (hsim.rev.sub hs)
def Mem.of (A:Nat->Prop):Mem:=⟨λ_=>none,λ_=>none,A⟩
structure InOk (w:World) (M:Mem) (n:Nat) (ob:List (Nat×(Nat×O))):Prop where
 inj:∀i j k l b,M.ver i=some k->M.ver j=some l->M.blk i=some b->M.blk j=some b->i=j
 rng:∀i k b,M.ver i=some k->M.blk i=some b->i<n/\b<w.heap.size/\¬M.A b
 only:∀i,M.ver i≠none->hits ob i
 objs:∀i k o,look i ob=some (k,o)->ORep w M i k o
def qDf (w:World) (M:Mem) (xs:List V1) (vs:Array Value):Prop:=vs.size=xs.length/\∀j,j<xs.length->zC w M (xs.getD j (.one .unk)) (vs.getD j undef)
structure qNe (w w':World) (M M':Mem) (m:Nat) (x:V) (ob:List (Nat×(Nat×O))) (v:Value):Prop where
 only:∀i,M'.ver i≠none->hits ob i
 inj:∀i j k l b,M'.ver i=some k->M'.ver j=some l->M'.blk i=some b->M'.blk j=some b->i=j
 rng:∀i k b,M'.ver i=some k->M'.blk i=some b->(w.heap.size<=b\/(∃k',M.ver i=some k')/\M.blk i=some b)/\b<w'.heap.size
 fix:∀i k k',i<m->M.ver i=some k->M'.ver i=some k'->M'.blk i=M.blk i
 area:∀b,M'.A b↔M.A b\/w.heap.size<=b
 val:VRep w' M' x v
 objs:∀i k o,look i ob=some (k,o)->ORep w' M' i k o
def GR (gl:List (Nat×C)) (w:World) (A:Nat->Prop):Prop:=∀g c,look g gl=some c->IRep w A c (.pointer (some ⟨g,0,none⟩))
theorem GR.mark {gl:List (Nat×C)} {w:World} {A:Nat->Prop} (h:GR gl w A):GR (markG::gl) w A:=λg c hg=>by
 unfold markG at hg;rw[look_cons] at hg;split at hg
 ·rename_i he;cases hg;rw[<-he];exact .val _ rfl
 ·exact h g c hg
def CtX (P:Program) (gl:List (Nat×C)) (f:FuncId) (n m:Nat) (xs:List V1) (oi:List (Nat×(Nat×O))) (x:V) (ob:List (Nat×(Nat×O))):Prop:=
 ∀(w:World) (M:Mem) (vs:Array Value),GR gl w M.A->InOk w M n oi->qDf w M xs vs->Calls P f vs w λe w'=>∃v M',e= .returned v/\EM (drOf gl) M.owns w w'/\qAR w w'/\qNe w w' M M' m x ob v
def qRj (P:Program) (st:St):ResultVar->Option V1
 | .tmp t=>match look t st.slots with|some (.v x)=>some x|_=>none
 | .cell a t=>match look a st.slots with|some (.v (.one (.bptr id k j)))=>(match AC st (.bptr id k j) with|some (cs,_)=>qFl P t cs|none=>none)|_=>none
def qJz (P:Program) (st:St):List ResultVar->Option (List V1)
 |[]=>some []
 |r::rs=>match qRj P st r,qJz P st rs with|some x,some xs=>some (x::xs)|_,_=>none
def retV (P:Program) (st:St) (rs:List ResultVar):Option V:=
 match qJz P st rs with
 |some [x]=>some (.v x)
 |some []=>some .undef
 |some xs=>some (.tup xs)
 |none=>none
theorem qVL {K:Ctx} {M:Mem} {st:St} {a:Act} {w:World} (h:Sim K M st a w) {r:ResultVar} {x:V1} (hr:qRj K.P st r=some x):
  ∃v,(match r with| .tmp t=>pure (a.tmps.getD t undef)| .cell b t=>do loadVar t (<-asAddr (a.tmps.getD b undef)):Sem Value).run K.P w= .ok v w/\zC w M x v:=by
 unfold qRj at hr;split at hr
 ·rename_i t;split at hr
  ·rename_i y hl;cases hr;exact⟨_,rfl,h.slots t _ hl⟩
  ·cases hr
 ·rename_i b t;split at hr
  ·rename_i id k j hl;split at hr
   ·rename_i cs ob hp;have hc:=h.slots b _ hl;have hob:ob:=by
     unfold AC at hp;simp only at hp;split at hp
     ·rename_i k' e cs' hl';cases hk:Nat.beq k k' with
      |false=>rw[hk] at hp;cases hp
      |true=>rw[hk] at hp;cases hp;trivial
     ·cases hp
    obtain⟨b',o',g,hv,hc1,hc2⟩:=qJl h (c:= .bptr id k j) hc hp hob;obtain⟨v,hv1,hv2⟩:=qKH (P:=K.P) hr hc1 hc2;exact⟨v,by simp only[hv,asAddr,Sem.run_bind,Sem.run_pure,Result.andThen_ok,hv1],hv2⟩
   ·cases hr
  ·cases hr
theorem qNz {K:Ctx} {M:Mem} {st:St} {a:Act} {w:World} (h:Sim K M st a w):∀{rs:List ResultVar} {xs:List V1},qJz K.P st rs=some xs->
  ∃vs:List Value,(rs.mapM fun| .tmp t=>pure (a.tmps.getD t undef)| .cell b t=>do loadVar t (<-asAddr (a.tmps.getD b undef)):Sem (List Value)).run K.P w= .ok vs w/\vs.length=xs.length/\∀j,j<xs.length->zC w M (xs.getD j (.one .unk)) (vs.getD j undef)
 |[],_,hr=>by cases hr;exact⟨[],rfl,rfl,λj hj=>by simp at hj⟩
 |r::rs,xs,hr=>by
  simp only[qJz] at hr;split at hr
  ·rename_i x ys hx hys;cases hr;obtain⟨v,h1,h2⟩:=qVL h hx;obtain⟨vs,h3,h4,h5⟩:=qNz h hys;refine⟨v::vs,?_,by simp[h4],λj hj=>?_⟩
   ·rw[List.mapM_cons];simp only[Sem.run_bind];rw[h1];simp only[Result.andThen_ok];rw[h3];rfl
   ·cases j with
    |zero=>exact h2
    |succ j=>simpa using h5 j (by simpa using hj)
  ·cases hr
theorem qYs {K:Ctx} {M:Mem} {st:St} {a:Act} {w:World} (h:Sim K M st a w) {fn:Func} {x:V} (hr:retV K.P st fn.results.toList=some x):∃v,(results fn a.tmps).run K.P w= .ok v w/\VRep w M x v:=by
 unfold retV at hr;have base:∀xs,qJz K.P st fn.results.toList=some xs->∃vs:List Value,(results fn a.tmps).run K.P w= .ok (if h:vs.toArray.size=1 then vs.toArray[0] else .tuple vs.toArray) w/\vs.length=xs.length/\∀j,j<xs.length->zC w M (xs.getD j (.one .unk)) (vs.getD j undef):=by
  intro xs hxs;obtain⟨vs,h1,h2,h3⟩:=qNz h hxs;refine⟨vs,?_,h2,h3⟩;unfold results;simp only[Sem.run_bind];rw[Array.mapM_eq_mapM_toList,Sem.run_map];exact congrArg (λr:Result (List Value)=>(r.andThen λa w'=>Result.ok a.toArray w').andThen λa w'=>Sem.run K.P (pure (if h:a.size=1 then a[0] else Value.tuple a)) w') h1
 split at hr
 ·rename_i y hy;cases hr;obtain⟨vs,h1,h2,h3⟩:=base _ hy
  match vs,h2 with
  |[v],_=>exact⟨v,by simpa using h1,show zC w M y v by simpa using h3 0 (by simp)⟩
 ·rename_i hy;cases hr;obtain⟨vs,h1,h2,h3⟩:=base _ hy
  match vs,h2 with
  |[],_=>exact⟨.tuple #[],by simpa using h1,rfl⟩
 ·rename_i xs hx1 hx2 hy;cases hr;obtain⟨vs,h1,h2,h3⟩:=base _ hy;have hne:vs.toArray.size≠1:=by
   simp only[List.size_toArray,h2]
   match xs,hx1 with
   |[],_=>simp
   |[x],hx=>exact absurd rfl (hx x)
   |_::_::_,_=>simp
  refine⟨.tuple vs.toArray,by rw[dif_neg hne] at h1;exact h1,vs.toArray,rfl,by simpa using h2,λj hj=>?_⟩;have:=h3 j hj;simpa[kw,ki] using this
 ·cases hr
def RetQ (P:Program) (fn:Func) (x:V) (ob:List (Nat×(Nat×O))):Exit->St->Prop
 | .ret,st| .normal,st=>retV P st.rev fn.results.toList=some x/\ob.map (λp=>look p.1 st.rev.objs)=ob.map λp=>some p.2
 |_,_=>False
def OY :Nat->List V1->List (Nat×V)
 |_,[]=>[]
 |k,x::xs=>(k,.v x)::OY (k+1) xs
theorem qGk :∀(xs:List V1) (k s:Nat) (x:V),look s (OY k xs)=some x->∃j,s=k+j/\j<xs.length/\x= .v (xs.getD j (.one .unk))
 |[],_,_,_,h=>by cases h
 |y::xs,k,s,x,h=>by
  simp only[OY,look_cons] at h;split at h
  ·rename_i hk;cases h;exact⟨0,by omega,by simp,rfl⟩
  ·obtain⟨j,h1,h2,h3⟩:=qGk xs (k+1) s x h;exact⟨j+1,by omega,by simpa using h2,by simpa using h3⟩
theorem qRE {P:Program} {gl:List (Nat×C)} {f:FuncId} {fn:Func} {c:Code} {n m:Nat} {xs:List V1} {oi:List (Nat×(Nat×O))} {x:V} {ob:List (Nat×(Nat×O))} (hm:P.follows .mixedOrders=true) (hf:P.funcs[f]? =some fn) (hb:fn.body=some c) (hn:Nat.ble xs.length fn.ntmps=true)
  (h:∀(w:World) (A:Nat->Prop) (In:Nat->Option Nat) (hI:∀i b,In i=some b->i<n/\b<w.heap.size/\¬A b) (hg:GR gl w A),H {P:=P,w0:=w,nt:=fn.ntmps,A:=A,globs:=gl,mixed:=hm,glob:=hg,n:=n,m:=m,In:=In,hIn:=hI} {slots:=OY 0 xs,objs:=oi} c (RetQ P fn x ob)):CtX P gl f n m xs oi x ob:=by
 intro w M vs hg hin ha;have hle:=kW hn;have hI:∀i b,(λi=>if M.ver i=none then none else M.blk i) i=some b->i<n/\b<w.heap.size/\¬M.A b:=λi b hi=>by
  simp only at hi;split at hi
  ·cases hi
  ·rename_i hv;obtain⟨k,hk⟩:=uK.1 hv;exact hin.rng i k b hk hi
 -- the areas alone differ
 have himm:∀b,M.imm b->b<w.heap.size->Mem.imm {M with A:=λb=>M.A b\/w.heap.size<=b} b:=λb hb _=>⟨.inl hb.1,hb.2⟩
 have hir:∀{c:C} {v:Value},IRep w M.imm c v->IRep w (Mem.imm {M with A:=λb=>M.A b\/w.heap.size<=b}) c v:=λhr=>hr.move (λ_ _ _=>rfl) himm;have hcr:∀{c:C} {v:Value},CRep w M c v->CRep w {M with A:=λb=>M.A b\/w.heap.size<=b} c v:=fun{c v} hr=>by
  cases c with
  |own id k sz len=>exact hr
  |sub id k sz off len=>exact hr
  |bptr id k j=>exact hr
  |rptr id k sz i j=>exact hr
  |fn g caps=>
   obtain⟨vs,h1,h2,h3⟩:=hr;refine⟨vs,h1,h2,λj hj=>?_⟩;have:=h3 j hj;generalize caps.getD j .unk=c at this;cases c with
   |bptr id k j=>exact this
   |_=>exact hir this
  |yl R b ts caps=>
   refine⟨hr.1,λj hj=>?_⟩;have:=hr.2 j hj;generalize caps.getD j .unk=c at this;cases c with
   |bptr id k j=>exact this
   |_=>exact hir this
  |unk=>exact hr
  |val v=>exact hir hr
  |emp=>exact hir hr
  |lst n f=>exact hir hr
  |lptr cs=>exact hir hr
  |aptr n sz f=>exact hir hr
 refine callsIn_wide.1 (callsIn_of_wp_marks (n:=0) hf hb trivial (wpIn_mono (h w M.A _ hI hg {M with A:=λb=>M.A b\/w.heap.size<=b} _ w ⟨⟨hin.inj,λi k b hv hb=>?_,λi k _ hv=>?_,EM.refl _ _,qAR.refl _,λb=>Iff.rfl,?_,qEo.nil,?_,?_⟩,?_⟩) ?_))
 ·refine⟨.inr ?_,(hin.rng i k b hv hb).2.1⟩;have hv':M.ver i=some k:=hv;simp only[hv',reduceCtorEq,if_false];exact hb
 ·have hv':M.ver i=some k:=hv;simp only[hv',reduceCtorEq,if_false]
 ·have:=ha.1;simp;omega
 ·intro s y hy;obtain⟨j,rfl,hj,rfl⟩:=qGk xs 0 s y hy;have h1:=ha.2 j hj;have hjs:j<vs.size:=by rw[ha.1];exact hj
  have hget:(vs++Array.replicate (fn.ntmps-vs.size) undef).getD (0+j) undef=vs.getD j undef:=by
   simp only[kz,kw,uE hjs]
  rw[hget];show zC _ _ _ _;generalize xs.getD j (.one .unk)=y at h1;cases y with
  |one c=>exact hcr h1
  |agg cs=>obtain⟨us,hu,hc⟩:=h1;exact⟨us,hu,hc.1,λj hj=>hcr (hc.2 j hj)⟩
 ·intro i k o ho;have:=hin.objs i k o ho;cases o with
  |box e cs=>obtain⟨h1,b,arr,h2,h3,h4⟩:=this;exact⟨h1,b,arr,h2,h3,h4.1,λj hj=>hcr (h4.2 j hj)⟩
  |row e sz n f=>
   refine⟨this.1,?_⟩;rcases this.2 with h0|⟨b,arr,h2,h3,h4,h5⟩
   ·exact .inl h0
   ·exact .inr ⟨b,arr,h2,h3,h4,λi hi=>⟨(h5 i hi).1,λj hj=>hir ((h5 i hi).2 j hj)⟩⟩
  |lp R b s j=>exact this
 ·intro i hi;exact hin.only i hi
 ·rintro e a' w' ⟨M',st',hq,hsim⟩;have fin:∀st' w' a',Sim1 {P:=P,w0:=w,nt:=fn.ntmps,A:=M.A,globs:=gl,mixed:=hm,glob:=hg,n:=n,m:=m,In:=λi=>if M.ver i=none then none else M.blk i,hIn:=hI} M' st' a' w'->retV P st'.rev fn.results.toList=some x/\ob.map (λp=>look p.1 st'.rev.objs)=(ob.map λp=>some p.2)->
    ∃v,(results fn a'.tmps).run P w'= .ok v w'/\(∃v' M',Ending.returned v= .returned v'/\EM (drOf gl) M.owns w w'/\qAR w w'/\qNe w w' M M' m x ob v'):=by
   intro st' w' a' hsim ⟨h1,h2⟩;have hrev:=hsim.rev;obtain⟨v,hv,hvr⟩:=qYs hrev.1 h1;have hIn:∀i b,(if M.ver i=none then none else M.blk i)=some b->(∃k',M.ver i=some k')/\M.blk i=some b:=λi b hi=>by
    split at hi
    ·cases hi
    ·rename_i hne;exact⟨uK.1 hne,hi⟩
   refine⟨v,hv,v,(M'.rev st'.objs).keep ob,rfl,⟨hsim.1.below.os,hsim.1.below.tape,hsim.1.below.output,hsim.1.below.size,λb hb hnb=>hsim.1.below.block b hb fun⟨i,hi⟩=>?_,hsim.1.below.drawn⟩,hsim.1.shape,
    ⟨λi hi=>?_,λi j k l b hi hj hbi hbj=>hrev.1.inj i j k l b (WY hi) (WY hj) hbi hbj,λi k b hvi hbi=>?_,λi k k' him hk hv'=>?_,λb=>hsim.1.area b,qPc hvr,λi k o ho=>?_⟩⟩
   ·obtain⟨⟨k',hk'⟩,hbk⟩:=hIn i b hi;exact hnb ⟨i,k',hk',hbk⟩
   ·simp only[Mem.keep] at hi;split at hi
    ·assumption
    ·exact absurd rfl hi
   ·obtain⟨h1,h2⟩:=hrev.1.rng i k b (WY hvi) hbi;exact⟨h1.imp id (hIn i b),h2⟩
   ·have:=hrev.1.fix i k' him (WY hv');simp only[hk,reduceCtorEq,if_false] at this;exact this
   ·exact qPx (by rw[ho];rfl) (hrev.1.objs i k o (qJv (g:=λs=>look s st'.rev.objs) h2 ho))
  cases e with
  |normal=>exact qGG (λw2 h2=>fin st' w2 _ h2 hq) a'.defers w' hsim
  |ret=>exact qGG (λw2 h2=>fin st' w2 _ h2 hq) a'.defers w' hsim
  |exit id=>exact hq.elim
  |goto l=>exact hq.elim
  |panic c=>exact hq.elim
  |outgrown=>exact hq.elim
end Go.SL

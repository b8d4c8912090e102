/- Calls: what comes back, and the step. -/
import Derived.Test.YtidlfgiogdjkaaaGreatDoorYa3
set_option linter.unusedVariables false
set_option linter.unusedSimpArgs false
namespace Go.SL
open Go.RowKit
structure Out where
 ren:List (Nat×Nat)
 outs:List Nat
 c:Nat
def Out.id (o:Out) (j:Nat):Nat:=match o.ren[j]? with|some p=>p.1|none=>j+o.c
def Out.k (o:Out) (j k:Nat):Nat:=match o.ren[j]? with|some _=>o.outs.getD j 0|none=>k
def qNO (o:Out):C->C
 | .bptr j k l=> .bptr (o.id j) (o.k j k) l
 |c=>c
def C.out (o:Out):C->C
 | .own j k sz len=> .own (o.id j) (o.k j k) sz len
 | .sub j k sz off len=> .sub (o.id j) (o.k j k) sz off len
 | .bptr j k l=> .bptr (o.id j) (o.k j k) l
 | .rptr j k sz i l=> .rptr (o.id j) (o.k j k) sz i l
 | .fn g caps=> .fn g (caps.map (qNO o))
 | .yl R b ts caps=> .yl R b ts (caps.map (qNO o))
 |x=>x
def V1.out (o:Out):V1->V1
 | .one x=> .one (x.out o)
 | .agg cs=> .agg (cs.map (C.out o))
def V.out (o:Out):V->V
 | .v x=> .v (x.out o)
 | .tup xs=> .tup (xs.map (V1.out o))
 |x=>x
def O.out (o:Out):O->O
 | .box e cs=> .box e (cs.map (C.out o))
 |x=>x
def QU (o:Out) (ob:List (Nat×(Nat×O))):List (Nat×(Nat×O)):=ob.map λp=>(o.id p.1,(o.k p.1 p.2.1,p.2.2.out o))
def RV (o:Out) (m:Nat) (ob:List (Nat×(Nat×O))):List (Nat×Nat):=(ob.filter λp=>Nat.ble m p.1).map λp=>(o.id p.1,o.k p.1 p.2.1)
def OC (ob:List (Nat×(Nat×O))) (j k:Nat):Bool:=match look j ob with|some (k',_)=>Nat.beq k k'|none=>false
def qG9 (ob:List (Nat×(Nat×O))):C->Bool
 | .bptr j k _=>OC ob j k
 |_=>true
def C.closed (ob:List (Nat×(Nat×O))):C->Bool
 | .own j k _ _=>OC ob j k
 | .sub j k _ _ _=>OC ob j k
 | .bptr j k _=>OC ob j k
 | .rptr j k _ _ _=>OC ob j k
 | .fn _ caps=>caps.all (qG9 ob)
 | .yl _ _ _ caps=>caps.all (qG9 ob)
 |_=>true
def V1.closed (ob:List (Nat×(Nat×O))):V1->Bool
 | .one c=>c.closed ob
 | .agg cs=>cs.all (C.closed ob)
def V.closed (ob:List (Nat×(Nat×O))):V->Bool
 | .v x=>x.closed ob
 | .tup xs=>xs.all (V1.closed ob)
 |_=>true
def O.closed (ob:List (Nat×(Nat×O))):O->Bool
 | .box _ cs=>cs.all (C.closed ob)
 |_=>true
def qIR :C->Bool
 | .lst _ _| .lptr _| .aptr _ _ _=>false
 |_=>true
def C.noLst :C->Bool
 | .lst _ _| .lptr _| .aptr _ _ _=>false
 | .fn _ caps=>caps.all qIR
 | .yl _ _ _ caps=>caps.all qIR
 |_=>true
def V1.noLst :V1->Bool
 | .one c=>c.noLst
 | .agg cs=>cs.all C.noLst
def V.noLst :V->Bool
 | .v x=>x.noLst
 | .tup xs=>xs.all V1.noLst
 |_=>true
def O.noLst :O->Prop
 | .box _ cs=>cs.all C.noLst=true
 | .row _ _ n f=>∀i,i<n->(f i).all C.noLst=true
 | .lp _ _ _ _=>True
def jT (ob:List (Nat×(Nat×O))):Prop:=∀i k o,look i ob=some (k,o)->o.noLst
def Out.ok (o:Out) (m:Nat) (ob:List (Nat×(Nat×O))):Bool:=
 RO (o.ren.length+o.c) o.ren&&(Nat.beq o.outs.length o.ren.length&&(Nat.ble m o.ren.length&&(((List.range o.ren.length).all λi=>(look i ob).isSome)&&((List.range m).all λi=>Nat.beq (o.outs.getD i 0) ((o.ren.getD i (0,0)).2)))))
section
variable {K :Ctx} {M R:Mem} {st:St} {a:Act} {w w':World} {o:Out} {m:Nat} {ob:List (Nat×(Nat×O))}
def Out.back (o:Out) (R:Mem) (y:Nat):Option Nat:=
 match rid y o.ren with
 |some i=>if R.ver i≠none then some i else none
 |none=>if o.ren.length+o.c<=y/\R.ver (y-o.c)≠none then some (y-o.c) else none
def Mem.after (M R:Mem) (o:Out):Mem:=
 {ver:=λy=>match o.back R y with|some j=>(R.ver j).map (o.k j)|none=>M.ver y,blk:=λy=>match o.back R y with|some j=>R.blk j|none=>M.blk y,A:=M.A}
theorem qQr (hr:RO (o.ren.length+o.c) o.ren=true) {j k:Nat} (hj:R.ver j=some k):o.back R (o.id j)=some j:=by
 unfold Out.back Out.id;cases hp:o.ren[j]? with
 |some p=>
  obtain⟨y,kk⟩:=p;simp only[qCL hr j y kk hp,hj,ne_eq,reduceCtorEq,not_false_eq_true,if_true]
 |none=>
  have hlen:o.ren.length<=j:=by simpa using hp
  simp only;have hn:rid (j+o.c) o.ren=none:=by
   cases hh:rid (j+o.c) o.ren with
   |none=>rfl
   |some i=>
    obtain⟨k',hk'⟩:=qE1 hh;have:=qO4 hr i _ hk';simp only at this;omega
  rw[hn];simp only[Nat.add_sub_cancel,hj,ne_eq,reduceCtorEq,not_false_eq_true,and_true];rw[if_pos (by omega)]
theorem qCS {y j:Nat} (hr:RO (o.ren.length+o.c) o.ren=true) (h:o.back R y=some j):o.id j=y/\∃k,R.ver j=some k:=by
 unfold Out.back at h;split at h
 ·rename_i i hi;split at h
  ·rename_i hv;cases h;obtain⟨k,hk⟩:=qE1 hi;exact⟨by simp[Out.id,hk],Option.ne_none_iff_exists'.1 hv⟩
  ·cases h
 ·rename_i hn;split at h
  ·rename_i hv;cases h;refine⟨?_,Option.ne_none_iff_exists'.1 hv.2⟩;have:o.ren[y-o.c]? =none:=by rw[List.getElem?_eq_none_iff];omega
   simp only[Out.id,this];omega
  ·cases h
theorem qLY (hr:RO (o.ren.length+o.c) o.ren=true) {j k:Nat} (hj:R.ver j=some k):(M.after R o).ver (o.id j)=some (o.k j k)/\(M.after R o).blk (o.id j)=R.blk j:=by
 simp[Mem.after,qQr hr hj,hj]
theorem qJD {y:Nat} {kx:Nat×O}:∀{ob:List (Nat×(Nat×O))},look y (QU o ob)=some kx->∃j k x,look j ob=some (k,x)/\y=o.id j/\kx=(o.k j k,x.out o)
 |[],h=>by cases h
 |(j,(k,x))::r,h=>by
  have h':look y ((o.id j,(o.k j k,x.out o))::QU o r)=some kx:=h;rw[look_cons] at h';split at h'
  ·rename_i hy;cases h';exact⟨j,k,x,by rw[look_cons,if_pos rfl],hy.symm,rfl⟩
  ·rename_i hne;obtain⟨j',k',x',e1,e2,e3⟩:=qJD (ob:=r) h';refine⟨j',k',x',?_,e2,e3⟩;rw[look_cons,if_neg]
   ·exact e1
   ·intro he;subst he;exact hne e2.symm
theorem qE7 {j:Nat} (h:hits ob j):hits (QU o ob) (o.id j):=by
 unfold hits at h⊢
 induction ob with
 |nil=>cases h
 |cons p r ih=>
  obtain⟨i,k,x⟩:=p;show(look (o.id j) ((o.id i,(o.k i k,x.out o))::QU o r)).isSome=true;rw[look_cons];split
  ·rfl
  ·rename_i hne;refine ih ?_;rw[look_cons] at h;split at h
   ·rename_i he;exact absurd (by rw[he]) hne
   ·exact h
theorem OL {x:C} (hM:x.noLst=true\/∀b,R.imm b->b<w'.heap.size->(M.after R o).imm b) {v:Value} (h:IRep w' R.imm x v):IRep w' (M.after R o).imm x v:=by
 rcases hM with hM|hM
 ·cases h with
  |val v hv=>exact .val v hv
  |emp a=>exact .emp a
  |_=>cases hM
 ·exact h.move (λ_ _ _=>rfl) hM
theorem qCc (hr:RO (o.ren.length+o.c) o.ren=true) (hob:∀i k x,look i ob=some (k,x)->R.ver i=some k) {j k:Nat} (hc:OC ob j k=true):R.ver j=some k/\(M.after R o).blk (o.id j)=R.blk j:=by
 unfold OC at hc;split at hc
 ·rename_i k' x hl;have hk:=Nat.eq_of_beq_eq_true hc;subst hk;have:=hob j k x hl;exact⟨this,(qLY hr this).2⟩
 ·cases hc
theorem qQH (hr:RO (o.ren.length+o.c) o.ren=true) (hob:∀i k x,look i ob=some (k,x)->R.ver i=some k) {x:C} (hM:qIR x=true\/∀b,R.imm b->b<w'.heap.size->(M.after R o).imm b) {v:Value} (hc:qG9 ob x=true) (h:yA w' R x v):yA w' (M.after R o) (qNO o x) v:=by
 have im:IRep w' R.imm x v->IRep w' (M.after R o).imm x v:=λh=>by
  rcases hM with hM|hM
  ·cases h with
   |val v hv=>exact .val v hv
   |emp a=>exact .emp a
   |_=>cases hM
  ·exact h.move (λ_ _ _=>rfl) hM
 cases x with
 |bptr j k l=>
  obtain⟨k1,k2⟩:=qCc (M:=M) hr hob hc;obtain⟨b,h1,hx⟩:=h;exact⟨b,h1,λ_=>by rw[k2];exact hx k1⟩
 |_=>exact im h
theorem qN7 (hr:RO (o.ren.length+o.c) o.ren=true) (hob:∀i k x,look i ob=some (k,x)->R.ver i=some k) {x:C} (hM:x.noLst=true\/∀b,R.imm b->b<w'.heap.size->(M.after R o).imm b) {v:Value} (hc:x.closed ob=true) (h:CRep w' R x v):CRep w' (M.after R o) (x.out o) v:=by
 cases x with
 |own id k sz len=>
  obtain⟨k1,k2⟩:=qCc (M:=M) hr hob hc;rcases h with h0|⟨b,cap,h1,h2,h3,hx⟩
  ·exact .inl h0
  ·exact .inr ⟨b,cap,h1,h2,h3,λ_=>by rw[k2];exact hx k1⟩
 |sub id k sz off len=>
  obtain⟨k1,k2⟩:=qCc (M:=M) hr hob hc;rcases h with h0|⟨b,cap,h1,h2,h3,hx⟩
  ·exact .inl h0
  ·exact .inr ⟨b,cap,h1,h2,h3,λ_=>by rw[k2];exact hx k1⟩
 |bptr id k j=>
  obtain⟨k1,k2⟩:=qCc (M:=M) hr hob hc;obtain⟨b,h1,hx⟩:=h;exact⟨b,h1,λ_=>by rw[k2];exact hx k1⟩
 |rptr id k sz i j=>
  obtain⟨k1,k2⟩:=qCc (M:=M) hr hob hc;obtain⟨b,h1,hx⟩:=h;exact⟨b,h1,λ_=>by rw[k2];exact hx k1⟩
 |fn g caps=>
  obtain⟨vs,hv,hs,hx⟩:=h;refine⟨vs,hv,by simpa using hs,λj hj=>?_⟩;have hj':j<caps.length:=by simpa using hj
  have:=qQH (M:=M) (o:=o) hr hob (hM.imp (λh=>List.all_eq_true.1 h _ (yP (d:= .unk) hj')) (λh=>h)) (List.all_eq_true.1 hc _ (yP (d:= .unk) hj')) (hx j hj');simpa only[List.getD_eq_getElem?_getD,List.getElem?_map,List.getElem?_eq_getElem hj',Option.map_some,Option.getD_some] using this
 |yl R b ts caps=>
  refine⟨h.1,λj hj=>?_⟩;have hj':j<caps.length:=by simpa using hj
  have:=qQH (M:=M) (o:=o) hr hob (hM.imp (λh=>List.all_eq_true.1 h _ (yP (d:= .unk) hj')) (λh=>h)) (List.all_eq_true.1 hc _ (yP (d:= .unk) hj')) (h.2 j hj');simpa only[List.getD_eq_getElem?_getD,List.getElem?_map,List.getElem?_eq_getElem hj',Option.map_some,Option.getD_some] using this
 |unk=>exact h
 |val v=>exact OL hM h
 |emp=>exact OL hM h
 |lst n f=>exact OL hM h
 |lptr cs=>exact OL hM h
 |aptr n sz f=>exact OL hM h
theorem qMj (hr:RO (o.ren.length+o.c) o.ren=true) (hob:∀i k x,look i ob=some (k,x)->R.ver i=some k) {cs:List C} (hM:cs.all C.noLst=true\/∀b,R.imm b->b<w'.heap.size->(M.after R o).imm b) {vs:Array Value} (hc:cs.all (C.closed ob)=true) (h:jI w' R cs vs):jI w' (M.after R o) (cs.map (C.out o)) vs:=by
 refine⟨by simpa using h.1,λj hj=>?_⟩;have hj':j<cs.length:=by simpa using hj
 have:=qN7 (M:=M) (o:=o) hr hob (x:=cs.getD j .unk) (hM.imp (λhm=>List.all_eq_true.1 hm _ (yP hj')) id) (List.all_eq_true.1 hc _ (yP hj')) (h.2 j hj');simpa only[List.getD_eq_getElem?_getD,List.getElem?_map,List.getElem?_eq_getElem hj',Option.map_some,Option.getD_some] using this
theorem qLR (hr:RO (o.ren.length+o.c) o.ren=true) (hob:∀i k x,look i ob=some (k,x)->R.ver i=some k) {x:V1} (hM:x.noLst=true\/∀b,R.imm b->b<w'.heap.size->(M.after R o).imm b) {v:Value} (hc:x.closed ob=true) (h:qU w' R x v):qU w' (M.after R o) (x.out o) v:=by
 cases x with
 |one x=>exact qN7 hr hob hM hc h
 |agg cs=>obtain⟨vs,hv,hh⟩:=h;exact⟨vs,hv,qMj hr hob hM hc hh⟩
theorem qS5 (hr:RO (o.ren.length+o.c) o.ren=true) (hob:∀i k x,look i ob=some (k,x)->R.ver i=some k) {x:V} (hM:x.noLst=true\/∀b,R.imm b->b<w'.heap.size->(M.after R o).imm b) {v:Value} (hc:x.closed ob=true) (h:VRep w' R x v):VRep w' (M.after R o) (x.out o) v:=by
 cases x with
 |any=>trivial
 |undef=>exact h
 |v x=>exact qLR hr hob hM hc h
 |tup xs=>
  obtain⟨vs,hv,hl,hh⟩:=h;refine⟨vs,hv,by simpa using hl,λj hj=>?_⟩;have hj':j<xs.length:=by simpa using hj
  have:=qLR (M:=M) (o:=o) hr hob (x:=xs.getD j (.one .unk)) (hM.imp (λhm=>List.all_eq_true.1 hm _ (yP hj')) id) (List.all_eq_true.1 hc _ (yP hj')) (hh j hj');simpa only[List.getD_eq_getElem?_getD,List.getElem?_map,List.getElem?_eq_getElem hj',Option.map_some,Option.getD_some] using this
theorem qSO (hr:RO (o.ren.length+o.c) o.ren=true) (hob:∀i k x,look i ob=some (k,x)->R.ver i=some k) {x:O} (hM:x.noLst\/∀b,R.imm b->b<w'.heap.size->(M.after R o).imm b) {i k:Nat} (hc:x.closed ob=true) (h:ORep w' R i k x):ORep w' (M.after R o) (o.id i) (o.k i k) (x.out o):=by
 have hj:=qLY (M:=M) hr h.ver;cases x with
 |box e cs=>
  obtain⟨_,b,arr,hb,hh,hcr⟩:=h;exact⟨hj.1,b,arr,by rw[hj.2];exact hb,hh,qMj hr hob hM hc hcr⟩
 |row e sz n f=>
  refine⟨hj.1,?_⟩;rcases h.2 with⟨h0,h1⟩|⟨b,arr,hb,hh,hn,hcr⟩
  ·exact .inl ⟨by rw[hj.2];exact h0,h1⟩
  ·refine .inr ⟨b,arr,by rw[hj.2];exact hb,hh,hn,λq hq=>⟨(hcr q hq).1,λt ht=>OL ?_ ((hcr q hq).2 t ht)⟩⟩;exact hM.imp (λhm'=>List.all_eq_true.1 (hm' q hq) _ (yP (by rw[(hcr q hq).1];exact ht))) id
 |lp R b s j=>exact⟨hj.1,by rw[hj.2];exact h.2.1,h.2.2⟩
end
def AW :Op->Option (Operand×List Operand)
 | .call {callee:= .value f,args,.. }=>some (f,args.toList)
 |_=>none
def qNo (gl:List (Nat×C)) (st:St) (f:Operand):Option (FuncId×List V1):=
 match op1 gl st f with
 |some (.one (.fn g caps))=>some (g,caps.map V1.one)
 |_=>none
theorem wp_call {P:Program} {o:Oper} {fo:Operand} {args:List Operand} {a:Act} {w:World} {Kn:Act→World→Prop} {Q:Exit→Act→World→Prop} (ho:AW o.op=some (fo,args)) {f:FuncId} {cap:Array Value} (hv:a.eval fo= .func (.func f) #[] cap) {fn:Func} (hf:P.funcs[f]? =some fn) (hbody:fn.body.isSome=true) (hname:(fn.name== "runtime.NumGoroutine")=false)
  (h:Calls P f ((args.map a.eval).toArray++cap) w λe w'=>∃v,e= .returned v/\Kn (a.put o.dst v) w'):o.wp P a w Kn Q:=by
 unfold AW at ho;split at ho
 ·rename_i f' args' ats heq;cases ho;unfold Oper.wp;have hrun:(execOp a.eval o).run P w= .ok (.enter f (args'.map a.eval++cap)) w:=by
   unfold execOp;rw[heq];obtain⟨c,hc⟩:=Option.isSome_iff_exists.1 hbody;have hn:¬fn.name= "runtime.NumGoroutine" :=by simpa using hname
   simp[resolve,Deferred.ofValue,hv,invoke,callFunc,hf,hn,hc]
  rw[hrun];have hargs:(args'.toList.map a.eval).toArray=args'.map a.eval:=by apply Array.toList_inj.1;simp
  rw[hargs] at h;refine Calls.mono h ?_;rintro e w' ⟨v,rfl,hk⟩;exact hk
 ·cases ho
def qEP (gl:List (Nat×C)) (st:St) (ren:List (Nat×Nat)) (op:Op):Option (FuncId×List V1×Option Prop×Bool×List (Nat×(Nat×O))):=
 match AW op with
 |some (fo,args)=>(match qNo gl st fo,opsV gl st args,KX st ren 0 ren with
  |some (f,caps),some ys,some oi=>(match GS st ren (ys++caps) with|some (xs,p,b)=>some (f,xs,p,b,oi)|none=>none)
  |_,_,_=>none)
 |none=>none
def fnOk (P:Program) (f:FuncId):Bool:=match P.funcs[f]? with|some fn=>fn.body.isSome&&!(fn.name== "runtime.NumGoroutine")|none=>false
theorem qLP {n:Nat} {p:Nat->Bool} (h:(List.range n).all p=true) {i:Nat} (hi:i<n):p i=true:=List.all_eq_true.1 h i (List.mem_range.2 hi)
theorem qPt {gl:List (Nat×C)} {st:St} {ren:List (Nat×Nat)} {op:Op} {f:FuncId} {xs:List V1} {p:Option Prop} {b:Bool} {oi:List (Nat×(Nat×O))} (h:qEP gl st ren op=some (f,xs,p,b,oi)):
  ∃fo args caps ys,AW op=some (fo,args)/\op1 gl st fo=some (.one (.fn f caps))/\opsV gl st args=some ys/\KX st ren 0 ren=some oi/\GS st ren (ys++caps.map V1.one)=some (xs,p,b):=by
 unfold qEP at h;split at h
 ·rename_i fo args hco;split at h
  ·rename_i f' caps ys oi' hce hys hoi;split at h
   ·rename_i xs2 p2 b2 hia;cases h;unfold qNo at hce;split at hce
    ·rename_i g caps0 hfo;cases hce;exact⟨fo,args,caps0,ys,hco,hfo,hys,hoi,hia⟩
    ·cases hce
   ·cases h
  ·cases h
 ·cases h
theorem qG0 {K:Ctx} {M:Mem} {st:St} {a:Act} {w:World} (h:Sim K M st a w) {ren:List (Nat×Nat)} {outs:List Nat} {c m:Nat} {ys xs':List V1} {p:Option Prop} {b:Bool} {oi:List (Nat×(Nat×O))} {x:V} {ob:List (Nat×(Nat×O))} {vals:Array Value}
  (hoi:KX st ren 0 ren=some oi) (hia:GS st ren ys=some (xs',p,b)) (hp:oP p) (hsz:vals.size=ys.length) (hvals:∀j,j<ys.length->qU w M (ys.getD j (.one .unk)) (vals.getD j undef))
  (hok:(Out.ok ⟨ren,outs,c⟩ m ob&&(x.closed ob&&ob.all (λq=>q.2.2.closed ob)))=true) (hb:b=true\/(x.noLst=true/\jT ob)):
  ∃Mi:Mem,qBL K.globs w Mi.A/\InOk w Mi ren.length oi/\qGd w Mi xs' vals/\∀(v:Value) (R:Mem) (w':World),GG Mi.owns w w'->DX w w'->qFd w w' Mi R m x ob v->
   ∃M',Ext M w M' w' (hits (QU ⟨ren,outs,c⟩ ob)) (zA (RV ⟨ren,outs,c⟩ m ob))/\VRep w' M' (x.out ⟨ren,outs,c⟩) v/\(∀y k q,look y (QU ⟨ren,outs,c⟩ ob)=some (k,q)->ORep w' M' y k q)/\(∀y,M'.ver y≠none->M.ver y≠none\/hits (QU ⟨ren,outs,c⟩ ob) y):=by
 rw[Bool.and_eq_true,Bool.and_eq_true] at hok;obtain⟨hout,hcl,hcl2⟩:=hok;simp only[Out.ok,Bool.and_eq_true] at hout;obtain⟨hr,hol,hmn,hall,hsame⟩:=hout;have hmn':=Nat.le_of_ble_eq_true hmn;have hol':=Nat.eq_of_beq_eq_true hol;have hren:∀(i id k:Nat),ren[i]? =some (id,k)->M.ver id=some k:=λi id k hi=>by
  obtain⟨_,x,hx⟩:=qDN hoi i id k hi;exact(h.objs id k x hx).ver
 -- the callee's area
 have hbelow:∀b,M.imm b->b<w.heap.size\/True:=λb _=> .inr trivial;obtain⟨A,views,hA,hvw,hAimm⟩:∃(A:Nat->Prop) (views:Bool),Area M st ren A views/\(b=true\/views=true)/\(b=true->∀y,A y->M.imm y):=by
  cases b with
  |true=>exact⟨M.imm,false,⟨λb hb=>hb,λi q b hq hbk hb=>hb.2 ⟨q.1,q.2,hren i q.1 q.2 hq,hbk⟩,λhv=>by cases hv⟩,.inl rfl,λ_ y hy=>hy⟩
  |false=>
   refine⟨λb=>¬∃(i:Nat) (q:Nat×Nat),ren[i]? =some q/\M.blk q.1=some b,true,⟨λb hb ⟨i,q,hq,hbk⟩=>hb.2 ⟨q.1,q.2,hren i q.1 q.2 hq,hbk⟩,λi q b hq hbk hn=>hn ⟨i,q,hq,hbk⟩,λ_ id k b hid hv hbk ⟨i,q,hq,hqb⟩=>?_⟩,.inr rfl,λhb=>by cases hb⟩;have:=h.inj id q.1 k q.2 b hv (hren i q.1 q.2 hq) hbk hqb;exact qOt hid i q.2 (by rw[this];exact hq)
 have hxr:=qHU h hA hren hia hp hvw;have hargs:qGd w (M.inn ren A) xs' vals:=
  ⟨by rw[hxr.1];exact hsz,λj hj=>hxr.2 j _ (by rw[<-hxr.1];exact hj) (hvals j (by rw[<-hxr.1];exact hj))⟩
 have hgl:qBL K.globs w (M.inn ren A).A:=λg c hg=>(h.globR hg).move (λ_ _ _=>rfl) λb hb _=>hA.imm b hb;have hinok:InOk w (M.inn ren A) ren.length oi:=by
  refine⟨λi j k l b hi hj hbi hbj=>?_,λi k b hv hbk=>?_,λi hi=>?_,λi k o ho=>?_⟩
  ·obtain⟨_,p1,hp1,e1⟩:=SI hi;obtain⟨_,p2,hp2,e2⟩:=SI hj;rw[e1] at hbi;rw[e2] at hbj;have:=h.inj p1.1 p2.1 p1.2 p2.2 b (hren i _ _ hp1) (hren j _ _ hp2) hbi hbj;have h1:=qCL hr i p1.1 p1.2 hp1;have h2:=qCL hr j p2.1 p2.2 hp2;rw[this,h2] at h1;exact(Option.some.inj h1).symm
  ·obtain⟨_,p1,hp1,e1⟩:=SI hv;rw[e1] at hbk;exact⟨(List.getElem?_eq_some_iff.1 hp1).1,(h.rng p1.1 p1.2 b (hren i _ _ hp1) hbk).2,hA.out i p1 b hp1 hbk⟩
  ·obtain⟨k,hk⟩:=Option.ne_none_iff_exists'.1 hi;obtain⟨_,p1,hp1,_⟩:=SI hk;have:=(qDN hoi i p1.1 p1.2 hp1).1;rw[Nat.zero_add] at this;exact this
  ·obtain⟨id,k',o',_,e2,rfl,e4,e5⟩:=qGY hoi i k o ho;rw[Nat.sub_zero] at e2;exact qR0 h hA hren e5 e2 (h.objs id k' o' e4)
 refine⟨M.inn ren A,hgl,hinok,hargs,λv R w' hbel hshape hret=>?_⟩;have hob:∀i k x,look i ob=some (k,x)->R.ver i=some k:=λi k x hl=>(hret.objs i k x hl).ver;have hin0:∀i,i<ren.length->∃k x,look i ob=some (k,x):=λi hi=>by
  obtain⟨⟨k,x⟩,hx⟩:=Option.isSome_iff_exists.1 (qLP hall hi);exact⟨k,x,hx⟩
 have hout:∀i,i<m->outs.getD i 0=(ren.getD i (0,0)).2:=λi hi=>Nat.eq_of_beq_eq_true (qLP hsame hi);have hMimm:(∀y,A y->M.imm y)->∀y,R.imm y->y<w'.heap.size->(M.after R ⟨ren,outs,c⟩).imm y:=λhAi y hy _=>by
  have hm:M.A y/\(w.heap.size<=y\/M.imm y):=by
   rcases(hret.area y).1 hy.1 with h1|h1
   ·have:=hAi y h1;exact⟨this.1,.inr this⟩
   ·exact⟨(h.area y).2 (.inr (Nat.le_trans h.below.size h1)),.inl h1⟩
  refine⟨hm.1,fun⟨i,k,hv,hbk⟩=>?_⟩;simp only[Mem.after] at hv hbk;split at hv
  ·rename_i j hj;rw[hj] at hbk;obtain⟨_,k',hk'⟩:=qCS hr hj;exact hy.2 ⟨j,k',hk',hbk⟩
  ·rename_i hj;rw[hj] at hbk;rcases hm.2 with h1|h1
   ·have:=(h.rng i k y hv hbk).2;omega
   ·exact h1.2 ⟨i,k,hv,hbk⟩
 have hM:∀{q:Prop},(x.noLst=true/\jT ob->q)->q\/∀y,R.imm y->y<w'.heap.size->(M.after R ⟨ren,outs,c⟩).imm y:=fun{q} hq=>by
  rcases hb with hb|hb
  ·exact .inr (hMimm (hAimm hb))
  ·exact .inl (hq hb)
 -- which is which
 have cases_ver:∀y k,(M.after R ⟨ren,outs,c⟩).ver y=some k->(∃j k',y=Out.id ⟨ren,outs,c⟩ j/\R.ver j=some k'/\k=Out.k ⟨ren,outs,c⟩ j k'/\(M.after R ⟨ren,outs,c⟩).blk y=R.blk j)\/(M.ver y=some k/\(M.after R ⟨ren,outs,c⟩).blk y=M.blk y/\Out.back ⟨ren,outs,c⟩ R y=none):=λy k hv=>by
  cases hj:Out.back ⟨ren,outs,c⟩ R y with
  |some j=>
   left;obtain⟨h1,k',hk'⟩:=qCS hr hj;simp only[Mem.after,hj,hk',Option.map_some,Option.some.injEq] at hv⊢;exact⟨j,k',h1.symm,hk',hv.symm,rfl⟩
  |none=>
   right;simp only[Mem.after,hj] at hv;exact⟨hv,by simp only[Mem.after,hj],rfl⟩
 have idlt:∀j,j<ren.length->∃kj,ren[j]? =some (Out.id ⟨ren,outs,c⟩ j,kj)/\(j<m->outs.getD j 0=kj):=λj hj=>by
  refine⟨(ren[j]).2,?_,λhjm=>?_⟩
  ·simp[Out.id,List.getElem?_eq_getElem hj]
  ·rw[hout j hjm,List.getD_eq_getElem?_getD,List.getElem?_eq_getElem hj];rfl
 have klt:∀j k',j<ren.length->Out.k ⟨ren,outs,c⟩ j k'=outs.getD j 0:=λj k' hj=>by simp[Out.k,List.getElem?_eq_getElem hj]
 have hitR:∀j k',R.ver j=some k'->∃x,look j ob=some (k',x):=λj k' hv=>by
  obtain⟨⟨k2,x⟩,hl⟩:=Option.isSome_iff_exists.1 (hret.only j (by rw[hv];simp));have:=hob j k2 x hl;rw[hv] at this;cases this;exact⟨x,hl⟩
 have nvmem:∀j k',R.ver j=some k'->m<=j->zA (RV ⟨ren,outs,c⟩ m ob) (Out.id ⟨ren,outs,c⟩ j) (Out.k ⟨ren,outs,c⟩ j k'):=λj k' hv hm=>by
  obtain⟨x,hl⟩:=hitR j k' hv;exact List.mem_map.2 ⟨(j,(k',x)),List.mem_filter.2 ⟨look_mem hl,Nat.ble_eq_true_of_le hm⟩,rfl⟩
 have old:∀j k',R.ver j=some k'->j<m->M.ver (Out.id ⟨ren,outs,c⟩ j)=some (Out.k ⟨ren,outs,c⟩ j k')/\R.blk j=M.blk (Out.id ⟨ren,outs,c⟩ j):=λj k' hv hjm=>by
  obtain⟨kj,h1,h2⟩:=idlt j (by omega);have hv0:=hren j _ _ h1;refine⟨by rw[hv0,klt j k' (by omega),h2 hjm],?_⟩;have:=hret.fix j 0 k' hjm (CT h1).1 hv;rw[this,(CT h1).2]
 have hext:Ext M w (M.after R ⟨ren,outs,c⟩) w' (hits (QU ⟨ren,outs,c⟩ ob)) (zA (RV ⟨ren,outs,c⟩ m ob)):=by
  refine⟨λy k hv=>?_,λy k hv hw=>?_,λy k hv hn=>?_,λy k bb hn hv hbk=>?_,λi j k l bb hi hj hbi hbj=>?_,λy k bb hv hbk=>?_,λbb hlt hnw=>?_,hshape,hbel.size,rfl,hbel.os,hbel.tape,hbel.output,hbel.drawn⟩
  ·rcases cases_ver y k hv with⟨j,k',rfl,hj,rfl,_⟩|⟨hm,_⟩
   ·by_cases hjm:m<=j
    ·exact .inl (nvmem j k' hj hjm)
    ·exact .inr (old j k' hj (by omega)).1
   ·exact .inr hm
  ·cases hj:Out.back ⟨ren,outs,c⟩ R y with
   |some j=>
    exfalso;obtain⟨h1,k',hk'⟩:=qCS hr hj;refine hw ?_;have:=qE7 (o:=⟨ren,outs,c⟩) (hret.only j (by rw[hk'];simp));rw[h1] at this;exact this
   |none=>simp only[Mem.after,hj];exact hv
  ·rcases cases_ver y k hv with⟨j,k',rfl,hj,rfl,hbj⟩|⟨_,hm,_⟩
   ·by_cases hjm:m<=j
    ·exact absurd (nvmem j k' hj hjm) hn
    ·rw[hbj];exact(old j k' hj (by omega)).2
   ·exact hm
  ·rcases cases_ver y k hv with⟨j,k',rfl,hj,rfl,hbj⟩|⟨hm,hbm,_⟩
   ·rw[hbj] at hbk;rcases(hret.rng j k' bb hj hbk).1 with h1|⟨⟨k2,hk2⟩,h2⟩
    ·exact .inl h1
    ·obtain⟨_,p1,hp1,e1⟩:=SI hk2;rw[e1] at h2;have:Out.id ⟨ren,outs,c⟩ j=p1.1:=by simp[Out.id,hp1]
     rw[this];exact .inr ⟨p1.2,hren j _ _ hp1,h2⟩
   ·exact .inr ⟨k,hm,by rw[<-hbm];exact hbk⟩
  ·have mix:∀j k' bb,R.ver j=some k'->R.blk j=some bb->∀y l,M.ver y=some l->M.blk y=some bb->Out.back ⟨ren,outs,c⟩ R y=none->False:=λj k' bb hj hbj y l hv hbk hn=>by
    rcases(hret.rng j k' bb hj hbj).1 with h1|⟨⟨k2,hk2⟩,h2⟩
    ·have:=(h.rng y l bb hv hbk).2;omega
    ·obtain⟨_,p1,hp1,e1⟩:=SI hk2;rw[e1] at h2;have:=h.inj y p1.1 l p1.2 bb hv (hren j _ _ hp1) hbk h2;have hb2:=qQr (o:=⟨ren,outs,c⟩) hr hj;rw[show Out.id ⟨ren,outs,c⟩ j=y by simp[Out.id,hp1,this],hn] at hb2;cases hb2
   rcases cases_ver i k hi with⟨i',k1,rfl,hi',_,hbi'⟩|⟨hmi,hbmi,hni⟩<;>rcases cases_ver j l hj with⟨j',k2,rfl,hj',_,hbj'⟩|⟨hmj,hbmj,hnj⟩
   ·rw[hbi'] at hbi;rw[hbj'] at hbj;rw[hret.inj i' j' k1 k2 bb hi' hj' hbi hbj]
   ·rw[hbi'] at hbi;rw[hbmj] at hbj;exact(mix i' k1 bb hi' hbi j l hmj hbj hnj).elim
   ·rw[hbmi] at hbi;rw[hbj'] at hbj;exact(mix j' k2 bb hj' hbj i k hmi hbi hni).elim
   ·rw[hbmi] at hbi;rw[hbmj] at hbj;exact h.inj i j k l bb hmi hmj hbi hbj
  ·rcases cases_ver y k hv with⟨j,k',rfl,hj,_,hbj⟩|⟨hm,hbm,_⟩
   ·rw[hbj] at hbk;exact(hret.rng j k' bb hj hbk).2
   ·rw[hbm] at hbk;exact Nat.lt_of_lt_of_le (h.rng y k bb hm hbk).2 hbel.size
  ·refine hbel.block bb hlt fun⟨i,k,hv,hbk⟩=>?_;obtain⟨_,p1,hp1,e1⟩:=SI hv;rw[e1] at hbk;have hi:i<ren.length:=(List.getElem?_eq_some_iff.1 hp1).1;obtain⟨k2,x2,hx2⟩:=hin0 i hi;have hh:=qE7 (o:=⟨ren,outs,c⟩) (show hits ob i by unfold hits;rw[hx2];rfl);rw[show Out.id ⟨ren,outs,c⟩ i=p1.1 by simp[Out.id,hp1]] at hh;exact hnw p1.1 p1.2 hh (hren i _ _ hp1) hbk
 refine⟨M.after R ⟨ren,outs,c⟩,hext,qS5 hr hob (hM λhh=>hh.1) hcl hret.val,λy k q hl=>?_,λy hy=>?_⟩
 ·obtain⟨j,k',x',e1,rfl,e3⟩:=qJD hl;cases e3;exact qSO hr hob (hM λhh=>hh.2 _ _ _ e1) (List.all_eq_true.1 hcl2 _ (look_mem e1)) (hret.objs j k' x' e1)
 ·cases hj:Out.back ⟨ren,outs,c⟩ R y with
  |some j=>
   right;obtain⟨h1,k',hk'⟩:=qCS hr hj;have:=qE7 (o:=⟨ren,outs,c⟩) (hret.only j (by rw[hk'];simp));rw[h1] at this;exact this
  |none=>
   left;simpa only[Mem.after,hj] using hy
theorem qIp {w:World} {M:Mem} {ys:List V1} {caps0:List C} {l:List Value} {cap:Array Value} (hyl:l.length=ys.length) (hyr:∀j,j<ys.length->qU w M (ys.getD j (.one .unk)) (l.getD j undef)) (hcr:∀j,j<caps0.length->yA w M (caps0.getD j .unk) (cap.getD j undef)):
  ∀j,j<(ys++caps0.map V1.one).length->qU w M ((ys++caps0.map V1.one).getD j (.one .unk)) ((l.toArray++cap).getD j undef):=λj hj=>by
 by_cases hj1:j<ys.length
 ·have h1:=hyr j hj1;have e1:(ys++caps0.map V1.one).getD j (.one .unk)=ys.getD j (.one .unk):=by simp[List.getD_eq_getElem?_getD,List.getElem?_append_left hj1]
  have e2:(l.toArray++cap).getD j undef=l.getD j undef:=by
   simp only[Array.getD_eq_getD_getElem?,List.getD_eq_getElem?_getD];rw[Array.getElem?_append_left (by simp;omega)];simp
  rw[e1,e2];exact h1
 ·have hj2:j-ys.length<caps0.length:=by simp at hj;omega
  have h1:=hcr (j-ys.length) hj2;have e1:(ys++caps0.map V1.one).getD j (.one .unk)= .one (caps0.getD (j-ys.length) .unk):=by
   simp only[List.getD_eq_getElem?_getD];rw[List.getElem?_append_right (by omega),List.getElem?_map,List.getElem?_eq_getElem hj2];rfl
  have e2:(l.toArray++cap).getD j undef=cap.getD (j-ys.length) undef:=by
   simp only[Array.getD_eq_getD_getElem?];rw[Array.getElem?_append_right (by simp;omega)];simp[hyl]
  rw[e1,e2];show CRep w M _ _;generalize caps0.getD (j-ys.length) .unk=cc at h1;generalize cap.getD (j-ys.length) undef=vv at h1;cases cc with
  |bptr id k l=>exact h1
  |own id k sz len=>cases h1
  |sub id k sz off len=>cases h1
  |rptr id k sz i j=>cases h1
  |fn g caps=>cases h1
  |yl R b ts caps=>cases h1
  |unk=>cases h1
  |val v=>exact h1
  |emp=>exact h1
  |lst n f=>exact h1
  |lptr cs=>exact h1
  |aptr n sz f=>exact h1
theorem qFB {o:Op} {q:Operand×List Operand} (h:AW o=some q):IL o=true:=by
 unfold AW at h;split at h
 ·rfl
 ·cases h
theorem qQQ {K:Ctx} {st:St} {op:Oper} {f:FuncId} {ren:List (Nat×Nat)} {outs:List Nat} {c m:Nat} {xs' xs:List V1} {p:Option Prop} {b:Bool} {oi:List (Nat×(Nat×O))} {x:V} {ob:List (Nat×(Nat×O))}
  (hin:qEP K.globs st ren op.op=some (f,xs',p,b,oi)) (hp:oP p) (hxs:xs'=xs) (hct:CtX K.P K.globs f ren.length m xs oi x ob) (hfn:fnOk K.P f=true)
  (hok:(Out.ok ⟨ren,outs,c⟩ m ob&&(x.closed ob&&ob.all (λq=>q.2.2.closed ob)))=true) (hb:b=true\/(x.noLst=true/\jT ob)):
  Step K st op (RV ⟨ren,outs,c⟩ m ob) (QU ⟨ren,outs,c⟩ ob) (x.out ⟨ren,outs,c⟩):=by
 subst hxs;obtain⟨fo,args,caps0,ys,hco,hfo,hys,hoi,hia⟩:=qPt hin;refine ZO (qFB hco) ?_;intro M a w h _;obtain⟨cap,hcv,hcs,hcr⟩:=op1_rep h hfo;obtain⟨hyl,hyr⟩:=FD h hys;obtain⟨Mi,hgl,hinok,hargs,hfin⟩:=qG0 (c:=c) h hoi hia hp (vals:=(args.map a.eval).toArray++cap) (by simp[hyl,hcs]) (qIp (by simp[hyl]) hyr hcr) hok hb;obtain⟨fn,hff,hfn⟩:∃fn,K.P.funcs[f]? =some fn∧(fn.body.isSome&&!(fn.name== "runtime.NumGoroutine"))=true:=by
  unfold fnOk at hfn;split at hfn
  ·rename_i fn hff;exact⟨fn,hff,hfn⟩
  ·cases hfn
 rw[Bool.and_eq_true] at hfn;refine wp_call hco hcv hff hfn.1 (by simpa using hfn.2) (Calls.mono (hct w Mi _ hgl hinok hargs) ?_);rintro e w' ⟨v,R,rfl,hbel,hshape,hret⟩;obtain⟨M',h1,h2,h3,h4⟩:=hfin v R w' hbel hshape hret;exact⟨v,rfl,v,M',rfl,h1,h2,h3,h4⟩
end Go.SL

namespace Go.SL
open Go.RowKit
def sub (c:Code) (i:Nat):Code:=
 match c with
 | .seq a b=>bif Nat.beq i 0 then a else b
 | .cond _ a b=>bif Nat.beq i 0 then a else b
 | .block _ b=>b
 | .loop b=>b
 | .scope b=>b
 | .rangeFunc _ _ a b=>bif Nat.beq i 0 then a else b
 |_=> .skip
def opsOf :Code->Array Oper
 | .region _ ops _=>ops
 |_=> #[]
def qR8 (fn:Func):Code:=match fn.body with|some c=>c|none=> .skip
def ndF (fn:Func):Nat->Nat->Code
 |0,_=>qR8 fn
 |k+1,n=>bif Nat.ble n 1 then qR8 fn else sub (ndF fn k (n/2)) (n % 2)
def nd (fn:Func) (n:Nat):Code:=ndF fn 400 n
def rg (fn:Func) (n:Nat):Array Oper:=opsOf (nd fn n)
section
variable {K :Ctx} {st:St} {Q:Exit->St->Prop}
theorem R_seq {c:Code} (x y:Code) (hc:c= .seq x y) (h:H K st x (qBw Q λst'=>H K st' y Q)):H K st c Q:=hc▸H_seq h
theorem R_cond {c:Code} (o:Operand) (x y:Code) (hc:c= .cond o x y) (b:Bool) (ho:opB st o=some b) (ht:b=true->H K st x Q) (hf:b=false->H K st y Q):H K st c Q:=hc▸qOO b ho ht hf
theorem R_condT {c:Code} (o:Operand) (x y:Code) (hc:c= .cond o x y) (ho:opB st o=some true) (ht:H K st x Q):H K st c Q:=hc▸qOO true ho (λ_=>ht) (λh=>by cases h)
theorem R_condF {c:Code} (o:Operand) (x y:Code) (hc:c= .cond o x y) (ho:opB st o=some false) (hf:H K st y Q):H K st c Q:=hc▸qOO false ho (λh=>by cases h) (λ_=>hf)
theorem R_block {c:Code} (id:Nat) (x:Code) (hc:c= .block id x) (h:H K st x (qB6 id Q)):H K st c Q:=hc▸qLw h
theorem qRX {c:Code} (hc:c= .skip) (h:Q .normal st):H K st c Q:=hc▸H_skip h
theorem R_ret {c:Code} (hc:c= .ret) (h:Q .ret st):H K st c Q:=hc▸H_ret h
theorem R_exit {c:Code} (id:Nat) (hc:c= .exit id) (h:Q (.exit id) st):H K st c Q:=hc▸H_exit h
theorem R_sq {c:Code} (fn:Func) (a b:Nat) (hc:c= .seq (nd fn a) (nd fn b)) (h:H K st (nd fn a) (qBw Q λst'=>H K st' (nd fn b) Q)):H K st c Q:=R_seq _ _ hc h
theorem R_cn {c:Code} (fn:Func) (o:Operand) (a b:Nat) (hc:c= .cond o (nd fn a) (nd fn b)) (x:Bool) (ho:opB st o=some x) (ht:x=true->H K st (nd fn a) Q) (hf:x=false->H K st (nd fn b) Q):H K st c Q:=R_cond o _ _ hc x ho ht hf
theorem qNb {c:Code} (fn:Func) (o:Operand) (a b:Nat) (hc:c= .cond o (nd fn a) (nd fn b)) (ho:opB st o=some true) (ht:H K st (nd fn a) Q):H K st c Q:=R_condT o _ _ hc ho ht
theorem R_cnF {c:Code} (fn:Func) (o:Operand) (a b:Nat) (hc:c= .cond o (nd fn a) (nd fn b)) (ho:opB st o=some false) (hf:H K st (nd fn b) Q):H K st c Q:=R_condF o _ _ hc ho hf
theorem R_bk {c:Code} (fn:Func) (id a:Nat) (hc:c= .block id (nd fn a)) (h:H K st (nd fn a) (qB6 id Q)):H K st c Q:=R_block id _ hc h
end
theorem bif_t {α:Type} {c:Bool} {A B:Option α} {r:α} (hc:c=true) (h:(bif c then A else B)=some r):A=some r:=by rw[hc] at h;exact h
theorem bif_f {α:Type} {c:Bool} {A B:Option α} {r:α} (hc:c=false) (h:(bif c then A else B)=some r):B=some r:=by rw[hc] at h;exact h
def rowf {α:Type} (enc:α->List C) (d:α) (l:List α) (i:Nat):List C:=enc (l.getD i d)
end Go.SL

namespace Go.SL
open Go.RowKit
section
variable {K :Ctx} {st:St} {Q:Exit->St->Prop}
theorem R_join {c:Code} (x y:Code) (hc:c= .seq x y) {ι:Type} (S:ι->St) (J:ι->Prop) (hk:∀i,J i->H K (S i) y Q) (h:H K st x (qBw Q λst'=>∃i,J i/\Sub (S i) st'.rev)):H K st c Q:=by
 refine R_seq x y hc (H_mono h ?_);intro e st' hq;cases e with
 |normal=>obtain⟨i,hj,hs⟩:=hq;exact H_sub (S i) hs (hk i hj)
 |_=>exact hq
def wP {ω ρ:Type} (b:Nat) (S:ω->St) (R:ρ->St->Prop) (res:ρ⊕ω):Exit->St->Prop
 | .exit id,st=>Nat.beq id b=true/\∃o,res= .inr o/\Sub (S o) st.rev
 | .ret,st=>∃v,res= .inl v/\R v st
 |_,_=>False
def zR {ω:Type} (b:Nat) (S:ω->St) (res:ω):Exit->St->Prop
 | .exit id,st=>Nat.beq id b=true/\Sub (S res) st.rev
 |_,_=>False
theorem qQx {c:Code} {Q':Exit->St->Prop} {n:Nat} (h:HL K c Q n st) (hq:∀e st,Q e st->Q' e st):HL K c Q' n st:=by
 induction n generalizing st with
 |zero=>exact λM a w hs=>h M a w hs
 |succ n ih=>
  intro M a w hs;have:=h M a w hs;rw[roundsIn_succ] at this⊢;refine wpIn_mono this ?_;intro e a' w' hq';cases e with
  |normal=>
   have mono:∀n a w,Code.roundsIn K.F 0 K.P c (Post K Q) n a w->Code.roundsIn K.F 0 K.P c (Post K Q') n a w:=by
    intro n
    induction n with
    |zero=>intro a w h;exact h
    |succ n ihn=>
     intro a w h;rw[roundsIn_succ] at h⊢;refine wpIn_mono h ?_;intro e a' w' hx;cases e with
     |normal=>exact ihn _ _ hx
     |_=>exact Post.mono hq hx
   exact mono n _ _ hq'
  |_=>exact Post.mono hq hq'
theorem qRU {c:Code} {Q':Exit->St->Prop} (h:H K st c Q) (hq:∀e st,Q e st->Q' e st\/∃st',Q' e st'/\Sub st' st.rev):H K st c Q':=by
 intro M a w hs;refine wpIn_mono (h M a w hs) ?_;rintro e a' w' ⟨M',st',hq',hs'⟩;rcases hq e st' hq' with h1|⟨st2,h1,h2⟩
 ·exact⟨M',st',h1,hs'⟩
 ·exact⟨_,st2,h1,hs'.rev.sub h2⟩
theorem zL {c:Code} (x:Code) (b:Nat) (hc:c= .block b (.loop x)) (n:Nat) {ω:Type} (S:ω->St) (res:ω) (hl:HL K x (zR b S res) n st) (hk:Q .normal (S res)):H K st c Q:=by
 subst hc;have h1:H K st (.block b (.loop x)) (λe st'=>match e with| .normal=>Sub (S res) st'.rev|_=>False):=by
  refine qLw (qSs n (qQx hl ?_));intro e st' hq;cases e with
  |exit id=>
   obtain⟨hb,hs⟩:=hq;simp only[qB6,hb,cond_true];exact hs
  |_=>exact hq.elim
 refine qRU h1 ?_;intro e st' hq;cases e with
 |normal=>exact .inr ⟨S res,hk,hq⟩
 |_=>exact hq.elim
theorem zO {c:Code} (x:Code) (b:Nat) (hc:c= .block b (.loop x)) (n:Nat) {ω ρ:Type} (S:ω->St) (R:ρ->St->Prop) (res:ρ⊕ω) (hl:HL K x (wP b S R res) n st)
  (hr:∀v,res= .inl v->∀st',R v st'->Q .ret st') (hk:∀o,res= .inr o->Q .normal (S o)):H K st c Q:=by
 subst hc;have h1:H K st (.block b (.loop x)) (λe st'=>match e with| .normal=>∃o,res= .inr o/\Sub (S o) st'.rev| .ret=>Q .ret st'|_=>False):=by
  refine qLw (qSs n (qQx hl ?_));intro e st' hq;cases e with
  |exit id=>
   obtain⟨hb,o,ho,hs⟩:=hq;simp only[qB6,hb,cond_true];exact⟨o,ho,hs⟩
  |ret=>
   obtain⟨v,hv,hr'⟩:=hq;exact hr v hv st' hr'
  |normal=>exact hq.elim
  |goto l=>exact hq.elim
  |panic c=>exact hq.elim
  |outgrown=>exact hq.elim
 refine qRU h1 ?_;intro e st' hq;cases e with
 |normal=>obtain⟨o,ho,hs⟩:=hq;exact .inr ⟨S o,hk o ho,hs⟩
 |ret=>exact .inl hq
 |exit id=>exact hq.elim
 |goto l=>exact hq.elim
 |panic c=>exact hq.elim
 |outgrown=>exact hq.elim
end
theorem Ext.intro {K:Ctx} {M:Mem} {st:St} {a:Act} {w:World} (h:Sim K M st a w) (id k:Nat) (o:O):Ext M w (M.put id k none) w (hits [(id,(k,o))]) (zA [(id,k)]):=
 Ext.put h (λb' hb=>by cases hb) (λ_ _ _=>rfl) (λc arr e hc=>⟨arr,hc,rfl⟩) (Nat.le_refl _) rfl rfl rfl
theorem Sim1.own {K:Ctx} {M:Mem} {st:St} {a:Act} {w:World} (h:Sim1 K M st a w) (s id e sz:Nat) (f:Nat->List C) (hs:look s st.slots=some (.v (.one .emp))) (hf:st.freeB [(id,0)]=true) (hfx:Nat.ble K.m id=true) (hlt:Nat.blt s K.nt=true):
  Sim1 K (M.put id 0 none) (st.app (some s) (.v (.one (.own id 0 sz 0))) [(id,(0,.row e sz 0 f))]) a w:=by
 have he:=Ext.intro h.1 id 0 (.row e sz 0 f);have hv:=h.1.slots s _ hs;have hlt':s<a.tmps.size:=by rw[h.1.size];simpa[Nat.blt_eq] using hlt
 have hput:a.put (some s) (a.tmps.getD s undef)=a:=by
  have:a.tmps.setIfInBounds s (a.tmps.getD s undef)=a.tmps:=by
   apply Array.ext
   ·simp
   ·intro i h1 h2;rw[Array.getElem_setIfInBounds];split
    ·rename_i hsi;subst hsi;simp
    ·rfl
  simp only[Act.put,this]
 have:=h.step (dst:=some s) (nv:=[(id,0)]) (ob:=[(id,(0,.row e sz 0 f))]) (x:= .v (.one (.own id 0 sz 0))) (v:=a.tmps.getD s undef) he ?_ ?_ GR (by simp[nvOk,look]) (St.free_of hf) (by simp[PV,hfx]) ?_
 ·rw[hput] at this;exact this
 ·have hv':IRep w M.imm .emp (a.tmps.getD s undef):=hv;generalize a.tmps.getD s undef=u at hv';cases hv' with
  |emp b=>exact .inl ⟨rfl,b,rfl⟩
 ·intro i k o hl;obtain⟨rfl,rfl,rfl⟩:=yQ hl;exact⟨by simp[Mem.put],.inl ⟨by simp[Mem.put],rfl⟩⟩
 ·intro d hd;cases hd;simpa[Nat.blt_eq] using hlt
theorem Sim1.ownB {K:Ctx} {M:Mem} {st:St} {a:Act} {w:World} (h:Sim1 K M st a w) (bx kb eb j id e sz:Nat) (cs:List C) (f:Nat->List C) (hs:look bx st.objs=some (kb,.box eb cs)) (hj:cs[j]? =some .emp) (hf:st.freeB [(id,0)]=true) (hfx:Nat.ble K.m id=true) (hne:Nat.beq bx id=false):
  Sim1 K (M.put id 0 none) (st.app none .any [(bx,(kb,.box eb (cs.set j (.own id 0 sz 0)))),(id,(0,.row e sz 0 f))]) a w:=by
 have hne':bx≠id:=λh=>by rw[h,Nat.beq_refl] at hne;cases hne
 obtain⟨hver,b,arr,hb,hh,hc⟩:=h.1.objs bx kb _ hs;have he1:=Ext.intro h.1 id 0 (.row e sz 0 f);have he:Ext M w (M.put id 0 none) w (hits [(bx,(kb,.box eb (cs.set j (.own id 0 sz 0)))),(id,(0,.row e sz 0 f))]) (zA [(id,0)]):=
  ⟨he1.ver,λi k hv hw=>he1.keep i k hv λhh=>hw (by
    have:=hits_one.1 hh;unfold hits;rw[look_cons];split
    ·rfl
    ·rw[look_cons,if_pos this.symm];rfl),he1.blk,he1.fresh,he1.inj,he1.rng,λ_ _ _=>rfl,he1.shape,he1.size,he1.area,he1.os,he1.tape,he1.output,he1.drawn⟩
 have hfree:=St.free_of hf;refine h.step (dst:=none) (nv:=[(id,0)]) (ob:=[(bx,(kb,.box eb (cs.set j (.own id 0 sz 0)))),(id,(0,.row e sz 0 f))]) (x:= .any) (v:=undef) he trivial ?_ ?_ ?_ hfree (by simp[PV,hfx]) (λd hd=>by cases hd)
 ·intro i k o ho;rw[look_cons] at ho;split at ho
  ·rename_i hi;cases ho;subst hi;refine⟨by simp only[Mem.put,hne',if_false];exact hver,b,arr,by simp only[Mem.put,hne',if_false];exact hb,hh,by simpa using hc.1,λl hl=>?_⟩;have hl':l<cs.length:=by simpa using hl
   by_cases hlj:l=j
   ·subst hlj;have h1:=hc.2 l hl';have h2:cs.getD l .unk= .emp:=by rw[List.getD_eq_getElem?_getD,hj];rfl
    rw[h2] at h1;rw[List.getD_eq_getElem?_getD,List.getElem?_set_self hl',Option.getD_some];generalize arr.getD l undef=u at h1;cases h1 with
    |emp q=>exact .inl ⟨rfl,q,rfl⟩
   ·have h1:=hc.2 l hl';have hcf:(cs.getD l .unk).free (zA [(id,0)]):=hfree.2 bx kb _ hs _ (yP hl');rw[List.getD_eq_getElem?_getD,List.getElem?_set_ne (Ne.symm hlj),<-List.getD_eq_getElem?_getD];exact he.crep hcf h1
  ·obtain⟨rfl,rfl,rfl⟩:=yQ ho;exact⟨by simp[Mem.put],.inl ⟨by simp[Mem.put],rfl⟩⟩
 ·intro i hi;by_cases h':i=id
  ·right;unfold hits;rw[look_cons];split
   ·rfl
   ·rw[look_cons,if_pos h'.symm];rfl
  ·exact .inl (by simpa[Mem.put,h'] using hi)
 ·simp only[nvOk,List.all_cons,List.all_nil,Bool.and_true,look_cons];rw[if_neg hne'];simp
theorem Sim1.respell {K:Ctx} {M:Mem} {st:St} {a:Act} {w:World} (h:Sim1 K M st a w) (id k e sz n n':Nat) (f f':Nat->List C) (hl:look id st.objs=some (k,.row e sz n f)) (hn':n'<=n) (hf:∀i,i<n'->f' i=f i):
  Sim1 K M (st.app none .any [(id,(k,.row e sz n' f'))]) a w:=by
 have he:Ext M w M w (hits [(id,(k,.row e sz n' f'))]) (zA []):=
  ⟨λ_ _ h=> .inr h,λ_ _ h _=>h,λ_ _ _ _=>rfl,λ_ _ _ h=>(by cases h),h.1.inj,λi k b h1 h2=>(h.1.rng i k b h1 h2).2,λ_ _ _=>rfl,λb arr e h=>⟨arr,h,rfl⟩,Nat.le_refl _,rfl,rfl,rfl,rfl,Nat.le_refl _⟩
 refine h.step (dst:=none) (nv:=[]) (ob:=[(id,(k,.row e sz n' f'))]) (x:= .any) (v:=undef) he trivial ?_ (λi hi=> .inl hi) rfl (qEo st) rfl (λd hd=>by cases hd);intro i k' o ho;obtain⟨rfl,rfl,rfl⟩:=yQ ho;obtain⟨hver,hr⟩:=h.1.objs _ _ _ hl;refine⟨hver,?_⟩;rcases hr with⟨h0,h1⟩|⟨b,arr,hb,hh,hn,hc⟩
 ·exact .inl ⟨h0,by omega⟩
 ·exact .inr ⟨b,arr,hb,hh,Nat.le_trans (Nat.mul_le_mul_right _ hn') hn,λi hi=>by rw[hf i hi];exact hc i (by omega)⟩
def swp (i j x:Nat):Nat:=bif Nat.beq x i then j else bif Nat.beq x j then i else x
theorem beq_dec (a b:Nat):Nat.beq a b=decide (a=b):=by
 by_cases h:a=b
 ·subst h;simp
 ·simp only[h,decide_false];cases hb:Nat.beq a b with|false=>rfl|true=>exact absurd (Nat.eq_of_beq_eq_true hb) h
theorem qOC (i j x:Nat):swp i j x=if x=i then j else if x=j then i else x:=by
 simp only[swp,beq_dec,Bool.cond_decide]
theorem yK (i j x:Nat):swp i j (swp i j x)=x:=by
 simp only[qOC];by_cases h1:x=i
 ·subst h1;simp only[if_true];by_cases h3:j=x
  ·rw[if_pos h3];exact h3
  ·rw[if_neg h3]
 ·simp only[h1,if_false];by_cases h2:x=j
  ·subst h2;simp
  ·simp only[h2,if_false,h1]
def qO9 (i j:Nat):C->C
 | .bptr id k l=> .bptr (SL.swp i j id) k l
 |c=>c
def C.swp (i j:Nat):C->C
 | .fn g caps=> .fn g (caps.map (qO9 i j))
 | .yl R b ts caps=> .yl R b ts (caps.map (qO9 i j))
 | .sub id k sz off len=> .sub (SL.swp i j id) k sz off len
 | .own id k sz len=> .own (SL.swp i j id) k sz len
 | .bptr id k l=> .bptr (SL.swp i j id) k l
 | .rptr id k sz m l=> .rptr (SL.swp i j id) k sz m l
 |c=>c
def V1.swp (i j:Nat):V1->V1
 | .one c=> .one (c.swp i j)
 | .agg cs=> .agg (cs.map (C.swp i j))
def V.swp (i j:Nat):V->V
 | .v x=> .v (x.swp i j)
 | .tup xs=> .tup (xs.map (V1.swp i j))
 |x=>x
def O.swp (i j:Nat):O->O
 | .box e cs=> .box e (cs.map (C.swp i j))
 |o=>o
def St.swp (i j:Nat) (st:St):St:={slots:=st.slots.map λp=>(p.1,p.2.swp i j),objs:=st.objs.map λp=>(SL.swp i j p.1,(p.2.1,p.2.2.swp i j))}
def Mem.swp (i j:Nat) (M:Mem):Mem:={ver:=λx=>M.ver (SL.swp i j x),blk:=λx=>M.blk (SL.swp i j x),A:=M.A}
section
variable {M :Mem} {w:World} {i j:Nat}
theorem swp_imm {b:Nat}:(M.swp i j).imm b↔M.imm b:=by
 refine⟨λh=>⟨h.1,fun⟨x,k,hv,hb⟩=>h.2 ⟨SL.swp i j x,k,?_,?_⟩⟩,λh=>⟨h.1,fun⟨x,k,hv,hb⟩=>h.2 ⟨SL.swp i j x,k,hv,hb⟩⟩⟩
 ·simp only[Mem.swp,yK];exact hv
 ·simp only[Mem.swp,yK];exact hb
theorem HU {c:C} {v:Value} (h:IRep w M.imm c v):IRep w (M.swp i j).imm c v:=h.move (λ_ _ _=>rfl) λ_ hb _=>swp_imm.2 hb
theorem qP7 {c:C} {v:Value} (h:yA w M c v):yA w (M.swp i j) (qO9 i j c) v:=by
 cases c with
 |bptr id k l=>obtain⟨b,h1,hx⟩:=h;exact⟨b,h1,λhv=>by simp only[Mem.swp,yK] at hv⊢;exact hx hv⟩
 |_=>exact HU h
theorem qNW {c:C} {v:Value} (h:CRep w M c v):CRep w (M.swp i j) (c.swp i j) v:=by
 cases c with
 |own id k sz len=>
  rcases h with h0|⟨b,cap,h1,h2,h3,hx⟩
  ·exact .inl h0
  ·exact .inr ⟨b,cap,h1,h2,h3,λhv=>by simp only[Mem.swp,yK] at hv⊢;exact hx hv⟩
 |sub id k sz off len=>
  rcases h with h0|⟨b,cap,h1,h2,h3,hx⟩
  ·exact .inl h0
  ·exact .inr ⟨b,cap,h1,h2,h3,λhv=>by simp only[Mem.swp,yK] at hv⊢;exact hx hv⟩
 |fn g caps=>
  obtain⟨vs,hv,hs,hx⟩:=h;refine⟨vs,hv,by simpa using hs,λl hl=>?_⟩;have hl':l<caps.length:=by simpa using hl
  have:=qP7 (i:=i) (j:=j) (hx l hl');simpa only[List.getD_eq_getElem?_getD,List.getElem?_map,List.getElem?_eq_getElem hl',Option.map_some,Option.getD_some] using this
 |yl R b ts caps=>
  refine⟨h.1,λl hl=>?_⟩;have hl':l<caps.length:=by simpa using hl
  have:=qP7 (i:=i) (j:=j) (h.2 l hl');simpa only[List.getD_eq_getElem?_getD,List.getElem?_map,List.getElem?_eq_getElem hl',Option.map_some,Option.getD_some] using this
 |bptr id k l=>obtain⟨b,h1,hx⟩:=h;exact⟨b,h1,λhv=>by simp only[Mem.swp,yK] at hv⊢;exact hx hv⟩
 |rptr id k sz m l=>obtain⟨b,h1,hx⟩:=h;exact⟨b,h1,λhv=>by simp only[Mem.swp,yK] at hv⊢;exact hx hv⟩
 |unk=>exact h
 |val v=>exact HU h
 |emp=>exact HU h
 |lst n f=>exact HU h
 |lptr cs=>exact HU h
 |aptr n sz f=>exact HU h
theorem qMk {cs:List C} {vs:Array Value} (h:jI w M cs vs):jI w (M.swp i j) (cs.map (C.swp i j)) vs:=by
 refine⟨by simpa using h.1,λl hl=>?_⟩;have hl':l<cs.length:=by simpa using hl
 have:=qNW (i:=i) (j:=j) (h.2 l hl');simpa only[List.getD_eq_getElem?_getD,List.getElem?_map,List.getElem?_eq_getElem hl',Option.map_some,Option.getD_some] using this
theorem qL3 {x:V1} {v:Value} (h:qU w M x v):qU w (M.swp i j) (x.swp i j) v:=by
 cases x with
 |one c=>exact qNW h
 |agg cs=>obtain⟨vs,hv,hr⟩:=h;exact⟨vs,hv,qMk hr⟩
theorem qTD {x:V} {v:Value} (h:VRep w M x v):VRep w (M.swp i j) (x.swp i j) v:=by
 cases x with
 |any=>trivial
 |undef=>exact h
 |v x=>exact qL3 h
 |tup xs=>
  obtain⟨vs,hv,hl,hr⟩:=h;refine⟨vs,hv,by simpa using hl,λl hl=>?_⟩;have hl':l<xs.length:=by simpa using hl
  have:=qL3 (i:=i) (j:=j) (hr l hl');simpa only[List.getD_eq_getElem?_getD,List.getElem?_map,List.getElem?_eq_getElem hl',Option.map_some,Option.getD_some] using this
theorem qSJ {id k:Nat} {o:O} (h:ORep w M id k o):ORep w (M.swp i j) (SL.swp i j id) k (o.swp i j):=by
 cases o with
 |box e cs=>
  obtain⟨hv,b,arr,hb,hh,hr⟩:=h;exact⟨by simp only[Mem.swp,yK];exact hv,b,arr,by simp only[Mem.swp,yK];exact hb,hh,qMk hr⟩
 |row e sz n f=>
  obtain⟨hv,hr⟩:=h;refine⟨by simp only[Mem.swp,yK];exact hv,?_⟩;rcases hr with⟨h0,h1⟩|⟨b,arr,hb,hh,hn,hc⟩
  ·exact .inl ⟨by simp only[Mem.swp,yK];exact h0,h1⟩
  ·exact .inr ⟨b,arr,by simp only[Mem.swp,yK];exact hb,hh,hn,λm hm=>⟨(hc m hm).1,λq hq=>HU ((hc m hm).2 q hq)⟩⟩
 |lp R b s q=>exact⟨by simp only[Mem.swp,yK];exact h.1,by simp only[Mem.swp,yK];exact h.2.1,h.2.2⟩
end
theorem qOP {β γ:Type} (f:β->γ) (i j s:Nat) (l:List (Nat×β)):look s (l.map λp=>(swp i j p.1,f p.2))=(look (swp i j s) l).map f:=by
 induction l with
 |nil=>rfl
 |cons p l ih=>
  obtain⟨k,x⟩:=p;simp only[List.map_cons,look_cons,ih];by_cases h:swp i j k=s
  ·have:k=swp i j s:=by rw[<-h,yK]
   rw[if_pos h,if_pos this];rfl
  ·have:¬k=swp i j s:=λe=>h (by rw[e,yK]);rw[if_neg h,if_neg this]
theorem swp_lt {n i j x:Nat} (hi:n<=i) (hj:n<=j) (hx:swp i j x<n):swp i j x=x:=by
 simp only[qOC] at hx⊢;split at hx
 ·omega
 ·rename_i h1;rw[if_neg h1];split at hx
  ·omega
  ·rename_i h2;rw[if_neg h2]
theorem swp_lt' {n i j x:Nat} (hi:n<=i) (hj:n<=j) (hx:x<n):swp i j x=x:=by
 simp only[qOC];rw[if_neg (by omega),if_neg (by omega)]
theorem Sim1.swap {K:Ctx} {M:Mem} {st:St} {a:Act} {w:World} (h:Sim1 K M st a w) (i j:Nat) (hi:max K.n K.m<=i) (hj:max K.n K.m<=j):Sim1 K (M.swp i j) (st.swp i j) a w:=by
 have hs:=h.1;have hi1:K.n<=i:=by omega
 have hj1:K.n<=j:=by omega
 refine⟨⟨λx y k l b hx hy hbx hby=>?_,λx k b hv hb=>⟨(hs.rng _ k b hv hb).1.imp id λhI=>(by have:=swp_lt hi1 hj1 (K.hIn _ b hI).1;rw[this] at hI;exact hI),(hs.rng _ k b hv hb).2⟩,λx k hx hv=>(by have e:swp i j x=x:=swp_lt' (n:=K.m) (by omega) (by omega) hx;simp only[Mem.swp,e] at hv⊢;exact hs.fix x k hx hv),hs.below,hs.shape,hs.area,hs.size,hs.defers.less λD ⟨x,k,hv,hb⟩=>⟨swp i j x,k,hv,hb⟩,λs x hx=>?_,λx k o ho=>?_⟩,λx hx=>?_⟩
 ·have:=hs.inj _ _ k l b hx hy hbx hby;have h2:=congrArg (swp i j) this
  rwa [yK,yK] at h2
 ·have:look s (st.slots.map λp=>(p.1,p.2.swp i j))=some x:=hx;rw[qFb (V.swp i j),Option.map_eq_some_iff] at this;obtain⟨y,hy,rfl⟩:=this;exact qTD (hs.slots s y hy)
 ·have:look x (st.objs.map λp=>(swp i j p.1,(p.2.1,p.2.2.swp i j)))=some (k,o):=ho;rw[qOP (λq:Nat×O=>(q.1,q.2.swp i j)),Option.map_eq_some_iff] at this;obtain⟨⟨k',o'⟩,hy,he⟩:=this;cases he;have:=qSJ (i:=i) (j:=j) (hs.objs _ k' o' hy)
  rwa [yK] at this
 ·have:=h.2 (swp i j x) hx;unfold hits at this⊢;show(look x (st.objs.map λp=>(swp i j p.1,(p.2.1,p.2.2.swp i j)))).isSome=true;rw[qOP (λq:Nat×O=>(q.1,q.2.swp i j)),Option.isSome_map];exact this
theorem qV {K:Ctx} {st:St} {c:Code} {Q:Exit->St->Prop} (i j:Nat) (hij:(Nat.ble K.n i&&(Nat.ble K.m i&&(Nat.ble K.n j&&Nat.ble K.m j)))=true) (h:H K (st.swp i j) c Q):H K st c Q:=by
 simp only[Bool.and_eq_true,Nat.ble_eq] at hij;exact λ_ a w hsim=>h _ a w (hsim.swap i j (by omega) (by omega))
def inb (i:Int) (n:Nat):Bool:=decide (0<=i/\i<(n:Int))
def nz (b:Int):Bool:=decide (b≠0)
def room (n bytes:Nat):Bool:=decide (n*bytes<=140737488355328)
def mkOk (z:Int) (bytes:Nat):Bool:=decide (0<=z/\(bytes:Int)*z<=140737488355328/\z<=9223372036854775807)
def slOk (lo hi:Int) (n:Nat):Bool:=decide (0<=lo/\lo<=hi/\hi<=(n:Int))
theorem qI {α:Type} {c:Bool} {A:Option α} {r:α} (h:(bif c then A else none)=some r):c=true/\A=some r:=by
 cases c
 ·cases h
 ·exact⟨rfl,h⟩
theorem inb_of {i:Int} {n:Nat} (h:inb i n=true):0<=i/\i<(n:Int):=of_decide_eq_true h
theorem OZ {b:Int} (h:nz b=true):b≠0:=of_decide_eq_true h
theorem zG {n b:Nat} (h:room n b=true):n*b<=140737488355328:=of_decide_eq_true h
theorem qHh {z:Int} {b:Nat} (h:mkOk z b=true):0<=z/\(b:Int)*z<=140737488355328/\z<=9223372036854775807:=of_decide_eq_true h
theorem slOk_of {lo hi:Int} {n:Nat} (h:slOk lo hi n=true):0<=lo/\lo<=hi/\hi<=(n:Int):=of_decide_eq_true h
theorem qA {α β:Type} {x:Option α} {f:α->Option β} {r:β} (h:x.bind f=some r):∃a,x=some a/\f a=some r:=Option.bind_eq_some_iff.1 h
def w64 (n:Int):Int:=IntKind.i64.wrap n
def imax (a b:Int):Int:=if b>a then b else a
def imin (a b:Int):Int:=if b<a then b else a
theorem toNat_lt {z:Int} {n:Nat} (h:0<=z/\z<(n:Int)):z.toNat<n:=by omega
theorem J_mk {ι:Type} {S:ι->St} {J:ι->Prop} {st:St} (i:ι) (hj:J i) (h1:(S i).slots.map (λp=>look p.1 st.rev.slots)=(S i).slots.map λp=>some p.2) (h2:(S i).objs.map (λp=>look p.1 st.rev.objs)=(S i).objs.map λp=>some p.2):∃i,J i/\Sub (S i) st.rev:=⟨i,hj,h1,h2⟩
theorem qOB {P:Program} {fn:Func} {x:V} {ob:List (Nat×(Nat×O))} {st:St} (h1:retV P st.rev fn.results.toList=some x) (h2:ob.map (λp=>look p.1 st.rev.objs)=ob.map λp=>some p.2):RetQ P fn x ob .ret st:=⟨h1,h2⟩
theorem qTw {K:Ctx} {st:St} {c:Code} {Q:Exit->St->Prop} {n:Nat} (st':St) (h1:st'.slots.map (λp=>look p.1 st.rev.slots)=st'.slots.map λp=>some p.2) (h2:st'.objs.map (λp=>look p.1 st.rev.objs)=st'.objs.map λp=>some p.2) (h:HL K c Q n st'):HL K c Q n st:=HL_sub st' ⟨h1,h2⟩ h
theorem wJ {ω:Type} {b:Nat} {S:ω->St} {res:ω} {st:St} (h1:(S res).slots.map (λp=>look p.1 st.rev.slots)=(S res).slots.map λp=>some p.2) (h2:(S res).objs.map (λp=>look p.1 st.rev.objs)=(S res).objs.map λp=>some p.2):zR b S res (.exit b) st:=⟨Nat.beq_refl b,h1,h2⟩
theorem wV {ω ρ:Type} {b:Nat} {S:ω->St} (o:ω) {st:St} (h1:(S o).slots.map (λp=>look p.1 st.rev.slots)=(S o).slots.map λp=>some p.2) (h2:(S o).objs.map (λp=>look p.1 st.rev.objs)=(S o).objs.map λp=>some p.2):Nat.beq b b=true/\∃o',(Sum.inr o:ρ⊕ω)= .inr o'/\Sub (S o') st.rev:=⟨Nat.beq_refl b,o,rfl,h1,h2⟩
theorem qZ {ω ρ:Type} {R:ρ->St->Prop} (v:ρ) {st:St} (h:R v st):∃v',(Sum.inl v:ρ⊕ω)= .inl v'/\R v' st:=⟨v,rfl,h⟩
def tl {α:Type} (enc:α->List C) (d:α) (l:List α):C:= .lst l.length (rowf enc d l)
theorem qPu {α:Type} (enc:α->List C) (d:α) (l r:List α):∀j,j<l.length+r.length->rowf enc d (l++r) j=if j<l.length then rowf enc d l j else rowf enc d r (j-l.length):=λj _=>by
 unfold rowf;simp only[List.getD_eq_getElem?_getD];by_cases h:j<l.length
 ·rw[if_pos h,List.getElem?_append_left h]
 ·rw[if_neg h,List.getElem?_append_right (by omega)]
theorem qTM {α:Type} (enc:α->List C) (d:α) (l r:List α) (n m:Nat) (hn:l.length=n) (hm:r.length=m):∀j,j<n+m->rowf enc d (l++r) j=if j<n then rowf enc d l j else rowf enc d r (j-n):=by
 subst hn hm;exact qPu enc d l r
theorem qTH {α:Type} (enc:α->List C) (d x:α) (l:List α) (n i j:Nat) (xs:List C) (hn:l.length=n) (hx:enc x=QM (enc (l.getD i d)) j xs):∀m,m<n->rowf enc d (l.set i x) m=if m=i then QM (rowf enc d l i) j xs else rowf enc d l m:=λm hm=>by
 unfold rowf;simp only[List.getD_eq_getElem?_getD] at hx⊢;by_cases h:m=i
 ·subst h;rw[if_pos rfl,List.getElem?_set_self (by omega),<-hx];rfl
 ·rw[if_neg h,List.getElem?_set_ne (Ne.symm h)]
theorem qTm {α:Type} (enc:α->List C) (d x:α) (n:Nat) (cs:List C) (hx:enc x=cs):∀m,m<n->rowf enc d (List.replicate n x) m=cs:=λm hm=>by
 unfold rowf;rw[List.getD_eq_getElem?_getD,List.getElem?_replicate,if_pos hm];exact hx
theorem len_app {α:Type} {l r:List α} {n m:Nat} (h1:l.length=n) (h2:r.length=m):(l++r).length=n+m:=by rw[List.length_append,h1,h2]
theorem len_set {α:Type} {l:List α} {n i:Nat} {x:α} (h:l.length=n):(l.set i x).length=n:=by rw[List.length_set,h]
theorem qHg {α:Type} {n:Nat} {x:α}:(List.replicate n x).length=n:=List.length_replicate
theorem len_take {α:Type} {l:List α} {n n':Nat} (h:l.length=n) (hn:n'<=n):(l.take n').length=n':=by rw[List.length_take,h];omega
theorem qRH {α:Type} (enc:α->List C) (d:α) (l:List α) (n':Nat):∀i,i<n'->rowf enc d (l.take n') i=rowf enc d l i:=λi hi=>by
 unfold rowf;simp only[List.getD_eq_getElem?_getD,List.getElem?_take,hi,if_true]
def e_i64 (n:Int):List C:=[.val (.int .i64 n)]
def e_str (b:ByteArray):List C:=[.val (.string b)]
def qE {α:Type} [Inhabited α] (enc:α->List C) (l:List α):List C:=[tl enc default l]
@[irreducible] def FUEL :Nat:=4611686018427387904
end Go.SL

namespace Go.SL
open Go.RowKit
def qE8 :List V1->Option (List C)
 |[]=>some []
 | .one (.bptr id k j)::r=>match qE8 r with|some cs=>some (.bptr id k j::cs)|none=>none
 | .one c::r=>bif c.isImm then(match qE8 r with|some cs=>some (c::cs)|none=>none) else none
 |_=>none
theorem qDt {w:World} {M:Mem}:∀{ys:List V1} {cs:List C},qE8 ys=some cs->cs.length=ys.length/\∀j v,j<ys.length->qU w M (ys.getD j (.one .unk)) v->yA w M (cs.getD j .unk) v
 |[],_,h=>by cases h;exact⟨rfl,λj v hj=>absurd hj (Nat.not_lt_zero j)⟩
 |y::r,cs,h=>by
  unfold qE8 at h;split at h
  ·rename_i heq;cases heq
  ·rename_i id k j r' heq;cases heq;split at h
   ·rename_i cs' hc;cases h;obtain⟨i1,i2⟩:=qDt (w:=w) (M:=M) hc;refine⟨by simp[i1],λj v hj hr=>?_⟩;cases j with
    |zero=>exact hr
    |succ j=>exact i2 j v (by simpa using hj) hr
   ·cases h
  ·rename_i c r' _ heq;cases heq;cases hi:c.isImm with
   |false=>rw[hi] at h;cases h
   |true=>
    rw[hi] at h;simp only[cond_true] at h;split at h
    ·rename_i cs' hc;cases h;obtain⟨i1,i2⟩:=qDt (w:=w) (M:=M) hc;refine⟨by simp[i1],λj v hj hr=>?_⟩;cases j with
     |zero=>
      have hr':CRep w M c v:=hr;show yA w M c v;cases c<;>first|exact hr'|cases hi
     |succ j=>exact i2 j v (by simpa using hj) hr
    ·cases h
  ·cases h
def pev2 (P:Program) (gl:List (Nat×C)) (st:St) (op:Op):Option (V×Prop):=
 match op with
 | .makeFunc (.func g) ⟨[]⟩ caps=>match opsV gl st caps.toList with|some ys=>(match qE8 ys with|some cs=>some (.v (.one (.fn g cs)),True)|none=>none)|none=>none
 | .slice t x lo hi mx=>match op1 gl st x,qDE gl st lo,qDE gl st hi,qDE gl st mx,P.underlying t with
  |some (.one (.own id k sz len)),some (some (.one (.val (.int _ l)))),some none,some none,some (.slice e)=>bif (P.info? e).isSome&&Nat.beq (szOf P e) sz then some (.v (.one (.sub id k sz l.toNat (len-l.toNat))),0<=l/\l<=(len:Int)) else none
  |some (.one (.sub id k sz off len)),some (some (.one (.val (.int _ l)))),some none,some none,some (.slice e)=>bif (P.info? e).isSome&&Nat.beq (szOf P e) sz then some (.v (.one (.sub id k sz (off+l.toNat) (len-l.toNat))),0<=l/\l<=(len:Int)) else none
  |some (.one (.sub id k sz off len)),some none,some (some (.one (.val (.int _ h)))),some none,some (.slice e)=>bif (P.info? e).isSome&&Nat.beq (szOf P e) sz then some (.v (.one (.sub id k sz off h.toNat)),0<=h/\h<=(len:Int)) else none
  |_,_,_,_,_=>pev P gl st op
 | .indexAddr t x i=>match op1 gl st x,op1 gl st i,P.underlying t with
  |some (.one (.sub id k sz off len)),some (.one (.val (.int _ z))),some (.slice e)=>(match P.info? e with|some ie=>bif Nat.beq sz ie.size then some (.v (.one (.rptr id k sz (off+z.toNat) 0)),0<=z/\z<(len:Int)) else none|none=>none)
  |_,_,_=>pev P gl st op
 | .call {callee:= .builtin .len,args,argTypes}=>match opsV gl st args.toList,argTypes.toList with
  |some [.one (.sub _ _ _ _ n)],[t]=>(match P.underlying t with|some (.slice _)=>some (.v (.one (.val (.int .i64 n))),True)|_=>none)
  |_,_=>pev P gl st op
 |_=>pev P gl st op
theorem qKk {K:Ctx} {M:Mem} {st:St} {a:Act} {w:World} (h:Sim K M st a w) {o:Oper} {y:V} {ob:Prop} (hp:pev2 K.P K.globs st o.op=some (y,ob)) (hob:ob):∃v,(execOp a.eval o).run K.P w= .ok (.value v) w/\VRep w M y v:=by
 unfold pev2 at hp;split at hp
 ·rename_i g caps hop;split at hp
  ·rename_i ys hys;split at hp
   ·rename_i cs hcs;cases hp;obtain⟨i1,i2⟩:=FD h hys;obtain⟨j1,j2⟩:=qDt (w:=w) (M:=M) hcs;refine⟨.func (.func g) #[] (caps.map a.eval),?_,caps.map a.eval,rfl,by simp[j1,i1],λj hj=>?_⟩
    ·unfold execOp;rw[hop];refine ZX ?_;simp[Instr.makeFunc]
    ·have:=j2 j _ (by omega) (i2 j (by omega));have e:(caps.toList.map a.eval).getD j undef=(caps.map a.eval).getD j undef:=by simp[Array.getD_eq_getD_getElem?,List.getD_eq_getElem?_getD]
     rw[<-e];exact this
   ·cases hp
  ·cases hp
 ·rename_i t x lo hi mx hop;have ex:∀r,(Instr.sliceAt t (a.eval x) (lo.map a.eval) (hi.map a.eval) (mx.map a.eval)).run K.P w= .ok r w->(execOp a.eval o).run K.P w= .ok (.value r) w:=λr hr=>by
   unfold execOp;rw[hop];exact ZX hr
  split at hp
  ·rename_i id k sz len kk l e hx hlo hhi hmx ht;cases hb:(K.P.info? e).isSome&&Nat.beq (szOf K.P e) sz with
   |false=>rw[hb] at hp;cases hp
   |true=>
    rw[hb] at hp;cases hp;rw[Bool.and_eq_true] at hb;have hsz:=qER hb.1 w;have hss:=Nat.eq_of_beq_eq_true hb.2;obtain⟨u,hu,huv⟩:=(ZS h hlo).1 _ rfl;have h0:=(ZS h hhi).2 rfl;have h1:=(ZS h hmx).2 rfl;have hv:=op1_rep h hx;rw[hu,h0,h1,v1_val huv] at ex;rcases hv with⟨hz,b,hv⟩|⟨b,cap,hv,hc1,hc2,hx⟩
    ·have hl:l=0:=by omega
     subst hl;rw[hv] at ex;refine⟨.slice b 0 0,ex _ ?_,.inl ⟨by omega,_,rfl⟩⟩;simp[Instr.sliceAt,run_underlying ht,Instr.slice,Instr.sliceBounds,zJ,hsz]
    ·rw[hv] at ex;have hb1:=zJ (P:=K.P) (w:=w) (k:=kk) (z:=l) (y:=len) (code:= .sliceB) hob.1 (by omega);refine⟨.slice (if cap=l.toNat then some ⟨b,0,none⟩ else some ⟨b,l.toNat*sz,none⟩) (len-l.toNat) (cap-l.toNat),ex _ ?_,?_⟩
     ·simp[Instr.sliceAt,run_underlying ht,Instr.slice,Instr.sliceBounds,hb1,hsz,hss,Addr.add_lit]
     ·by_cases hcl:cap=l.toNat
      ·refine .inl ⟨by omega,some ⟨b,0,none⟩,?_⟩;rw[if_pos hcl,show len-l.toNat=0 by omega,show cap-l.toNat=0 by omega]
      ·rw[if_neg hcl];refine .inr ⟨b,cap-l.toNat,rfl,by omega,by omega,λhd=>?_⟩;obtain⟨e1,arr,e2,e3,e4⟩:=hx hd;exact⟨e1,arr,e2,e3,by rw[e4];congr 1;omega⟩
  ·rename_i id k sz off len kk l e hx hlo hhi hmx ht;cases hb:(K.P.info? e).isSome&&Nat.beq (szOf K.P e) sz with
   |false=>rw[hb] at hp;cases hp
   |true=>
    rw[hb] at hp;cases hp;rw[Bool.and_eq_true] at hb;have hsz:=qER hb.1 w;have hss:=Nat.eq_of_beq_eq_true hb.2;obtain⟨u,hu,huv⟩:=(ZS h hlo).1 _ rfl;have h0:=(ZS h hhi).2 rfl;have h1:=(ZS h hmx).2 rfl;have hv:=op1_rep h hx;rw[hu,h0,h1,v1_val huv] at ex;rcases hv with⟨hz,b,hv⟩|⟨b,cap,hv,hc1,hc2,hx⟩
    ·have hl:l=0:=by omega
     subst hl;rw[hv] at ex;refine⟨.slice b 0 0,ex _ ?_,.inl ⟨by omega,_,rfl⟩⟩;simp[Instr.sliceAt,run_underlying ht,Instr.slice,Instr.sliceBounds,zJ,hsz]
    ·rw[hv] at ex;have hb1:=zJ (P:=K.P) (w:=w) (k:=kk) (z:=l) (y:=len) (code:= .sliceB) hob.1 (by omega);refine⟨.slice (if cap=l.toNat then some ⟨b,off*sz,none⟩ else some ⟨b,off*sz+l.toNat*sz,none⟩) (len-l.toNat) (cap-l.toNat),ex _ ?_,?_⟩
     ·simp[Instr.sliceAt,run_underlying ht,Instr.slice,Instr.sliceBounds,hb1,hsz,hss,Addr.add_lit]
     ·by_cases hcl:cap=l.toNat
      ·refine .inl ⟨by omega,some ⟨b,off*sz,none⟩,?_⟩;rw[if_pos hcl,show len-l.toNat=0 by omega,show cap-l.toNat=0 by omega]
      ·rw[if_neg hcl];refine .inr ⟨b,cap-l.toNat,by rw[Nat.add_mul],by omega,by omega,λhd=>?_⟩;obtain⟨e1,arr,e2,e3,e4⟩:=hx hd;exact⟨e1,arr,e2,e3,by rw[e4];congr 1;omega⟩
  ·rename_i id k sz off len kk z e hx hlo hhi hmx ht;cases hb:(K.P.info? e).isSome&&Nat.beq (szOf K.P e) sz with
   |false=>rw[hb] at hp;cases hp
   |true=>
    rw[hb] at hp;cases hp;rw[Bool.and_eq_true] at hb;have hsz:=qER hb.1 w;obtain⟨u,hu,huv⟩:=(ZS h hhi).1 _ rfl;have h0:=(ZS h hlo).2 rfl;have h1:=(ZS h hmx).2 rfl;have hv:=op1_rep h hx;rw[hu,h0,h1,v1_val huv] at ex;rcases hv with⟨hz,b,hv⟩|⟨b,cap,hv,hc1,hc2,hx⟩
    ·have hl:z=0:=by omega
     subst hl;rw[hv] at ex;refine⟨.slice b 0 0,ex _ ?_,.inl ⟨rfl,_,rfl⟩⟩;simp[Instr.sliceAt,run_underlying ht,Instr.slice,Instr.sliceBounds,zJ,hsz]
    ·rw[hv] at ex;have hb1:=zJ (P:=K.P) (w:=w) (k:=kk) (z:=z) (y:=cap) (code:= .sliceAcap) hob.1 (by omega);refine⟨.slice (some ⟨b,off*sz,none⟩) z.toNat cap,ex _ ?_,.inr ⟨b,cap,rfl,by omega,hc2,hx⟩⟩;simp[Instr.sliceAt,run_underlying ht,Instr.slice,Instr.sliceBounds,hb1,hsz,Addr.add_lit]
  ·exact qDm h hp hob
 ·rename_i t x i hop;split at hp
  ·rename_i id k sz off len kk z e hx hi ht;split at hp
   ·rename_i ie hie;cases hb:Nat.beq sz ie.size with
    |false=>rw[hb] at hp;cases hp
    |true=>
     rw[hb] at hp;cases hp;have hlen:=Nat.eq_of_beq_eq_true hb;subst hlen;have hu:=v1_val (op1_rep h hi);rcases op1_rep h hx with⟨h0,_⟩|⟨b,cap,hv,h1,h2,hx⟩
     ·omega
     ·refine⟨.pointer (some ⟨b,off*ie.size+z.toNat*ie.size,none⟩),?_,b,by rw[Nat.add_mul];rfl,λhd=>(hx hd).1⟩;unfold execOp;rw[hop];refine ZX ?_;simp[hv,hu,Instr.indexAt,asIntOf,run_underlying ht,hob.1,hob.2,zX hie,Addr.add_lit]
   ·cases hp
  ·exact qDm h hp hob
 ·rename_i args argTypes hop;split at hp
  ·rename_i id k sz off n t hys hts;split at hp
   ·rename_i e ht;cases hp;obtain⟨h1,h2⟩:=FD h hys;have h3:=h2 0 (by simp);obtain⟨x,hx⟩:∃x,args.toList=[x]:=by
     match args.toList,h1 with
     |[x],_=>exact⟨x,rfl⟩
    obtain rfl:args= #[x]:=by apply Array.toList_inj.1;simpa using hx
    obtain rfl:argTypes= #[t]:=by apply Array.toList_inj.1;simpa using hts
    have hv:CRep w M (.sub id k sz off n) (a.eval x):=h3;have key:∃p c,a.eval x= .slice p n c:=by
     rcases hv with⟨h0,b,hv⟩|⟨b,cap,hv,_⟩
     ·exact⟨b,0,by rw[hv,h0]⟩
     ·exact⟨_,cap,hv⟩
    obtain⟨p,c,hv'⟩:=key;refine⟨.int .i64 n,?_,QC _ rfl⟩;unfold execOp;rw[hop];simp[resolve,invoke,builtin,Builtin.len_,hv',run_underlying ht,goInt]
   ·cases hp
  ·exact qDm h hp hob
 ·exact qDm h hp hob
theorem qQj {P:Program} {gl:List (Nat×C)} {st:St} {op:Op} {r:V×Prop} (h:pev2 P gl st op=some r):IL op=true:=by
 cases op<;>first|rfl|cases h
theorem Step_pure2 {K:Ctx} {st:St} {o:Oper} {y:V} {ob:Prop} (hp:pev2 K.P K.globs st o.op=some (y,ob)) (hob:ob):Step K st o [] [] y:=by
 refine ZO (qQj hp) ?_;intro M a w h _;obtain⟨v,hv,hr⟩:=qKk h hp hob;unfold Oper.wp;rw[hv];exact⟨v,M,rfl,Ext.same h rfl rfl rfl rfl,hr,λi k o h=>(by cases h),λi hi=> .inl hi⟩
end Go.SL

namespace Go.SL
open Go.RowKit
section
variable (φ :C->C×Option Prop)
def phL :List C->List C×Option Prop
 |[]=>([],none)
 |c::r=>((φ c).1::(phL r).1,an (φ c).2 (phL r).2)
def ph1 :V1->V1×Option Prop
 | .one c=>(.one (φ c).1,(φ c).2)
 | .agg cs=>(.agg (phL φ cs).1,(phL φ cs).2)
def ph1L :List V1->List V1×Option Prop
 |[]=>([],none)
 |c::r=>((ph1 φ c).1::(ph1L r).1,an (ph1 φ c).2 (ph1L r).2)
def phV :V->V×Option Prop
 | .v x=>(.v (ph1 φ x).1,(ph1 φ x).2)
 | .tup xs=>(.tup (ph1L φ xs).1,(ph1L φ xs).2)
 |x=>(x,none)
def phO :O->O×Option Prop
 | .box e cs=>(.box e (phL φ cs).1,(phL φ cs).2)
 |o=>(o,none)
def phS :List (Nat×V)->List (Nat×V)×Option Prop
 |[]=>([],none)
 |p::r=>((p.1,(phV φ p.2).1)::(phS r).1,an (phV φ p.2).2 (phS r).2)
def phB (id:Nat):List (Nat×(Nat×O))->List (Nat×(Nat×O))×Option Prop
 |[]=>([],none)
 |p::r=>bif Nat.beq p.1 id then phB id r else((p.1,(p.2.1,(phO φ p.2.2).1))::(phB id r).1,an (phO φ p.2.2).2 (phB id r).2)
end
section
variable {φ :C->C×Option Prop} {w:World} {M M':Mem}
theorem qQv (hφ:∀c v,oP (φ c).2->CRep w M c v->CRep w M' (φ c).1 v):∀{cs:List C},oP (phL φ cs).2->(phL φ cs).1.length=cs.length/\∀j v,j<cs.length->CRep w M (cs.getD j .unk) v->CRep w M' ((phL φ cs).1.getD j .unk) v
 |[],_=>⟨rfl,λj v hj=>absurd hj (Nat.not_lt_zero j)⟩
 |c::r,hp=>by
  obtain⟨h1,h2⟩:=ZE hp;obtain⟨i1,i2⟩:=qQv hφ h2;refine⟨by simp[phL,i1],λj v hj hr=>?_⟩;cases j with
  |zero=>exact hφ c v h1 hr
  |succ j=>exact i2 j v (by simpa using hj) hr
theorem qFf (hφ:∀c v,oP (φ c).2->CRep w M c v->CRep w M' (φ c).1 v) {cs:List C} {vs:Array Value} (hp:oP (phL φ cs).2) (h:jI w M cs vs):jI w M' (phL φ cs).1 vs:=by
 obtain⟨i1,i2⟩:=qQv hφ hp;exact⟨by rw[i1];exact h.1,λj hj=>i2 j _ (by omega) (h.2 j (by omega))⟩
theorem qQe (hφ:∀c v,oP (φ c).2->CRep w M c v->CRep w M' (φ c).1 v) {x:V1} {v:Value} (hp:oP (ph1 φ x).2) (h:qU w M x v):qU w M' (ph1 φ x).1 v:=by
 cases x with
 |one c=>exact hφ c v hp h
 |agg cs=>obtain⟨vs,hv,hr⟩:=h;exact⟨vs,hv,qFf hφ hp hr⟩
theorem qOy (hφ:∀c v,oP (φ c).2->CRep w M c v->CRep w M' (φ c).1 v):∀{cs:List V1},oP (ph1L φ cs).2->(ph1L φ cs).1.length=cs.length/\∀j v,j<cs.length->qU w M (cs.getD j (.one .unk)) v->qU w M' ((ph1L φ cs).1.getD j (.one .unk)) v
 |[],_=>⟨rfl,λj v hj=>absurd hj (Nat.not_lt_zero j)⟩
 |c::r,hp=>by
  obtain⟨h1,h2⟩:=ZE hp;obtain⟨i1,i2⟩:=qOy hφ h2;refine⟨by simp[ph1L,i1],λj v hj hr=>?_⟩;cases j with
  |zero=>exact qQe hφ h1 hr
  |succ j=>exact i2 j v (by simpa using hj) hr
theorem qQn (hφ:∀c v,oP (φ c).2->CRep w M c v->CRep w M' (φ c).1 v) {x:V} {v:Value} (hp:oP (phV φ x).2) (h:VRep w M x v):VRep w M' (phV φ x).1 v:=by
 cases x with
 |any=>trivial
 |undef=>exact h
 |v x=>exact qQe hφ hp h
 |tup xs=>
  obtain⟨vs,hv,hl,hr⟩:=h;obtain⟨i1,i2⟩:=qOy hφ hp;exact⟨vs,hv,by rw[i1];exact hl,λj hj=>i2 j _ (by omega) (hr j (by omega))⟩
theorem phS_look (hφ:∀c v,oP (φ c).2->CRep w M c v->CRep w M' (φ c).1 v):∀{l:List (Nat×V)} {s:Nat} {x:V},oP (phS φ l).2->look s (phS φ l).1=some x->∃y,look s l=some y/\∀v,VRep w M y v->VRep w M' x v
 |(k,y)::r,s,x,hp,hl=>by
  obtain⟨h1,h2⟩:=ZE hp;have hl':look s ((k,(phV φ y).1)::(phS φ r).1)=some x:=hl;rw[look_cons] at hl';rw[look_cons];split at hl'
  ·rename_i hk;cases hl';rw[if_pos hk];exact⟨y,rfl,λv hv=>qQn hφ h1 hv⟩
  ·rename_i hk;rw[if_neg hk];exact phS_look hφ h2 hl'
theorem qFg {id:Nat}:∀{l:List (Nat×(Nat×O))} {i k:Nat} {o:O},oP (phB φ id l).2->look i (phB φ id l).1=some (k,o)->i≠id/\∃o',look i l=some (k,o')/\oP (phO φ o').2/\o=(phO φ o').1
 |[],_,_,_,_,hl=>by cases hl
 |(j,(kj,y))::r,i,k,o,hp,hl=>by
  cases hb:Nat.beq j id with
  |true=>
   simp only[phB,hb,cond_true] at hp hl;obtain⟨h1,o',h2,h3⟩:=qFg hp hl;refine⟨h1,o',?_,h3⟩;rw[look_cons,if_neg (λe=>h1 (by rw[<-e];exact Nat.eq_of_beq_eq_true hb))];exact h2
  |false=>
   simp only[phB,hb,cond_false] at hp hl;obtain⟨h1,h2⟩:=ZE hp;rw[look_cons] at hl;rw[look_cons];split at hl
   ·rename_i hk;cases hl;rw[if_pos hk];exact⟨λe=>(by rw[<-hk] at e;rw[e,Nat.beq_refl] at hb;cases hb),y,rfl,h1,rfl⟩
   ·rename_i hk;rw[if_neg hk];exact qFg h2 hl
theorem phB_hits {id:Nat}:∀{l:List (Nat×(Nat×O))} {i:Nat},hits l i->i≠id->hits (phB φ id l).1 i
 |[],_,h,_=>by cases h
 |(j,(kj,y))::r,i,h,hne=>by
  unfold hits at h⊢;rw[look_cons] at h;cases hb:Nat.beq j id with
  |true=>
   simp only[phB,hb,cond_true];rw[if_neg (λe=>hne (by rw[<-e];exact Nat.eq_of_beq_eq_true hb))] at h;exact phB_hits h hne
  |false=>
   simp only[phB,hb,cond_false];rw[look_cons];split
   ·rfl
   ·rename_i hk;rw[if_neg hk] at h;exact phB_hits h hne
end
def qJg (id:Nat):C->Bool
 | .bptr i _ _=>!Nat.beq i id
 |_=>true
def frzC (id k sz n:Nat) (f:Nat->List C):C->C×Option Prop
 | .own i k' sz' len=>bif Nat.beq i id then(bif Nat.beq k' k&&Nat.beq sz' sz then(.lst len f,some (len<=n)) else(.unk,none)) else(.own i k' sz' len,none)
 | .sub i k' sz' off len=>bif Nat.beq i id then(bif Nat.beq k' k&&Nat.beq sz' sz then(.lst len (λj=>f (off+j)),some (off+len<=n)) else(.unk,none)) else(.sub i k' sz' off len,none)
 | .bptr i k' j=>bif Nat.beq i id then(.unk,none) else(.bptr i k' j,none)
 | .rptr i k' sz' x j=>bif Nat.beq i id then(.unk,none) else(.rptr i k' sz' x j,none)
 | .fn g caps=>bif caps.all (qJg id) then(.fn g caps,none) else(.unk,none)
 | .yl R b ts caps=>bif caps.all (qJg id) then(.yl R b ts caps,none) else(.unk,none)
 |c=>(c,none)
def St.frz (st:St) (id:Nat):Option (St×Option Prop):=
 match look id st.objs with
 | some (k,.row _ sz n f)=>bif Nat.blt 0 sz then
   some ({slots:=(phS (frzC id k sz n f) st.slots).1,objs:=(phB (frzC id k sz n f) id st.objs).1},an (phS (frzC id k sz n f) st.slots).2 (phB (frzC id k sz n f) id st.objs).2) else none
 |_=>none
def Mem.drop (M:Mem) (id:Nat):Mem:={ver:=λi=>if i=id then none else M.ver i,blk:=M.blk,A:=M.A}
theorem wZ {M:Mem} {id i k:Nat} (h:(M.drop id).ver i=some k):i≠id/\M.ver i=some k:=by
 simp only[Mem.drop] at h;split at h
 ·cases h
 ·rename_i hi;exact⟨hi,h⟩
theorem qTj {M:Mem} {id b:Nat} (h:M.imm b):(M.drop id).imm b:=⟨h.1,fun⟨i,k,hv,hb⟩=>h.2 ⟨i,k,(wZ hv).2,hb⟩⟩
theorem YW {M:Mem} {w:World} {id:Nat} {c:C} {v:Value} (h:IRep w M.imm c v):IRep w (M.drop id).imm c v:=h.move (λ_ _ _=>rfl) λ_ hb _=>qTj hb
theorem qOS {w:World} {M:Mem} {id k e sz n:Nat} {f:Nat->List C} (hor:ORep w M id k (.row e sz n f)) (hpos:0<sz) (hown:∀b,M.blk id=some b->(M.drop id).imm b):
  ∀c v,oP (frzC id k sz n f c).2->CRep w M c v->CRep w (M.drop id) (frzC id k sz n f c).1 v:=by
 obtain⟨hver,hrow⟩:=hor;have row:∀{off len:Nat} {v:Value},((len=0/\∃a,v= .slice a 0 0)\/∃b cap,v= .slice (some ⟨b,off*sz,none⟩) len cap/\len<=cap/\cap<=maxLen/\(M.ver id=some k->M.blk id=some b/\∃arr e,w.heap[b]? =some (.cells arr e (0,0))/\arr.size=(off+cap)*sz))->
   off+len<=n->∀g:Nat->List C,(∀i,i<len->g i=f (off+i))->IRep w (M.drop id).imm (.lst len g) v:=by
  intro off len v hc hle g hg;rcases hc with⟨h0,b,rfl⟩|⟨b,cap,rfl,h1,h2,hx⟩
  ·subst h0;exact .lst0 _ _
  ·obtain⟨hb,arr,e',hh,hsize⟩:=hx hver;by_cases hz:len=0
   ·subst hz;exact .lst b (off*sz) 0 cap 0 _ (λ_ _=>undef) (Nat.zero_le _) h2 (λi hi=>by omega) (λi j hi=>by omega) (λi j hi=>by omega) (λi j hi=>by omega)
   ·rcases hrow with⟨hnone,_⟩|⟨b',arr',hb',hh',hns,hcr⟩
    ·rw[hb] at hnone;cases hnone
    ·have hbb:b'=b:=Option.some.inj (hb'.symm.trans hb);subst hbb;rw[hh] at hh';cases hh';refine .lst b' (off*sz) len cap sz g (λi j=>arr.getD ((off+i)*sz+j) undef) h1 h2 (λi hi=>by rw[hg i hi];exact(hcr (off+i) (by omega)).1) (λi j hi hj=>hown b' hb) (λi j hi hj=>?_) (λi j hi hj=>by rw[hg i hi];exact YW ((hcr (off+i) (by omega)).2 j hj));have:=PS (n:=n) (show off+i<n by omega) hj;rw[show off*sz+(i*sz+j)=(off+i)*sz+j by rw[Nat.add_mul];omega];exact cell_of_row' hh (by omega)
 intro c v ho hr;cases c with
 |own i k' sz' len=>
  cases hb:Nat.beq i id with
  |false=>
   simp only[frzC,hb,cond_false];rcases hr with h0|⟨b,cap,h1,h2,h3,hx⟩
   ·exact .inl h0
   ·exact .inr ⟨b,cap,h1,h2,h3,λhv=>hx (wZ hv).2⟩
  |true=>
   cases hb2:Nat.beq k' k&&Nat.beq sz' sz with
   |false=>simp only[frzC,hb,hb2,cond_true,cond_false];exact hr.cell
   |true=>
    simp only[frzC,hb,hb2,cond_true] at ho⊢;rw[Bool.and_eq_true] at hb2;have e1:=Nat.eq_of_beq_eq_true hb;have e2:=Nat.eq_of_beq_eq_true hb2.1;have e3:=Nat.eq_of_beq_eq_true hb2.2;subst e1 e2 e3;have ho':len<=n:=ho;refine row (off:=0) ?_ (by omega) f (λi _=>by rw[Nat.zero_add]);simp only[Nat.zero_mul,Nat.zero_add];exact hr
 |sub i k' sz' off len=>
  cases hb:Nat.beq i id with
  |false=>
   simp only[frzC,hb,cond_false];rcases hr with h0|⟨b,cap,h1,h2,h3,hx⟩
   ·exact .inl h0
   ·exact .inr ⟨b,cap,h1,h2,h3,λhv=>hx (wZ hv).2⟩
  |true=>
   cases hb2:Nat.beq k' k&&Nat.beq sz' sz with
   |false=>simp only[frzC,hb,hb2,cond_true,cond_false];exact hr.cell
   |true=>
    simp only[frzC,hb,hb2,cond_true] at ho⊢;rw[Bool.and_eq_true] at hb2;have e1:=Nat.eq_of_beq_eq_true hb;have e2:=Nat.eq_of_beq_eq_true hb2.1;have e3:=Nat.eq_of_beq_eq_true hb2.2;subst e1 e2 e3;exact row hr ho _ (λi _=>rfl)
 |bptr i k' j=>
  cases hb:Nat.beq i id with
  |true=>simp only[frzC,hb,cond_true];exact hr.cell
  |false=>
   simp only[frzC,hb,cond_false];obtain⟨b,h1,hx⟩:=hr;exact⟨b,h1,λhv=>hx (wZ hv).2⟩
 |rptr i k' sz' x j=>
  cases hb:Nat.beq i id with
  |true=>simp only[frzC,hb,cond_true];exact hr.cell
  |false=>
   simp only[frzC,hb,cond_false];obtain⟨b,h1,hx⟩:=hr;exact⟨b,h1,λhv=>hx (wZ hv).2⟩
 |fn g caps=>
  cases hb:caps.all (qJg id) with
  |false=>simp only[frzC,hb,cond_false];exact hr.cell
  |true=>
   simp only[frzC,hb,cond_true];obtain⟨vs,hv,hs,hx⟩:=hr;refine⟨vs,hv,hs,λj hj=>?_⟩;have:=hx j hj;generalize caps.getD j .unk=c at this;cases c with
   |bptr i k' j=>obtain⟨b,h1,hx⟩:=this;exact⟨b,h1,λhv=>hx (wZ hv).2⟩
   |_=>exact YW this
 |yl R b ts caps=>
  cases hb:caps.all (qJg id) with
  |false=>simp only[frzC,hb,cond_false];exact hr.cell
  |true=>
   simp only[frzC,hb,cond_true];refine⟨hr.1,λj hj=>?_⟩;have:=hr.2 j hj;generalize caps.getD j .unk=c at this;cases c with
   |bptr i k' j=>obtain⟨b,h1,hx⟩:=this;exact⟨b,h1,λhv=>hx (wZ hv).2⟩
   |_=>exact YW this
 |unk=>exact hr
 |val v=>exact YW hr
 |emp=>exact YW hr
 |lst n f=>exact YW hr
 |lptr cs=>exact YW hr
 |aptr n sz f=>exact YW hr
theorem Sim1.frz {K:Ctx} {M:Mem} {st:St} {a:Act} {w:World} (h:Sim1 K M st a w) {id:Nat} (hid:max K.n K.m<=id) {st':St} {q:Option Prop} (hf:st.frz id=some (st',q)) (hq:oP q):Sim1 K (M.drop id) st' a w:=by
 unfold St.frz at hf;split at hf
 ·rename_i k e sz n f hl;cases hp:Nat.blt 0 sz with
  |false=>rw[hp] at hf;cases hf
  |true=>
   rw[hp] at hf;cases hf;obtain⟨q1,q2⟩:=ZE hq;have hpos:0<sz:=by simpa[Nat.blt_eq] using hp
   have hs:=h.1;obtain⟨hver,hrow⟩:=hs.objs id k _ hl;have hown:∀b,M.blk id=some b->(M.drop id).imm b:=λb hb=>by
    refine⟨?_,fun⟨i,k',hv,hbk⟩=>?_⟩
    ·refine(hs.area b).2 (.inr ?_);rcases(hs.rng id k b hver hb).1 with h1|h1
     ·exact h1
     ·have:=(K.hIn id b h1).1;omega
    ·obtain⟨h1,h2⟩:=wZ hv;exact h1 (hs.inj i id k' k b h2 hver hbk hb)
   have hφ:=qOS ⟨hver,hrow⟩ hpos hown;refine⟨⟨λi j k l b hi hj hbi hbj=>hs.inj i j k l b (wZ hi).2 (wZ hj).2 hbi hbj,λi k b hv hb=>hs.rng i k b (wZ hv).2 hb,λi k him hv=>hs.fix i k him (wZ hv).2,hs.below,hs.shape,hs.area,hs.size,hs.defers.less λD ⟨x,k,hv,hb⟩=>⟨x,k,(wZ hv).2,hb⟩,λs x hx=>?_,λi k' o ho=>?_⟩,λi hi=>?_⟩
   ·obtain⟨y,hy,hyr⟩:=phS_look hφ q1 hx;exact hyr _ (hs.slots s y hy)
   ·obtain⟨hne,o',h1,h2,rfl⟩:=qFg q2 ho;have hr:=hs.objs i k' o' h1;have hv:(M.drop id).ver i=some k':=by simp only[Mem.drop,hne,if_false];exact hr.ver
    cases o' with
    |box e cs=>obtain⟨_,b,arr,e1,e2,e3⟩:=hr;exact⟨hv,b,arr,e1,e2,qFf hφ h2 e3⟩
    |row e sz n f=>
     refine⟨hv,?_⟩;rcases hr.2 with h0|⟨b,arr,e1,e2,e3,e4⟩
     ·exact .inl h0
     ·exact .inr ⟨b,arr,e1,e2,e3,λi hi=>⟨(e4 i hi).1,λj hj=>YW ((e4 i hi).2 j hj)⟩⟩
    |lp R b s j=>exact⟨hv,hr.2.1,hr.2.2⟩
   ·obtain⟨k',hk'⟩:=Option.ne_none_iff_exists'.1 hi;obtain⟨h1,h2⟩:=wZ hk';exact phB_hits (h.2 i (by rw[h2];simp)) h1
 ·cases hf
def lenC (id k n':Nat):C->C×Option Prop
 | .own i k' sz len=>bif Nat.beq i id&&Nat.beq k' k then(.own i k' sz n',some (len=n')) else(.own i k' sz len,none)
 |c=>(c,none)
theorem qOE {w:World} {M:Mem} {id k n':Nat}:∀c v,oP (lenC id k n' c).2->CRep w M c v->CRep w M (lenC id k n' c).1 v:=by
 intro c v ho hr;cases c with
 |own i k' sz len=>
  cases hb:Nat.beq i id&&Nat.beq k' k with
  |false=>simp only[lenC,hb,cond_false];exact hr
  |true=>
   simp only[lenC,hb,cond_true] at ho⊢;have ho':len=n':=ho;subst ho';exact hr
 |_=>exact hr
def lenO (φ:C->C×Option Prop) (b:Bool) (n':Nat):O->O×Option Prop
 | .row e sz n f=>bif b then(.row e sz n' f,some (n=n')) else(.row e sz n f,none)
 | .box e cs=>(.box e (phL φ cs).1,(phL φ cs).2)
 | .lp R b s j=>(.lp R b s j,none)
def lenB (φ:C->C×Option Prop) (id k n':Nat):List (Nat×(Nat×O))->List (Nat×(Nat×O))×Option Prop
 |[]=>([],none)
 |p::r=>((p.1,(p.2.1,(lenO φ (Nat.beq p.1 id&&Nat.beq p.2.1 k) n' p.2.2).1))::(lenB φ id k n' r).1,an (lenO φ (Nat.beq p.1 id&&Nat.beq p.2.1 k) n' p.2.2).2 (lenB φ id k n' r).2)
def St.len (st:St) (id n':Nat):Option (St×Option Prop):=
 match look id st.objs with
 |some (k,.row _ _ _ _)=>some ({slots:=(phS (lenC id k n') st.slots).1,objs:=(lenB (lenC id k n') id k n' st.objs).1},an (phS (lenC id k n') st.slots).2 (lenB (lenC id k n') id k n' st.objs).2)
 |_=>none
theorem qMd {w:World} {M:Mem} {φ:C->C×Option Prop} {id k0 n':Nat} (hφ:∀c v,oP (φ c).2->CRep w M c v->CRep w M (φ c).1 v):∀{l:List (Nat×(Nat×O))} {i k:Nat} {o:O},oP (lenB φ id k0 n' l).2->look i (lenB φ id k0 n' l).1=some (k,o)->∃o',look i l=some (k,o')/\(ORep w M i k o'->ORep w M i k o)
 |(j,(kj,y))::r,i,k,o,hp,hl=>by
  obtain⟨h1,h2⟩:=ZE hp;have hl':look i ((j,(kj,(lenO φ (Nat.beq j id&&Nat.beq kj k0) n' y).1))::(lenB φ id k0 n' r).1)=some (k,o):=hl;rw[look_cons] at hl';rw[look_cons];split at hl'
  ·rename_i hk;cases hl';rw[if_pos hk];refine⟨y,rfl,λhr=>?_⟩;cases y with
   |box e cs=>obtain⟨hv,b,arr,e1,e2,e3⟩:=hr;exact⟨hv,b,arr,e1,e2,qFf hφ h1 e3⟩
   |row e sz n f=>
    cases hb:Nat.beq j id&&Nat.beq kj k0 with
    |false=>simp only[lenO,hb,cond_false];exact hr
    |true=>
     simp only[lenO,hb,cond_true] at h1⊢;have h1':n=n':=h1;subst h1';exact hr
   |lp R b s j=>exact hr
  ·rename_i hk;rw[if_neg hk];exact qMd hφ h2 hl'
theorem lenB_hits {φ:C->C×Option Prop} {id k n':Nat}:∀{l:List (Nat×(Nat×O))} {i:Nat},hits l i->hits (lenB φ id k n' l).1 i
 |[],_,h=>by cases h
 |(j,(kj,y))::r,i,h=>by
  unfold hits at h⊢;show(look i ((j,(kj,(lenO φ (Nat.beq j id&&Nat.beq kj k) n' y).1))::(lenB φ id k n' r).1)).isSome=true;rw[look_cons] at h⊢;split
  ·rfl
  ·rename_i hk;rw[if_neg hk] at h;exact lenB_hits h
theorem Sim1.len {K:Ctx} {M:Mem} {st:St} {a:Act} {w:World} (h:Sim1 K M st a w) {id n':Nat} {st':St} {q:Option Prop} (hf:st.len id n'=some (st',q)) (hq:oP q):Sim1 K M st' a w:=by
 unfold St.len at hf;split at hf
 ·rename_i k e sz n f hl;cases hf;obtain⟨q1,q2⟩:=ZE hq;have hs:=h.1;refine⟨⟨hs.inj,hs.rng,hs.fix,hs.below,hs.shape,hs.area,hs.size,hs.defers,λs x hx=>?_,λi k' o ho=>?_⟩,λi hi=>lenB_hits (h.2 i hi)⟩
  ·obtain⟨y,hy,hyr⟩:=phS_look (qOE (w:=w) (M:=M)) q1 hx;exact hyr _ (hs.slots s y hy)
  ·obtain⟨o',h1,h2⟩:=qMd (qOE (w:=w) (M:=M)) q2 ho;exact h2 (hs.objs i k' o' h1)
 ·cases hf
end Go.SL

namespace Go.SL
open Go.RowKit
def qM6 :Op->Option (Operand×TypeId)
 | .call {callee:= .builtin .clear,args,argTypes}=>match args.toList,argTypes.toList with|[s],[t]=>some (s,t)|_,_=>none
 |_=>none
theorem qOj {op:Op} {s:Operand} {t:TypeId} (h:qM6 op=some (s,t)):op= .call {callee:= .builtin .clear,args:= #[s],argTypes:= #[t]}:=by
 unfold qM6 at h;split at h
 ·rename_i args ats;split at h
  ·rename_i s' t' h1 h2;cases h;obtain rfl:args= #[s]:=by apply Array.toList_inj.1;simpa using h1
   obtain rfl:ats= #[t]:=by apply Array.toList_inj.1;simpa using h2
   rfl
  ·cases h
 ·cases h
theorem qLk (zs:Array Value) (n:Nat):(Builtin.zeroCells zs n).size=n*zs.size:=by
 unfold Builtin.zeroCells;simp
theorem zeroCells_one {zs:Array Value} (h:∀v∈zs.toList,v.oneCell'=true) (n:Nat):∀v∈(Builtin.zeroCells zs n).toList,v.oneCell'=true:=by
 intro v hv;unfold Builtin.zeroCells at hv;simp only[Array.toList_map,Array.toList_range,List.mem_map,List.mem_range] at hv;obtain⟨i,hi,rfl⟩:=hv;have hpos:0<zs.size:=by
  rcases Nat.eq_zero_or_pos zs.size with h0|h0
  ·rw[h0] at hi;omega
  ·exact h0
 have hlt:i % zs.size<zs.size:=Nat.mod_lt _ hpos;rw[getElem!_pos zs _ hlt];exact h _ (Array.getElem_mem_toList hlt)
theorem qRq {K:Ctx} {st:St} {o:Oper} (s:Operand) (t e:TypeId) (id k sz off len:Nat) (i:TypeInfo) (cs:List C) (n:Nat) (f:Nat->List C) (ho:qM6 o.op=some (s,t)) (hs:op1 K.globs st s=some (.one (.sub id k sz off len))) (ht:K.P.underlying t=some (.slice e)) (hi:K.P.info? e=some i)
  (hz:FI K.P e=some cs) (hcs:cs.length=sz) (hl:look id st.objs=some (k,.row e sz n f)) (hle:off+len<=n):Step K st o [] [(id,(k,.row e sz off f))] .undef:=by
 refine ZO (by rw[qOj ho];rfl) ?_;intro M a w h _;obtain⟨hver,hrow⟩:=h.objs id k _ hl;obtain⟨z,hzr,hzc⟩:=SM hz w M;have hop:=qOj ho;have fin:∀w',(Builtin.clear_ #[t] o.type #[a.eval s]).run K.P w= .ok (.tuple #[]) w'->(execOp a.eval o).run K.P w= .ok (.value (.tuple #[])) w':=λw' hr=>by
  unfold execOp;rw[hop];simp[resolve,invoke,builtin,hr]
 have keep:∀w',Ext M w M w' (hits [(id,(k,.row e sz off f))]) (zA [])->(Builtin.clear_ #[t] o.type #[a.eval s]).run K.P w= .ok (.tuple #[]) w'->ORep w' M id k (.row e sz off f)->o.wp K.P a w (λa' w'=>∃v M',a'=a.put o.dst v/\Ext M w M' w' (hits [(id,(k,.row e sz off f))]) (zA [])/\VRep w' M' .undef v/\(∀i k' o',look i [(id,(k,.row e sz off f))]=some (k',o')->ORep w' M' i k' o')/\(∀i,M'.ver i≠none->M.ver i≠none\/hits [(id,(k,.row e sz off f))] i)) (λ_ _ _=>False):=λw' he hr hor=>by
  unfold Oper.wp;rw[fin w' hr];refine⟨_,M,rfl,he,rfl,λi' l' p hl'=>?_,λi hi=> .inl hi⟩;obtain⟨rfl,rfl,rfl⟩:=yQ hl';exact hor
 have same:Ext M w M w (hits [(id,(k,.row e sz off f))]) (zA []):=⟨λ_ _ h=> .inr h,λ_ _ h _=>h,λ_ _ _ _=>rfl,λ_ _ _ h=>(by cases h),h.inj,λi k b h1 h2=>(h.rng i k b h1 h2).2,λ_ _ _=>rfl,λb arr e h=>⟨arr,h,rfl⟩,Nat.le_refl _,rfl,rfl,rfl,rfl,Nat.le_refl _⟩
 have less:ORep w M id k (.row e sz off f):=by
  refine⟨hver,?_⟩;rcases hrow with⟨h0,h1⟩|⟨b,arr,hb,hh,hn,hc⟩
  ·exact .inl ⟨h0,by omega⟩
  ·exact .inr ⟨b,arr,hb,hh,Nat.le_trans (Nat.mul_le_mul_right _ (by omega)) hn,λi hi=>hc i (by omega)⟩
 have nothing:∀(p:Option Addr) (c:Nat),a.eval s= .slice p 0 c->(Builtin.clear_ #[t] o.type #[a.eval s]).run K.P w= .ok (.tuple #[]) w:=λp c hv=>by
  rw[hv];cases p<;>simp[Builtin.clear_,run_underlying ht]
 rcases op1_rep h hs with⟨h0,p,hv⟩|⟨b,cap,hv,h1,h2,hx⟩
 ·exact keep w same (nothing p 0 hv) less
 ·by_cases hz0:len=0
  ·subst hz0;exact keep w same (nothing _ _ hv) less
  ·obtain⟨hb,arr,e',hh,hsz⟩:=hx hver;rcases hrow with⟨hn0,_⟩|⟨b',arr',hb',hh',hn,hc⟩
   ·rw[hb] at hn0;cases hn0
   ·have hbb:b'=b:=Option.some.inj (hb'.symm.trans hb);subst hbb;rw[hh] at hh';cases hh';have hzs:z.cells.size=sz:=by rw[hzc.1,hcs]
    have hone:=HH hzc;have hzl:(Builtin.zeroCells z.cells len).toList.length=len*sz:=by simp[qLk,hzs]
    have hfit:off*sz+(Builtin.zeroCells z.cells len).toList.length<=arr.size:=by
     rw[hzl,hsz,<-Nat.add_mul];exact Nat.mul_le_mul_right _ (by omega)
    have hrun:=run_storeCells_at K.P b' (off*sz) e (Builtin.zeroCells z.cells len).toList 0 arr w hh (by simpa using hfit) (zeroCells_one hone len);simp only[Nat.add_zero] at hrun;have hsame:(arr.toList.take (off*sz)++(Builtin.zeroCells z.cells len).toList++arr.toList.drop (off*sz+(Builtin.zeroCells z.cells len).toList.length)).toArray.size=arr.size:=by simp at hfit⊢;omega
    have he:=Ext.write (o:= .row e sz off f) h hver hb hh hsame;refine keep _ he ?_ ⟨hver,.inr ⟨b',_,hb,setRow_heap w b' arr _ e (0,0) hh,?_,λi hi=>⟨(hc i (by omega)).1,λj hj=>?_⟩⟩⟩
    ·rw[hv]
     match len,hz0 with
     |l+1,_=>
      simp only[Builtin.clear_,Sem.run_bind,run_underlying ht,Result.andThen_ok,List.getElem?_toArray,List.getElem?_cons_zero,hzr,hrun,Sem.run_pure]
    ·rw[hsame,hsz];exact Nat.mul_le_mul_right _ (by omega)
    ·have hij:i*sz+j<off*sz:=PS hi hj;have hget:((arr.toList.take (off*sz)++(Builtin.zeroCells z.cells len).toList++arr.toList.drop (off*sz+(Builtin.zeroCells z.cells len).toList.length)).toArray).getD (i*sz+j) undef=arr.getD (i*sz+j) undef:=by
      rw[VQ,FQ _ _ _ _ _ (by simpa using hfit),if_neg (by omega),<-VQ]
     rw[hget];exact he.irep ((hc i (by omega)).2 j hj)
theorem qPJ {w:World} {ok:Nat->Prop} {n:Nat} {f g:Nat->List C} {v:Value} (h:IRep w ok (.lst n f) v) (hg:∀i,i<n->g i=f i):IRep w ok (.lst n g) v:=by
 cases h with
 |lst0 a=>exact .lst0 _ _
 |lst b o n cap sz f G hn hm hl hb hc hr=>exact .lst b o n cap sz g G hn hm (λi hi=>by rw[hg i hi];exact hl i hi) hb hc (λi j hi hj=>by rw[hg i hi];exact hr i j hi hj)
theorem qRc {K:Ctx} {st:St} {o:Oper} {n n':Nat} {f f':Nat->List C} {ob:Prop} (hp:pev2 K.P K.globs st o.op=some (.v (.one (.lst n f)),ob)) (hob:ob) (hn:n=n') (hf:∀i,i<n->f' i=f i):Step K st o [] [] (.v (.one (.lst n' f'))):=by
 subst hn;refine ZO (qQj hp) ?_;intro M a w h _;obtain⟨v,hv,hr⟩:=qKk h hp hob;unfold Oper.wp;rw[hv];exact⟨v,M,rfl,Ext.same h rfl rfl rfl rfl,qPJ hr hf,λi k o h=>(by cases h),λi hi=> .inl hi⟩
end Go.SL

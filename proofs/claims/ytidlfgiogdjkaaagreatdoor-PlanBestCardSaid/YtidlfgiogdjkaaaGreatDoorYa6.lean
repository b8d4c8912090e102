import Derived.Test.YtidlfgiogdjkaaaGreatDoorYa5
import Derived.ChangeArms
import Derived.Shelf.Sort.Plain
import Derived.Shelf.Slices.In.SortNone
import Derived.Shelf.Lay
set_option linter.unusedVariables false
set_option linter.unusedSimpArgs false
namespace Go.SL
open Go.RowKit
def lpS (c:Nat):LoopState:=bif Nat.beq c 0 then .ready else .done
def lpJ (js:List Code) (c:Nat):Option Code:=bif Nat.beq c 0 then none else js[c-1]?
theorem qRI {K:Ctx} {M0 M:Mem} {st:St} {a:Act} {w':World} {x:V} {ob:List (Nat×(Nat×O))} {v:Value} (hA:∀b,K.A b↔M0.A b) (hIn:∀i b,K.In i=some b->(∃k',M0.ver i=some k')/\M0.blk i=some b) (hIn2:∀i k,M0.ver i=some k->K.In i=M0.blk i)
  (hsim:Sim1 K M st a w') (hv:VRep w' M x v) (hob:ob.map (λp=>look p.1 st.objs)=ob.map λp=>some p.2):DQ M0.owns K.w0 w'/\BS K.w0 w'/\qEe K.w0 w' M0 (M.keep ob) K.m x ob v:=by
 refine⟨⟨hsim.1.below.os,hsim.1.below.tape,hsim.1.below.output,hsim.1.below.size,λb hb hnb=>hsim.1.below.block b hb fun⟨i,hi⟩=>?_,hsim.1.below.drawn⟩,hsim.1.shape,
  ⟨λi hi=>?_,λi j k l b hi hj hbi hbj=>hsim.1.inj i j k l b (jH hi) (jH hj) hbi hbj,λi k b hvi hbi=>?_,λi k k' him hk hv'=>?_,λb=>?_,qFy hv,λi k o ho=>?_⟩⟩
 ·obtain⟨⟨k',hk'⟩,hbk⟩:=hIn i b hi;exact hnb ⟨i,k',hk',hbk⟩
 ·simp only[Mem.keep] at hi;split at hi
  ·assumption
  ·exact absurd rfl hi
 ·obtain⟨h1,h2⟩:=hsim.1.rng i k b (jH hvi) hbi;exact⟨h1.imp id (hIn i b),h2⟩
 ·have:=hsim.1.fix i k' him (jH hv');rw[hIn2 i k hk] at this;exact this
 ·show M.A b↔_;rw[hsim.1.area b,hA b]
 ·exact qFz (by rw[ho];rfl) (hsim.1.objs i k o (qCp (g:=λs=>look s st.objs) hob ho))
def DO (l:List (Nat×Value)) (tmps:Array Value):Array Value:=l.foldl (λt p=>t.setIfInBounds p.1 p.2) tmps
theorem qH1 :∀(l:List (Nat×Value)) (tmps:Array Value),(DO l tmps).size=tmps.size
 |[],_=>rfl
 |p::r,tmps=>by
  show(DO r _).size=_;rw[qH1];simp
theorem qEM :∀(l:List (Nat×Value)) (tmps:Array Value) (s:Nat),(∀p∈l,p.1≠s)->(DO l tmps).getD s undef=tmps.getD s undef
 |[],_,_,_=>rfl
 |p::r,tmps,s,h=>by
  show(DO r _).getD s undef=_;rw[qEM r _ s λq hq=>h q (List.mem_cons_of_mem _ hq)];simp only[Array.getD_eq_getD_getElem?];rw[Array.getElem?_setIfInBounds_ne (h p List.mem_cons_self)]
theorem qMR :∀(l:List (Nat×Value)) (tmps:Array Value) (s:Nat) (v:Value),(l.map Prod.fst).Nodup->(s,v)∈l->s<tmps.size->(DO l tmps).getD s undef=v
 |[],_,_,_,_,h,_=>by cases h
 |p::r,tmps,s,v,hn,h,hlt=>by
  rw[List.map_cons,List.nodup_cons] at hn;show(DO r _).getD s undef=_;rcases List.mem_cons.1 h with e|h
  ·subst e;rw[qEM r _ s λq hq e=>hn.1 (List.mem_map.2 ⟨q,hq,e⟩)];simp[Array.getD_eq_getD_getElem?,hlt]
  ·exact qMR r _ s v hn.2 h (by simpa using hlt)
def qFA :List Nat->List V1->List (Nat×V)
 |t::ts,x::xs=>(t,.v x)::qFA ts xs
 |_,_=>[]
theorem qH6 :∀{ts:List Nat} {xs:List V1} {s:Nat} {x:V},look s (qFA ts xs)=some x->∃j,j<xs.length/\ts[j]? =some s/\x= .v (xs.getD j (.one .unk))
 |[],_,_,_,h=>by cases h
 |_::_,[],_,_,h=>by cases h
 |t::ts,y::xs,s,x,h=>by
  simp only[qFA,look_cons] at h;split at h
  ·rename_i hk;subst hk;cases h;exact⟨0,by simp,rfl,rfl⟩
  ·obtain⟨j,h1,h2,h3⟩:=qH6 h;exact⟨j+1,by simpa using h1,by simpa using h2,by simpa using h3⟩
def qF9 :List Nat->Bool
 |[]=>true
 |x::r=>!(r.any (Nat.beq x))&&qF9 r
theorem qGF :∀{l:List Nat},qF9 l=true->l.Nodup
 |[],_=> .nil
 |x::r,h=>by
  simp only[qF9,Bool.and_eq_true,Bool.not_eq_true',List.any_eq_false] at h;refine List.nodup_cons.2 ⟨λhx=>h.1 x hx (Nat.beq_refl x),qGF h.2⟩
def CtR (P:Program) (gl:List (Nat×C)) (R:WI) (b:Nat) (ts:List Nat) (n m:Nat) (xs:List V1) (oi:List (Nat×(Nat×O))) (x:V) (ob:List (Nat×(Nat×O))):Prop:=
 ∀(w:World) (M:Mem) (args:Array Value) (cap:Array Value),args.size=R.params.size->cap.size=ts.length->(∀j,j<ts.length->cap.getD j undef=R.tmps.getD (ts.getD j 0) undef)->qBi gl w M.A->InOk w M n oi->qGk w M xs (args++cap)->
  RoundIn Fence.wide 0 P b R.fn (DO (R.params.toList.zip args.toList) R.tmps) R.assign R.body w λe w'=>∃v M',e= .returned v/\DQ M.owns w w'/\BS w w'/\qEe w w' M M' m x ob v
def qS4 :Exit->Option (Option Code)
 | .normal=>some none
 | .ret=>some (some .ret)
 | .exit id=>some (some (.exit id))
 |_=>none
def qN2 (R:WI) (b:Nat) (js:List Code) (c:Nat) (ob2:List (Nat×(Nat×O))) (e:Exit) (st:St):Prop:=
 qS4 e=some (lpJ js c)/\Nat.beq c 0=(lpJ js c).isNone/\look 0 st.rev.objs=some (0,.lp R b .busy none)/\ob2.map (λp=>look p.1 ((0,(0,.lp R b (lpS c) (lpJ js c)))::st.rev.objs))=ob2.map λp=>some p.2
def RdH (K:Ctx) (R:WI) (b:Nat) (js:List Code) (c:Nat) (ob2:List (Nat×(Nat×O))) (st:St):Prop:=
 ∃k,look 0 st.objs=some (k,.lp R b .ready none)/\H K ⟨st.slots,(0,(k,.lp R b .busy none))::st.objs⟩ R.body (qN2 R b js c ob2)
theorem qTP {P:Program} {gl:List (Nat×C)} {R:WI} {b:Nat} {ts:List Nat} {n m nt:Nat} {xs:List V1} {oi ob2:List (Nat×(Nat×O))} {js:List Code} {c:Nat} (hm:P.follows .mixedOrders=true) (hT:R.tmps.size=nt)
  (hps:(qF9 (R.params.toList++ts)&&(R.params.toList.all (λt=>Nat.blt t nt)&&Nat.beq xs.length (R.params.toList++ts).length))=true)
  (h:∀(w:World) (A:Nat->Prop) (In:Nat->Option Nat) (hI:∀i b,In i=some b->i<n/\b<w.heap.size/\¬A b) (hg:qBi gl w A),
   H {P:=P,w0:=w,nt:=nt,A:=A,globs:=gl,mixed:=hm,glob:=hg,n:=n,m:=m,In:=In,hIn:=hI,rnd:=some b} {slots:=qFA (R.params.toList++ts) xs,objs:=oi} R.assign
    (qBo (λ_ _=>False) (RdH {P:=P,w0:=w,nt:=nt,A:=A,globs:=gl,mixed:=hm,glob:=hg,n:=n,m:=m,In:=In,hIn:=hI,rnd:=some b} R b js c ob2))):
  CtR P gl R b ts n m xs oi (.v (.one (.val (.bool (Nat.beq c 0))))) ((0,(0,.lp R b (lpS c) (lpJ js c)))::ob2):=by
 intro w M args cap has hcs hcap hg hin ha;subst hT;simp only[Bool.and_eq_true] at hps;obtain⟨hnd,hlt,hxl⟩:=hps;have hnd:=qGF hnd;have hxl:=Nat.eq_of_beq_eq_true hxl;have hI:∀i b,(λi=>if M.ver i=none then none else M.blk i) i=some b->i<n/\b<w.heap.size/\¬M.A b:=λi b hi=>by
  simp only at hi;split at hi
  ·cases hi
  ·rename_i hv;obtain⟨k,hk⟩:=Option.ne_none_iff_exists'.1 hv;exact hin.rng i k b hk hi
 have himm:∀b,M.imm b->b<w.heap.size->Mem.imm {M with A:=λb=>M.A b\/w.heap.size<=b} b:=λb hb _=>⟨.inl hb.1,hb.2⟩
 have hir:∀{c:C} {v:Value},IRep w M.imm c v->IRep w (Mem.imm {M with A:=λb=>M.A b\/w.heap.size<=b}) c v:=λhr=>hr.move (λ_ _ _=>rfl) himm;have hcr:∀{c:C} {v:Value},CRep w M c v->CRep w {M with A:=λb=>M.A b\/w.heap.size<=b} c v:=fun{c v} hr=>by
  cases c with
  |own id k sz len=>exact hr
  |sub id k sz off len=>exact hr
  |bptr id k j=>exact hr
  |rptr id k sz i j=>exact hr
  |fn g caps=>
   obtain⟨vs,h1,h2,h3⟩:=hr;refine⟨vs,h1,h2,λj hj=>?_⟩;have:=h3 j hj;generalize caps.getD j .unk=c at this;cases c with
   |bptr id k j=>exact this
   |_=>exact hir this
  |yl R b ts caps=>
   refine⟨hr.1,λj hj=>?_⟩;have:=hr.2 j hj;generalize caps.getD j .unk=c at this;cases c with
   |bptr id k j=>exact this
   |_=>exact hir this
  |unk=>exact hr
  |val v=>exact hir hr
  |emp=>exact hir hr
  |lst n f=>exact hir hr
  |lptr cs=>exact hir hr
  |aptr n sz f=>exact hir hr
 have hfst:(R.params.toList.zip args.toList).map Prod.fst=R.params.toList:=by
  rw[List.map_fst_zip];simp[has]
 have hIn:∀i b,(if M.ver i=none then none else M.blk i)=some b->(∃k',M.ver i=some k')/\M.blk i=some b:=λi b hi=>by
  split at hi
  ·cases hi
  ·rename_i hne;exact⟨Option.ne_none_iff_exists'.1 hne,hi⟩
 have hIn2:∀i k,M.ver i=some k->(if M.ver i=none then none else M.blk i)=M.blk i:=λi k hk=>by simp[hk]
 refine roundIn_of_wpIn trivial (wpIn_mono (h w M.A _ hI hg {M with A:=λb=>M.A b\/w.heap.size<=b} _ w ⟨⟨hin.inj,λi k b hv hb=>?_,λi k _ hv=>?_,DQ.refl _ _,BS.refl _,λb=>Iff.rfl,?_,CM.nil,?_,?_⟩,?_⟩) ?_)
 ·refine⟨.inr ?_,(hin.rng i k b hv hb).2.1⟩;have hv':M.ver i=some k:=hv;simp only[hv',reduceCtorEq,if_false];exact hb
 ·have hv':M.ver i=some k:=hv;simp only[hv',reduceCtorEq,if_false]
 ·exact qH1 _ _
 ·intro s y hy;obtain⟨j,hj,hts,rfl⟩:=qH6 hy;have h1:=ha.2 j hj;have hval:(DO (R.params.toList.zip args.toList) R.tmps).getD s undef=(args++cap).getD j undef:=by
   by_cases hjp:j<R.params.size
   ·rw[List.getElem?_append_left (by simpa using hjp)] at hts;have hja:j<args.size:=by omega
    have e2:(args++cap).getD j undef=args[j]:=by
     simp only[Array.getD_eq_getD_getElem?,Array.getElem?_append_left hja,Array.getElem?_eq_getElem hja,Option.getD_some]
    rw[e2];have hpj:R.params.toList[j]'(by simpa using hjp)=s:=(List.getElem?_eq_some_iff.1 hts).2;refine qMR _ _ _ _ (by rw[hfst];exact(List.nodup_append.1 hnd).1) ?_ ?_
    ·have:(R.params.toList.zip args.toList)[j]'(by simp[List.length_zip];omega)=(s,args[j]):=by
      rw[List.getElem_zip];exact Prod.ext hpj (by simp)
     rw[<-this];exact List.getElem_mem _
    ·have:=List.all_eq_true.1 hlt s (List.mem_of_getElem? hts);simpa[Nat.blt_eq] using this
   ·have hj2:j-R.params.size<ts.length:=by
     simp only[List.length_append,Array.length_toList] at hxl;omega
    rw[List.getElem?_append_right (by simp;omega)] at hts;simp only[Array.length_toList] at hts;have e2:(args++cap).getD j undef=cap.getD (j-R.params.size) undef:=by
     simp only[Array.getD_eq_getD_getElem?];rw[Array.getElem?_append_right (by omega),has]
    rw[e2,hcap _ hj2,qEM]
    ·rw[List.getD_eq_getElem?_getD,hts];rfl
    ·rintro p hp rfl;have hm1:p.1∈R.params.toList:=by rw[<-hfst];exact List.mem_map.2 ⟨p,hp,rfl⟩
     have hm2:p.1∈ts:=List.mem_of_getElem? hts;exact(List.nodup_append.1 hnd).2.2 _ hm1 _ hm2 rfl
  rw[hval];show qO _ _ _ _;generalize xs.getD j (.one .unk)=y at h1;cases y with
  |one c=>exact hcr h1
  |agg cs=>obtain⟨us,hu,hc⟩:=h1;exact⟨us,hu,hc.1,λj hj=>hcr (hc.2 j hj)⟩
 ·intro i k o ho;have:=hin.objs i k o ho;cases o with
  |box e cs=>obtain⟨h1,b,arr,h2,h3,h4⟩:=this;exact⟨h1,b,arr,h2,h3,h4.1,λj hj=>hcr (h4.2 j hj)⟩
  |row e sz n f=>
   refine⟨this.1,?_⟩;rcases this.2 with h0|⟨b,arr,h2,h3,h4,h5⟩
   ·exact .inl h0
   ·exact .inr ⟨b,arr,h2,h3,h4,λi hi=>⟨(h5 i hi).1,λj hj=>hir ((h5 i hi).2 j hj)⟩⟩
  |lp R b s j=>exact this
 ·intro i hi;exact hin.only i hi
 ·rintro e a1 w1 ⟨M1,st1,hq,hsim⟩;cases e with
  |normal=>
   obtain⟨k,hl,hbody⟩:=hq;obtain⟨_,_,hh⟩:=hsim.1.objs 0 k _ hl;refine⟨_,run_beginRound hh rfl,wpIn_mono (hbody M1 a1 _ (hsim.setLp hl .busy none)) ?_⟩;rintro e a2 w2 ⟨M2,st2,⟨hj,hc0,hl2,hob⟩,hsim2⟩;have hrev:=hsim2.rev;obtain⟨_,_,hh2⟩:=hrev.1.objs 0 0 _ hl2;have hset:=hrev.setLp hl2 (lpS c) (lpJ js c);have hend:∀jj,jj=lpJ js c->(Instr.endRound b jj).run P w2= .ok (.bool (Nat.beq c 0)) (w2.putObj b (.loop (R.at (lpS c) (lpJ js c)))):=λjj e=>by
    subst e;rw[run_endRound _ hh2,<-hc0];have:(if Nat.beq c 0=true then LoopState.ready else .done)=lpS c:=by unfold lpS;cases Nat.beq c 0<;>rfl
    rw[this];rfl
   obtain⟨r1,r2,r3⟩:=qRI (M0:=M) (x:= .v (.one (.val (.bool (Nat.beq c 0))))) (v:= .bool (Nat.beq c 0)) (ob:=(0,(0,.lp R b (lpS c) (lpJ js c)))::ob2) (λ_=>Iff.rfl) hIn hIn2 hset (QK _ rfl) (by
    rw[List.map_cons,List.map_cons,hob]
    congr 1)
   cases e with
   |normal=>exact⟨_,_,hend _ (Option.some.inj hj),_,_,rfl,r1,r2,r3⟩
   |ret=>exact⟨_,_,hend _ (Option.some.inj hj),_,_,rfl,r1,r2,r3⟩
   |exit id=>exact⟨_,_,hend _ (Option.some.inj hj),_,_,rfl,r1,r2,r3⟩
   |goto l=>cases hj
   |panic c=>cases hj
   |outgrown=>cases hj
  |_=>exact hq.elim
end Go.SL
namespace Go.SL
open Go.RowKit
def ylOf (gl:List (Nat×C)) (st:St) (f:Operand):Option (WI×Nat×List Nat×List C):=
 match op1 gl st f with
 |some (.one (.yl R b ts caps))=>some (R,b,ts,caps)
 |_=>none
def ylIn (gl:List (Nat×C)) (st:St) (ren:List (Nat×Nat)) (lid:Nat) (op:Op):Option (WI×Nat×List Nat×List V1×Option Prop×Bool×List (Nat×(Nat×O))):=
 match AC op with
 |some (fo,args)=>(match ylOf gl st fo,opsV gl st args,PP st ren 0 ren,look lid st.objs with
  |some (R,b,ts,caps),some ys,some oi,some (_,.lp _ _ _ _)=>bif Nat.beq ys.length R.params.size&&Nat.beq caps.length ts.length then(match DX st ren (ys++caps.map V1.one) with|some (xs,p,bb)=>some (R,b,ts,xs,p,bb,oi)|none=>none) else none
  |_,_,_,_=>none)
 |none=>none
theorem qSF {gl:List (Nat×C)} {st:St} {ren:List (Nat×Nat)} {lid:Nat} {op:Op} {R:WI} {b:Nat} {ts:List Nat} {xs:List V1} {p:Option Prop} {bb:Bool} {oi:List (Nat×(Nat×O))} (h:ylIn gl st ren lid op=some (R,b,ts,xs,p,bb,oi)):
  ∃fo args caps ys,AC op=some (fo,args)/\op1 gl st fo=some (.one (.yl R b ts caps))/\opsV gl st args=some ys/\PP st ren 0 ren=some oi/\ys.length=R.params.size/\caps.length=ts.length/\DX st ren (ys++caps.map V1.one)=some (xs,p,bb):=by
 unfold ylIn at h;split at h
 ·rename_i fo args hco;split at h
  ·rename_i R' b' ts' caps ys oi' _ _ _ _ _ hce hys hoi hl;cases hbb:Nat.beq ys.length R'.params.size&&Nat.beq caps.length ts'.length with
   |false=>rw[hbb] at h;cases h
   |true=>
    rw[hbb] at h;simp only[cond_true] at h;split at h
    ·rename_i xs2 p2 b2 hia;cases h;unfold ylOf at hce;split at hce
     ·rename_i R2 b2 ts2 caps2 hfo;cases hce;rw[Bool.and_eq_true] at hbb;exact⟨fo,args,caps,ys,hco,hfo,hys,hoi,Nat.eq_of_beq_eq_true hbb.1,Nat.eq_of_beq_eq_true hbb.2,hia⟩
     ·cases hce
    ·cases h
  ·cases h
 ·cases h
theorem qTB (ps:Array Tmp) (vs:Array Value) (tmps:Array Value):(ps.zip vs).foldl (λt (x:Tmp×Value)=>t.setIfInBounds x.1 x.2) tmps=DO (ps.toList.zip vs.toList) tmps:=by
 unfold DO;rw[<-Array.foldl_toList,Array.toList_zip]
theorem qRM {K:Ctx} {st:St} {op:Oper} {R:WI} {b:Nat} {ts:List Nat} {ren:List (Nat×Nat)} {outs:List Nat} {c m lid kl:Nat} {s:LoopState} {jj:Option Code} {xs' xs:List V1} {p:Option Prop} {bb:Bool} {oi:List (Nat×(Nat×O))} {x:V} {ob:List (Nat×(Nat×O))}
  (hin:ylIn K.globs st ren lid op.op=some (R,b,ts,xs',p,bb,oi)) (hl:look lid st.objs=some (kl,.lp R b s jj)) (hp:oP p) (hxs:xs'=xs) (hct:CtR K.P K.globs R b ts ren.length m xs oi x ob)
  (hok:(Out.ok ⟨ren,outs,c⟩ m ob&&(x.closed ob&&ob.all (λq=>q.2.2.closed ob)))=true) (hb:bb=true\/(x.noLst=true/\yT ob)):
  Step K st op (TT ⟨ren,outs,c⟩ m ob) (ZN ⟨ren,outs,c⟩ ob) (x.out ⟨ren,outs,c⟩):=by
 subst hxs;obtain⟨fo,args,caps0,ys,hco,hfo,hys,hoi,hyp,hct2,hia⟩:=qSF hin;intro M a w h _;obtain⟨hcv,hcr⟩:=op1_rep h hfo;obtain⟨hyl,hyr⟩:=FL h hys;obtain⟨_,_,hh⟩:=h.objs lid kl _ hl;have hcapg:∀j,j<ts.length->((ts.map λt=>R.tmps.getD t undef).toArray).getD j undef=R.tmps.getD (ts.getD j 0) undef:=λj hj=>by
  simp[Array.getD_eq_getD_getElem?,List.getD_eq_getElem?_getD,hj]
 obtain⟨Mi,hgl,hinok,hargs,hfin⟩:=qFS (c:=c) h hoi hia hp (vals:=(args.map a.eval).toArray++(ts.map λt=>R.tmps.getD t undef).toArray) (by simp[hyl,hct2]) (qII (by simp[hyl]) hyr (λj hj=>by rw[hcapg j (by omega)];exact hcr j hj)) hok hb;have hnd:=qEX hco;refine⟨λ_ _=>trivial,?_⟩;rw[Oper.semAt_eq _ _ _ (qHU hnd)];have hrun:(execOp a.eval op).run K.P w= .ok (.round b R.fn (DO (R.params.toList.zip (args.map a.eval)) R.tmps) R.assign R.body) w:=by
  unfold AC at hco;split at hco
  ·rename_i f' args' ats heq;cases hco;have hsz:(args'.map a.eval).size=(R.at s jj).params.size:=by
    show _=R.params.size;rw[<-hyp,hyl];simp
   have hy:=run_yield (P:=K.P) hh hsz;unfold execOp;rw[heq];simp only[resolve,hcv,Deferred.ofValue,Sem.run_bind,Sem.run_pure,Result.andThen_ok,invoke];have e0:(#[]:Array Value)++args'.map a.eval=args'.map a.eval:=by simp
   first|rw[e0]|skip
   rw[hy]
   congr 2
   rw[qTB];simp[WI.at]
  ·cases hco
 rw[hrun,Oper.uponIn_round];refine⟨qEb,?_⟩;have hr:=hct w Mi (args.map a.eval).toArray (ts.map λt=>R.tmps.getD t undef).toArray (by rw[<-hyp,hyl];simp) (by simp) hcapg hgl hinok hargs;have hr2:RoundIn K.F (0-1) K.P b R.fn (DO (R.params.toList.zip (args.map a.eval)) R.tmps) R.assign R.body w _:=hr;refine RoundIn.mono hr2 ?_;rintro e w' ⟨v,R',rfl,hbel,hshape,hret⟩;obtain⟨M',h1,h2,h3,h4⟩:=hfin v R' w' hbel hshape hret;exact⟨v,M',rfl,h1,h2,h3,h4⟩
end Go.SL
namespace Go.SL
open Go.RowKit
structure RI (nt:Nat) where
 fn:FuncId
 T:Array Value
 D:Nat
 b:Nat
 hT:T.size=nt
def psOf :Code->Array Tmp
 | .rangeFunc _ ps _ _=>ps
 |_=> #[]
def rc {nt:Nat} (f:Func) (nn:Nat) (ri:RI nt):WI:=⟨ri.fn,ri.T,psOf (nd f nn),nd f (2*nn),nd f (2*nn+1),ri.D⟩
def qAA (st:St):List Nat->Option (List V1)
 |[]=>some []
 |t::r=>match look t st.slots,qAA st r with|some (.v x),some xs=>some (x::xs)|_,_=>none
theorem qS1 {st:St} (ts:List Nat) (o:List (Nat×(Nat×O))):qAA ⟨st.slots,o⟩ ts=qAA st ts:=by
 induction ts with
 |nil=>rfl
 |cons t r ih=>simp only[qAA,ih]
theorem qKX {K:Ctx} {M:Mem} {st:St} {a:Act} {w:World} (h:Sim K M st a w):∀{ts:List Nat} {xs:List V1},qAA st ts=some xs->xs.length=ts.length/\∀j,j<xs.length->qO w M (xs.getD j (.one .unk)) (a.tmps.getD (ts.getD j 0) undef)
 |[],_,hr=>by cases hr;exact⟨rfl,λj hj=>absurd hj (Nat.not_lt_zero j)⟩
 |t::r,xs,hr=>by
  simp only[qAA] at hr;split at hr
  ·rename_i x xs' h1 h2;cases hr;obtain⟨i1,i2⟩:=qKX h h2;refine⟨by simp[i1],λj hj=>?_⟩;cases j with
   |zero=>exact h.slots t _ h1
   |succ j=>simpa using i2 j (by simpa using hj)
  ·cases hr
def rfIn (gl:List (Nat×C)) (st:St) (R:WI) (b:Nat) (g:Operand) (ts:List Nat) (lid:Nat) (ren:List (Nat×Nat)):Option (FuncId×List V1×Option Prop×Bool×List (Nat×(Nat×O))):=
 match op1 gl st g,qAA st ts with
 |some (.one (.fn f caps)),some ys=>(match qED ys with
  |some tcs=>(match PP ⟨st.slots,(lid,(0,.lp R b .ready none))::st.objs⟩ ren 0 ren,DX ⟨st.slots,(lid,(0,.lp R b .ready none))::st.objs⟩ ren (.one (.yl R b ts tcs)::caps.map V1.one) with
   |some oi,some (xs,p,bb)=>some (f,xs,p,bb,oi)
   |_,_=>none)
  |none=>none)
 |_,_=>none
theorem qTu {gl:List (Nat×C)} {st:St} {R:WI} {b:Nat} {g:Operand} {ts:List Nat} {lid:Nat} {ren:List (Nat×Nat)} {f:FuncId} {xs:List V1} {p:Option Prop} {bb:Bool} {oi:List (Nat×(Nat×O))} (h:rfIn gl st R b g ts lid ren=some (f,xs,p,bb,oi)):
  ∃caps ys tcs,op1 gl st g=some (.one (.fn f caps))/\qAA st ts=some ys/\qED ys=some tcs/\PP ⟨st.slots,(lid,(0,.lp R b .ready none))::st.objs⟩ ren 0 ren=some oi/\DX ⟨st.slots,(lid,(0,.lp R b .ready none))::st.objs⟩ ren (.one (.yl R b ts tcs)::caps.map V1.one)=some (xs,p,bb):=by
 unfold rfIn at h;split at h
 ·rename_i f' caps ys h1 h2;split at h
  ·rename_i tcs h3;split at h
   ·rename_i oi' xs' p' bb' h4 h5;cases h;exact⟨caps,ys,tcs,h1,h2,h3,h4,h5⟩
   ·cases h
  ·cases h
 ·cases h
def JQ (K:Ctx) (js:List Code) (cd:Nat) (want:St) (Q:Exit->St->Prop):Prop:=match lpJ js cd with|none=>Q .normal want|some j=>H K want j Q
theorem JQ_n {K:Ctx} {js:List Code} {cd:Nat} {want:St} {Q:Exit->St->Prop} (h:Nat.beq cd 0=true) (hq:Q .normal want):JQ K js cd want Q:=by
 unfold JQ lpJ;rw[h];exact hq
theorem JQ_j {K:Ctx} {js:List Code} {cd:Nat} {want:St} {Q:Exit->St->Prop} (i:Nat) (j:Code) (h:Nat.beq cd (i+1)=true) (hj:js[i]? =some j) (hq:H K want j Q):JQ K js cd want Q:=by
 have:=Nat.eq_of_beq_eq_true h;subst this;unfold JQ lpJ;have e:Nat.beq (i+1) 0=false:=rfl;rw[e];simp only[cond_false,Nat.add_sub_cancel,hj];exact hq
theorem qQh {K:Ctx} {st:St} {Q:Exit->St->Prop} {c:Code} (fn0:Func) (nn:Nat) (g:Operand) (hc:c= .rangeFunc g (psOf (nd fn0 nn)) (nd fn0 (2*nn)) (nd fn0 (2*nn+1))) (hr:K.rnd=none)
  {f:FuncId} (ts:List Nat) (lid:Nat) (ren:List (Nat×Nat)) (outs:List Nat) (c0 m:Nat) (js:List Code) (cd kl:Nat) {x:V} (want:St) {xs:RI K.nt->List V1} {oi ob:RI K.nt->List (Nat×(Nat×O))}
  (hin:∀ri,rfIn K.globs st (rc fn0 nn ri) ri.b g ts lid ren=some (f,xs ri,none,true,oi ri))
  (hfree:(st.freeB [(lid,0)]&&Nat.ble K.m lid)=true) (hct:∀ri,CtX K.P K.globs f ren.length m (xs ri) (oi ri) x (ob ri)) (hfn:fnOk K.P f=true)
  (hok:∀ri,(Out.ok ⟨ren,outs,c0⟩ m (ob ri)&&(x.closed (ob ri)&&(ob ri).all (λq=>q.2.2.closed (ob ri))))=true)
  (hnv:∀ri,(nvOk (TT ⟨ren,outs,c0⟩ m (ob ri)) (ZN ⟨ren,outs,c0⟩ (ob ri))&&(TB K.m (TT ⟨ren,outs,c0⟩ m (ob ri))&&(St.mk st.slots ((lid,(0,.lp (rc fn0 nn ri) ri.b .ready none))::st.objs)).freeB (TT ⟨ren,outs,c0⟩ m (ob ri))))=true)
  (hlp:∀ri,look lid (ZN ⟨ren,outs,c0⟩ (ob ri))=some (kl,.lp (rc fn0 nn ri) ri.b (lpS cd) (lpJ js cd)))
  (hw:∀ri,Sub want (St.rev ⟨st.slots,(lid,(kl,.lp (rc fn0 nn ri) ri.b .exhausted (lpJ js cd)))::(ZN ⟨ren,outs,c0⟩ (ob ri)++(lid,(0,.lp (rc fn0 nn ri) ri.b .ready none))::st.objs)⟩))
  (hk:JQ K js cd want Q):H K st c Q:=by
 subst hc;intro M a w hs;refine wpIn_rangeFunc λfid _=>?_
 let ri:RI K.nt:=⟨fid,a.tmps,w.heap.size,w.heap.size+1,hs.1.size⟩
 obtain⟨caps,ys,tcs,hg,hys,htc,hoi,hia⟩:=qTu (hin ri);obtain⟨capv,hcv,hcs,hcr⟩:=op1_rep hs.1 hg;rw[Bool.and_eq_true] at hfree
 -- the record is laid
 let w1:=(w.alloc (.deferred (some []))).alloc (.loop ((rc fn0 nn ri).at .ready none))
 have hw1s:w1.heap.size=w.heap.size+2:=by simp[w1,World.size_alloc]
 have hold:∀b,b<w.heap.size->w1.heap[b]? =w.heap[b]? :=λb hb=>by
  simp only[w1,World.alloc];rw[Array.getElem?_push_lt (by simp;omega),Array.getElem_push_lt hb,Array.getElem?_eq_getElem hb]
 have hD:w1.heap[w.heap.size]? =some (.deferred (some [])):=by
  simp only[w1,World.alloc];rw[Array.getElem?_push_lt (by simp),Array.getElem_push_eq]
 have hB:w1.heap[w.heap.size+1]? =some (.loop ((rc fn0 nn ri).at .ready none)):=by
  have:=World.alloc_heap_new (w.alloc (.deferred (some []))) (.loop ((rc fn0 nn ri).at .ready none));rw[World.size_alloc] at this;exact this
 have hext:Ext M w (M.put lid 0 (some (w.heap.size+1))) w1 (hits [(lid,(0,.lp (rc fn0 nn ri) (w.heap.size+1) .ready none))]) (qZ [(lid,0)]):=
  Ext.put hs.1 (λb' e=>by cases e;exact⟨by omega,.inl (by omega)⟩) (λb hb _=>hold b hb) (λb arr e hb=>⟨arr,by rw[hold b (Array.getElem?_eq_some_iff.1 hb).1];exact hb,rfl⟩) (by omega) rfl rfl rfl
 have hsim1:=hs.step (dst:=none) (x:= .any) (v:=undef) hext trivial (λi k o hl=>by
   obtain⟨rfl,rfl,rfl⟩:=yU hl;exact⟨by simp[Mem.put],by simp[Mem.put],hB⟩) (λi hi=>by
   simp only[Mem.put] at hi;split at hi
   ·rename_i e;exact .inr (hits_one.2 e)
   ·exact .inl hi) (by simp[nvOk,hits,look]) (St.free_of hfree.1) (by simpa[TB] using hfree.2) (λd hd=>by cases hd)
 have hdef:CM w1 (M.put lid 0 (some (w.heap.size+1))) K.w0.heap.size ({target:= .collected w.heap.size,args:= #[]}::a.defers):=by
  refine⟨λd hd=>?_,List.pairwise_cons.2 ⟨λd hd=>?_,hsim1.1.defers.2⟩⟩
  ·rcases List.mem_cons.1 hd with rfl|hd
   ·refine⟨w.heap.size,rfl,hs.1.below.size,hD,fun⟨i,k,hv,hb⟩=>?_⟩;simp only[Mem.put] at hv hb;split at hb
    ·have:=Option.some.inj hb;omega
    ·rename_i hne;rw[if_neg hne] at hv;have:=(hs.1.rng i k _ hv hb).2;omega
   ·exact hsim1.1.defers.1 d hd
  ·rintro rfl;obtain⟨E,he,_,h3,_⟩:=hs.1.defers.1 _ hd;cases he;have:=(Array.getElem?_eq_some_iff.1 h3).1;omega
 have hsim2:Sim1 K (M.put lid 0 (some (w.heap.size+1))) ⟨st.slots,(lid,(0,.lp (rc fn0 nn ri) ri.b .ready none))::st.objs⟩ {a with defers:={target:= .collected w.heap.size,args:= #[]}::a.defers} w1:=
  ⟨⟨hsim1.1.inj,hsim1.1.rng,hsim1.1.fix,hsim1.1.below,hsim1.1.shape,hsim1.1.area,hsim1.1.size,hdef,hsim1.1.slots,hsim1.1.objs⟩,hsim1.2⟩
 obtain⟨capv2,hcv2,hcs2,hcr2⟩:=op1_rep hsim2.1 (show op1 K.globs ⟨st.slots,(lid,(0,.lp (rc fn0 nn ri) ri.b .ready none))::st.objs⟩ g=some (.one (.fn f caps)) from by rw[<-hg];rfl);have hcv3:capv2=capv:=by
  have e:a.eval g=({a with defers:={target:= .collected w.heap.size,args:= #[]}::a.defers}:Act).eval g:=rfl;rw[e,hcv2] at hcv;cases hcv;rfl
 subst hcv3;obtain⟨hyl,hyr⟩:=qKX hsim2.1 (ts:=ts) (xs:=ys) (by rw[<-hys];exact qS1 _ _);obtain⟨htl,htr⟩:=qCQ (w:=w1) (M:=M.put lid 0 (some (w.heap.size+1))) htc;have hyv:CRep w1 (M.put lid 0 (some (w.heap.size+1))) (.yl (rc fn0 nn ri) ri.b ts tcs) (.func (.yield (w.heap.size+1)) #[] #[]):=⟨rfl,λj hj=>htr j _ (by omega) (hyr j (by omega))⟩
 have hvals:=qII (w:=w1) (M:=M.put lid 0 (some (w.heap.size+1))) (ys:=[.one (.yl (rc fn0 nn ri) ri.b ts tcs)]) (caps0:=caps) (l:=[.func (.yield (w.heap.size+1)) #[] #[]]) (cap:=capv2) rfl (λj hj=>by
  obtain rfl:j=0:=by simp at hj;omega
  exact hyv) hcr2
 obtain⟨Mi,hgl,hinok,hargs,hfin⟩:=qFS (c:=c0) (outs:=outs) (x:=x) (ob:=ob ri) (m:=m) hsim2.1 hoi (p:=none) (b:=true) (xs':=xs ri) hia o0 (ys:=[.one (.yl (rc fn0 nn ri) ri.b ts tcs)]++caps.map V1.one) (vals:=[Value.func (.yield (w.heap.size+1)) #[] #[]].toArray++capv2) (by simp[hcs2];omega) hvals (hok ri) (.inl rfl);obtain⟨fn,hff,hfn⟩:∃fn,K.P.funcs[f]? =some fn∧(fn.body.isSome&&!(fn.name== "runtime.NumGoroutine"))=true:=by
  unfold fnOk at hfn;split at hfn
  ·rename_i fn hff;exact⟨fn,hff,hfn⟩
  ·cases hfn
 rw[Bool.and_eq_true] at hfn;obtain⟨cbody,hcb⟩:=Option.isSome_iff_exists.1 hfn.1;have hnm:¬fn.name= "runtime.NumGoroutine" :=by simpa using hfn.2
 have hF:K.F.round=none:=by unfold Ctx.F IT;exact hr
 refine⟨w.heap.size+1,[{target:= .collected w.heap.size,args:= #[]}],w1,{target:= .fn (.func f) capv2,args:= #[.func (.yield (w.heap.size+1)) #[] #[]]},w1,f, #[.func (.yield (w.heap.size+1)) #[] #[]]++capv2,w1,?_,?_,λ_ _=>trivial,?_,qEb,?_⟩
 ·rw[hF,run_enterLoop_outer];rfl
 ·have e1:(#[.const (.func (.yield (w.heap.size+1)) #[] #[])]:Array Operand).map a.eval= #[.func (.yield (w.heap.size+1)) #[] #[]]:=by simp[Act.eval]
  simp only[resolve,rangeCall,e1,hcv,Deferred.ofValue];rfl
 ·simp[invoke,callFunc,hff,hnm,hcb]
 ·refine qKB.2 (Calls.mono (hct ri w1 Mi _ hgl hinok hargs) ?_);rintro e w3 ⟨v,R',rfl,hbel,hshape,hret⟩;obtain⟨M',h1,h2,h3,h4⟩:=hfin v R' w3 hbel hshape hret;have hn:=hnv ri;rw[Bool.and_eq_true,Bool.and_eq_true] at hn;have hsim3:=hsim2.step (dst:=none) (x:= .any) (v:=undef) h1 trivial h3 h4 hn.1 (St.free_of hn.2.2) hn.2.1 (λd hd=>by cases hd);have hl3:look lid (ZN ⟨ren,outs,c0⟩ (ob ri)++(lid,(0,.lp (rc fn0 nn ri) ri.b .ready none))::st.objs)=some (kl,.lp (rc fn0 nn ri) ri.b (lpS cd) (lpJ js cd)):=by
   rw[CG,hlp ri];rfl
  obtain⟨_,_,hh⟩:=hsim3.1.objs lid kl _ hl3;have hset:=(hsim3.setLp hl3 .exhausted (lpJ js cd)).rev.sub (hw ri);refine⟨lpJ js cd,_,run_endLoop hh (by show lpS cd≠ .busy;unfold lpS;cases Nat.beq cd 0<;>simp),?_⟩;unfold JQ at hk;generalize hjj:lpJ js cd=jj at hk hset;cases jj with
  |none=>exact⟨_,want,hk,hset⟩
  |some j=>exact hk _ _ _ hset
end Go.SL
namespace Go.SL
theorem lpz_t {js:List Code} {c:Nat} (h:Nat.beq c 0=true):lpS c= .ready/\lpJ js c=none:=by
 unfold lpS lpJ;rw[h];exact⟨rfl,rfl⟩
theorem qJy {js:List Code} {c:Nat} (h:(!(Nat.beq c 0))=false):lpS c= .ready/\lpJ js c=none:=lpz_t (by simpa using h)
def lq (R:WI) (b:Nat):Nat×O:=(0,.lp R b .ready none)
def ly (R:WI) (b:Nat):Nat×O:=(0,.lp R b .busy none)
def lz (R:WI) (b:Nat) (js:List Code) (c:Nat):Nat×O:=(0,.lp R b (lpS c) (lpJ js c))
theorem qBv {K:Ctx} (st:St) (op:Oper) (ren:List (Nat×Nat)) (outs:List Nat) (c lid:Nat) {R:WI} {b:Nat} {ts:List Nat} {m:Nat} {xs' xs:List V1} {p:Option Prop} {bb:Bool} {oi:List (Nat×(Nat×O))} {x:V} {ob:List (Nat×(Nat×O))} (hp:oP p) (hxs:xs'=xs) (hct:CtR K.P K.globs R b ts ren.length m xs oi x ob) (hb:bb=true\/(x.noLst=true/\yT ob))
  (hin:(ylIn K.globs st ren lid op.op,look lid st.objs,Out.ok ⟨ren,outs,c⟩ m ob&&(x.closed ob&&ob.all (λq=>q.2.2.closed ob)))=(some (R,b,ts,xs',p,bb,oi),some (0,.lp R b .ready none),true)):
  Step K st op (TT ⟨ren,outs,c⟩ m ob) (ZN ⟨ren,outs,c⟩ ob) (x.out ⟨ren,outs,c⟩):=by
 simp only[Prod.mk.injEq] at hin;exact qRM hin.1 hin.2.1 hp hxs hct hin.2.2 hb
theorem q_rf {K:Ctx} {st:St} {Q:Exit->St->Prop} {fn:Func} {n:Nat} (g:Operand) {f:FuncId} (ts:List Nat) (lid:Nat) (ren:List (Nat×Nat)) (outs:List Nat) (c0 m:Nat) (js:List Code) (cd kl:Nat) {x:V} (want:St) {xs:RI K.nt->List V1} {oi ob:RI K.nt->List (Nat×(Nat×O))}
  (hct:∀ri,CtX K.P K.globs f ren.length m (xs ri) (oi ri) x (ob ri)) (hk:JQ K js cd want Q)
  (hc:nd fn n= .rangeFunc g (psOf (nd fn n)) (nd fn (2*n)) (nd fn (2*n+1)):=by kernel_rfl) (hr:K.rnd=none:=by exact rfl)
  (hin:∀ri,rfIn K.globs st (rc fn n ri) ri.b g ts lid ren=some (f,xs ri,none,true,oi ri):=by intro ri;kernel_rfl)
  (hfree:(st.freeB [(lid,0)]&&Nat.ble K.m lid)=true:=by kernel_rfl) (hfn:fnOk K.P f=true:=by kernel_rfl)
  (hok:∀ri,(Out.ok ⟨ren,outs,c0⟩ m (ob ri)&&(x.closed (ob ri)&&(ob ri).all (λq=>q.2.2.closed (ob ri))))=true:=by intro ri;kernel_rfl)
  (hnv:∀ri,(nvOk (TT ⟨ren,outs,c0⟩ m (ob ri)) (ZN ⟨ren,outs,c0⟩ (ob ri))&&(TB K.m (TT ⟨ren,outs,c0⟩ m (ob ri))&&(St.mk st.slots ((lid,(0,.lp (rc fn n ri) ri.b .ready none))::st.objs)).freeB (TT ⟨ren,outs,c0⟩ m (ob ri))))=true:=by intro ri;kernel_rfl)
  (hlp:∀ri,look lid (ZN ⟨ren,outs,c0⟩ (ob ri))=some (kl,.lp (rc fn n ri) ri.b (lpS cd) (lpJ js cd)):=by intro ri;kernel_rfl)
  (hw1:∀ri,want.slots.map (λp=>look p.1 (St.rev ⟨st.slots,(lid,(kl,.lp (rc fn n ri) ri.b .exhausted (lpJ js cd)))::(ZN ⟨ren,outs,c0⟩ (ob ri)++(lid,(0,.lp (rc fn n ri) ri.b .ready none))::st.objs)⟩).slots)=want.slots.map λp=>some p.2:=by intro ri;kernel_rfl)
  (hw2:∀ri,want.objs.map (λp=>look p.1 (St.rev ⟨st.slots,(lid,(kl,.lp (rc fn n ri) ri.b .exhausted (lpJ js cd)))::(ZN ⟨ren,outs,c0⟩ (ob ri)++(lid,(0,.lp (rc fn n ri) ri.b .ready none))::st.objs)⟩).objs)=want.objs.map λp=>some p.2:=by intro ri;kernel_rfl):H K st (nd fn n) Q:=
 qQh fn n g hc hr ts lid ren outs c0 m js cd kl want hin hfree hct hfn hok hnv hlp (λri=>⟨hw1 ri,hw2 ri⟩) hk
theorem q_rd {K:Ctx} {nt:Nat} {fn:Func} {nn:Nat} {ri:RI nt} {js:List Code} {c:Nat} {ob2:List (Nat×(Nat×O))} {st:St} (want:St) (h:H K want (nd fn (2*nn+1)) (qN2 (rc fn nn ri) ri.b js c ob2)) (k:Nat:=0) (hl:look 0 st.objs=some (k,.lp (rc fn nn ri) ri.b .ready none):=by kernel_rfl)
  (h1:want.slots.map (λp=>look p.1 (St.rev ⟨st.slots,(0,(k,.lp (rc fn nn ri) ri.b .busy none))::st.objs⟩).slots)=want.slots.map λp=>some p.2:=by kernel_rfl)
  (h2:want.objs.map (λp=>look p.1 (St.rev ⟨st.slots,(0,(k,.lp (rc fn nn ri) ri.b .busy none))::st.objs⟩).objs)=want.objs.map λp=>some p.2:=by kernel_rfl):RdH K (rc fn nn ri) ri.b js c ob2 st:=
 ⟨k,hl,H_sub want ⟨h1,h2⟩ h⟩
theorem q_rq {R:WI} {b:Nat} {js:List Code} {c:Nat} {ob2:List (Nat×(Nat×O))} {e:Exit} {st:St} (h1:qS4 e=some (lpJ js c):=by kernel_rfl) (h2:Nat.beq c 0=(lpJ js c).isNone:=by kernel_rfl) (h3:look 0 st.rev.objs=some (0,.lp R b .busy none):=by kernel_rfl)
  (h4:ob2.map (λp=>look p.1 ((0,(0,.lp R b (lpS c) (lpJ js c)))::st.rev.objs))=ob2.map (λp=>some p.2):=by kernel_rfl):qN2 R b js c ob2 e st:=⟨h1,h2,h3,h4⟩
end Go.SL
namespace Go.SL
open Go.RowKit Go.ChangeShapes Go.WideShapes
def CX (P:Program):List Field->Nat
 |[]=>0
 |f::r=>P.cellsOf f.type+CX P r
structure qJU (P:Program) (fs:List Field) (off:Nat) {T:Type} (e:T->List C) (wf:T->Prop) (D:∀H:Type,List (DataW H)->T->Prop):Prop where
 sz:∀r,(e r).length=CX P fs
 rd:∀(H:Type) (enc:TypeId×Value->H) (w:World) (held:Bool) (fuel:Nat) (cs:List Value) (xs:List (DataW H×List MemPlace)),xs.length=fs.length->(∀(i:Nat) (f:Field),fs[i]? =some f->DataW.trod enc P w 0 (λ_=>true) held fuel f.type ((cs.drop f.offset).take (P.cellsOf f.type))=xs[i]?)->
  ∃r,wf r/\Rc w (e r) ((cs.drop off).take (CX P fs))/\D H (xs.map (·.1)) r
def RT (H:Type) (ds:List (DataW H)) (_:Unit):Prop:=ds=[]
def zC {T0 T1:Type} (D0:∀H:Type,DataW H->T0->Prop) (D1:∀H:Type,List (DataW H)->T1->Prop) (H:Type) (ds:List (DataW H)) (r:T0×T1):Prop:=∃d rest,ds=d::rest/\D0 H d r.1/\D1 H rest r.2
def LM {T:Type} (D:∀H:Type,List (DataW H)->T->Prop) (H:Type) (d:DataW H) (r:T):Prop:=∃ds,d= .agg ds/\D H ds r
def MA {T S:Type} (g:T->S) (D:∀H:Type,DataW H->T->Prop) (H:Type) (d:DataW H) (s:S):Prop:=∃r,g r=s/\D H d r
theorem DU {P:Program} (off:Nat):qJU P [] off (λ_:Unit=>[]) (λ_=>True) RT:=
 ⟨λ_=>rfl,λH enc w held fuel cs xs hl _=>⟨(),trivial,⟨by simp[CX],λj hj=>by simp at hj⟩,by rw[RT];simpa using hl⟩⟩
theorem zF {P:Program} {f:Field} {fs:List Field} {off off':Nat} {T0 T1:Type} {e0:T0->List C} {e1:T1->List C} {wf0:T0->Prop} {wf1:T1->Prop} {D0:∀H:Type,DataW H->T0->Prop} {D1:∀H:Type,List (DataW H)->T1->Prop}
  (h0:jA P f.type e0 wf0 D0) (h1:qJU P fs off' e1 wf1 D1) (ho:f.offset=off) (ho':off+P.cellsOf f.type=off'):qJU P (f::fs) off (λr:T0×T1=>e0 r.1++e1 r.2) (λr=>wf0 r.1/\wf1 r.2) (zC D0 D1):=by
 refine⟨λr=>by rw[List.length_append,h0.sz,h1.sz];rfl,λH enc w held fuel cs xs hl hf=>?_⟩
 match xs,hl with
 |x::xs,hl=>
  have k0:=hf 0 f rfl;rw[List.getElem?_cons_zero] at k0;obtain⟨r0,w0,c0,d0⟩:=h0.rd _ _ _ _ _ _ _ k0;obtain⟨r1,w1,c1,d1⟩:=h1.rd H enc w held fuel cs xs (by simpa using hl) (λi f' hi=>by
   have:=hf (i+1) f' (by simpa using hi);simpa using this)
  refine⟨(r0,r1),⟨w0,w1⟩,?_,⟨x.1,xs.map (·.1),rfl,d0,d1⟩⟩;have:=c0.append c1;rw[ho] at this;have e:(cs.drop off).take (P.cellsOf f.type)++(cs.drop off').take (CX P fs)=(cs.drop off).take (CX P (f::fs)):=by
   rw[<-ho',<-List.drop_drop,CX,List.take_add]
  rwa [e] at this
theorem jL {P:Program} {t:TypeId} {fs:Array Field} {T:Type} {e:T->List C} {wf:T->Prop} {D:∀H:Type,List (DataW H)->T->Prop} (ht:P.underlying t=some (.struct fs)) (h:qJU P fs.toList 0 e wf D) (hs:P.cellsOf t=CX P fs.toList):jA P t e wf (LM D):=by
 refine⟨λr=>by rw[h.sz,hs],λH enc w held fuel cs x hx=>?_⟩;obtain⟨xs,n,_,rfl,hl,hlen,hf⟩:=DataW.trod_struct ht hx;obtain⟨r,h1,h2,h3⟩:=h.rd H enc w held n cs xs (by simpa using hlen) (λi f hi=>hf i f (by simpa using hi));refine⟨r,h1,?_,⟨_,rfl,h3⟩⟩;rw[List.drop_zero,List.take_of_length_le (by omega)] at h2;exact h2
theorem QN {P:Program} {t:TypeId} {T S:Type} {e:T->List C} {wf:T->Prop} {D:∀H:Type,DataW H->T->Prop} (h:jA P t e wf D) (g:T->S) {e':S->List C} {wf':S->Prop} (he:∀r,e' (g r)=e r) (hsz:∀s,(e' s).length=P.cellsOf t) (hw:∀r,wf r->wf' (g r)):jA P t e' wf' (MA g D):=
 qSv h g he hsz hw (λ_ _ r hd=>⟨r,rfl,hd⟩)
def strok (s:ByteArray):Prop:=s.size<=maxLen
def qIb (H:Type) (d:DataW H) (s:ByteArray):Prop:=d= .lit (.string s.data.toList)
theorem qOt {P:Program} {t:TypeId} (ht:P.underlying t=some .string) (hc:P.cellsOf t=1):jA P t e_str strok qIb:=by
 refine⟨λ_=>hc.symm,λH enc w held fuel cs x h=>?_⟩;obtain⟨s,rfl,rfl,hs⟩:=DataW.trod_string ht h;exact⟨s,hs,Rc.one (.val _ rfl),rfl⟩
end Go.SL
namespace Go.SL
theorem qTV {w:World} {g:Nat} {cs:Array Value} {e:TypeId} {fz:Nat×Nat} {xs:List C} (hh:w.heap[g]? =some (.cells cs e fz)) (h:Rc w xs cs.toList):
  IRep w (λ_=>True) (.lptr xs) (.pointer (some ⟨g,0,none⟩)):=by
 refine .lptr g 0 xs (λj=>cs.toList.getD j undef) (λ_ _=>trivial) (λj hj=>?_) (λj hj=>h.2 j hj);have hl:j<cs.size:=by rw[<-h.1] at hj;simpa using hj
 simp[World.cell?,hh,Nat.zero_add,List.getD_eq_getElem?_getD,hl]
end Go.SL
namespace Go.SL
open Go.RowKit Go.Proofs Go.Shelf Go.Sort Go.Lib
section
variable (w :World) (blk m:Nat) (d:Array Int) (os:Array Obj)
def qEd :World:=grow (putRow (Value.int .i64) (Sort.ahead w m) blk 0 d) os
theorem qJv {c:Nat} (hc:c<w.heap.size) (hne:c≠blk):(qEd w blk m d os).heap[c]? =w.heap[c]? :=by
 unfold qEd grow putRow mapBlock Sort.ahead;rw[Array.getElem?_append_left (by simpa using hc),Array.getElem?_modify,if_neg (Ne.symm hne)]
theorem qJH {arr:Array Value} {e:TypeId} (hh:w.heap[blk]? =some (.cells arr e (0,0))):(qEd w blk m d os).heap[blk]? =some (.cells (putCells (Value.int .i64) 0 d arr) e (0,0)):=by
 have hb:blk<w.heap.size:=(Array.getElem?_eq_some_iff.1 hh).1;unfold qEd grow putRow mapBlock Sort.ahead;rw[Array.getElem?_append_left (by simpa using hb),Array.getElem?_modify,if_pos rfl];show(w.heap[blk]?).map _=_;rw[hh];rfl
theorem qRc :w.heap.size<=(qEd w blk m d os).heap.size:=by
 unfold qEd grow putRow mapBlock Sort.ahead;simp
theorem si_get {arr:Array Value} {n i:Nat} (hd:d.size=n) (hn:n<=arr.size) (hi:i<n):(putCells (Value.int .i64) 0 d arr).getD i undef= .int .i64 d[i]! :=by
 unfold putCells;rw[Array.getD_eq_getD_getElem?,Array.getElem?_mapIdx,Array.getElem?_eq_getElem (by omega)];simp only[Option.map_some,Option.getD_some];rw[if_pos ⟨Nat.zero_le _,by omega⟩,Nat.sub_zero]
end
theorem qIX {α:Type} (a:Array α) {i:Nat} (h:i<a.size) (d:α):a.getD i d=a[i]:=by rw[Array.getD_eq_getD_getElem?,Array.getElem?_eq_getElem h];rfl
theorem qQo (l:List Int):TU (λx y=>decide (x<=y)) l=l.mergeSort λx y=>decide (x<=y):=by
 have ht:∀x y z:Int,decide (x<=y)=true->decide (y<=z)=true->decide (x<=z)=true:=by
  intro x y z h1 h2;simp only[decide_eq_true_eq] at*;omega
 have hto:∀x y:Int,decide (x<=y)=true\/decide (y<=x)=true:=by
  intro x y;simp only[decide_eq_true_eq];omega
 refine List.Perm.eq_of_pairwise (le:=λx y:Int=>decide (x<=y)=true) ?_ (qF3 ht hto l) ?_ ((LQ _ l).trans (List.mergeSort_perm l _).symm)
 ·intro a b _ _ h1 h2;simp only[decide_eq_true_eq] at*;omega
 ·exact List.pairwise_mergeSort (λa b c h1 h2=>ht a b c h1 h2) (λa b=>by have:=hto a b;simpa using this) l
theorem qTs {P:Program} {ρ:Ren} {gl:List (Nat×C)} (L:Lays.n189 P ρ) (eid:Nat) (l:List Int) (hlt:l.length<4611686018427387904):
  CtX P gl (ρ.f 189) 1 1 [.one (.own 0 0 1 l.length)] [(0,(0,.row eid 1 l.length (rowf (λx:Int=>[C.val (.int .i64 x)]) default l)))] .undef [(0,(0,.row eid 1 (TU (λx y=>decide (x<=y)) l).length (rowf (λx:Int=>[C.val (.int .i64 x)]) default (TU (λx y=>decide (x<=y)) l))))]:=by
 intro w M vs hgl hin ha;obtain⟨hsz,hargs⟩:=ha;have hr:=hin.objs 0 0 _ rfl;have a0:=hargs 0 (by simp);have hsz1:vs.size=1:=by simpa using hsz
 have hlen:(TU (λx y=>decide (x<=y)) l).length=l.length:=(LQ _ l).length_eq;rcases a0 with⟨hl0,a,e0⟩|⟨b,cap,e0,hlc,hcm,hb⟩
 ·have hl:l=[]:=List.eq_nil_of_length_eq_zero hl0;subst hl;have hvs:vs= #[.slice a 0 0]:=by
   apply Array.ext
   ·simpa using hsz1
   ·intro i hi1 hi2;have:i=0:=by simp at hi2;omega
    subst this;rw[<-qIX _ hi1 undef,e0];rfl
  rw[hvs];refine(Any.slices_Sort_int_none L a 0 w).mono ?_;rintro e w' ⟨he,rfl⟩;refine⟨undef,{M with A:=λb=>M.A b\/w'.heap.size<=b},he,⟨rfl,rfl,rfl,Nat.le_refl _,λc hc hno=>rfl,Nat.le_refl _⟩,?_,?_⟩
  ·intro c arr' e' hc;exact⟨arr',hc,rfl⟩
  ·refine⟨λi hi=>?_,hin.inj,λi k' b hv hb=>?_,λi k' k'' _ _ _=>rfl,λb=>Iff.rfl,rfl,λi k' o ho=>?_⟩
   ·have:=hin.only i hi;unfold hits at this⊢;rw[look_cons] at this⊢;split at this
    ·rename_i h;rw[if_pos h];rfl
    ·cases this
   ·exact⟨.inr ⟨⟨k',hv⟩,hb⟩,(hin.rng i k' b hv hb).2.1⟩
   ·rw[look_cons] at ho;split at ho
    ·rename_i h;subst h;cases ho;obtain⟨hver,hrow⟩:=hr;refine⟨hver,?_⟩;rcases hrow with⟨hn,h0⟩|⟨b',arr',hb',hh',hns,hcr⟩
     ·exact .inl ⟨hn,rfl⟩
     ·exact .inr ⟨b',arr',hb',hh',Nat.zero_le _,λi hi=>absurd hi (by simp[TU])⟩
    ·cases ho
 obtain⟨hbl,arr,et,hh,has⟩:=hb hr.ver;obtain⟨hver,hrow⟩:=hr;rcases hrow with⟨hn,_⟩|⟨b',arr',hb',hh',hns,hcr⟩
 ·rw[hbl] at hn;cases hn
 have:b'=b:=Option.some.inj (hb'.symm.trans hbl);subst this;rw[hh] at hh';cases hh';have hvs:vs= #[.slice (some ⟨b',0,none⟩) l.length cap]:=by
  apply Array.ext
  ·simpa using hsz1
  ·intro i hi1 hi2;have:i=0:=by simp at hi2;omega
   subst this;rw[<-qIX _ hi1 undef,e0];rfl
 have hblt:b'<w.heap.size:=(Array.getElem?_eq_some_iff.1 hh).1;have hnA:¬M.A b':=(hin.rng 0 0 b' hver hbl).2.2;rw[Nat.mul_one] at hns;have hcell:∀i,i<l.length->arr.getD i undef= .int .i64 (l.getD i default):=by
  intro i hi;have:=(hcr i hi).2 0 (by omega);rw[Nat.mul_one,Nat.add_zero] at this;unfold rowf at this;simp only[List.getD_cons_zero] at this;exact this.val_eq
 have hH:Holds (Value.int .i64) w b' 0 l.toArray:=by
  intro t ht;have ht':t<l.length:=by simpa using ht
  have htlt:t<arr.size:=by omega
  refine⟨?_,?_⟩
  ·rw[show(0+t)=t by omega];have:w.cell? ⟨b',t,none⟩=arr[t]? :=by unfold World.cell?;rw[hh];rfl
   rw[this,Array.getElem?_eq_getElem htlt];have hc:=hcell t ht';rw[qIX _ htlt] at hc;rw[hc]
   congr 2
   rw[List.getD_eq_getElem?_getD,List.getElem?_eq_getElem ht',getElem!_pos _ _ (by simpa using ht')];rfl
  ·unfold World.frozen?;rw[hh];simp
 have key:=Any.slices_Sort_int L b' 0 cap l w hH hblt hlt;rw[hvs];refine key.mono ?_;rintro e w' ⟨he,n,os,hw'⟩;have hw2:w'=qEd w b' n (TU (λx y=>decide (x<=y)) l).toArray os:=by rw[hw',qQo];rfl
 subst hw2;refine⟨undef,{M with A:=λb=>M.A b\/w.heap.size<=b},he,⟨rfl,rfl,rfl,qRc _ _ _ _ _,λc hc hno=>qJv _ _ _ _ _ hc λh=>hno ⟨0,0,hver,by rw[h];exact hbl⟩,Nat.le_add_right _ _⟩,?_,?_⟩
 ·intro c arr' e' hc;by_cases hcb:c=b'
  ·subst hcb;rw[hh] at hc;cases hc;exact⟨_,qJH _ _ _ _ _ hh,by simp[putCells]⟩
  ·exact⟨arr',by rw[qJv _ _ _ _ _ (Array.getElem?_eq_some_iff.1 hc).1 hcb];exact hc,rfl⟩
 ·refine⟨λi hi=>?_,hin.inj,λi k' b hv hb=>?_,λi k' k'' _ _ _=>rfl,λb=>Iff.rfl,rfl,λi k' o ho=>?_⟩
  ·have:=hin.only i hi;unfold hits at this⊢;rw[look_cons] at this⊢;split at this
   ·rename_i h;rw[if_pos h];rfl
   ·cases this
  ·exact⟨.inr ⟨⟨k',hv⟩,hb⟩,Nat.lt_of_lt_of_le (hin.rng i k' b hv hb).2.1 (qRc _ _ _ _ _)⟩
  ·rw[look_cons] at ho;split at ho
   ·rename_i h;subst h;cases ho;refine⟨hver,.inr ⟨b',_,hbl,qJH _ _ _ _ _ hh,?_,λi hi=>⟨rfl,λj hj=>?_⟩⟩⟩
    ·rw[hlen];simpa[putCells] using hns
    ·rw[hlen] at hi;have:j=0:=by omega
     subst this;rw[Nat.mul_one,Nat.add_zero,si_get (n:=l.length) _ (by simpa using hlen) hns hi];unfold rowf;simp only[List.getD_cons_zero];have hge:(TU (λx y=>decide (x<=y)) l).toArray[i]! =(TU (λx y=>decide (x<=y)) l).getD i default:=by
      rw[List.getD_eq_getElem?_getD,List.getElem?_eq_getElem (by omega),getElem!_pos _ _ (by simpa using(by omega:i<(TU (λx y=>decide (x<=y)) l).length))];rfl
     rw[hge];exact .val _ rfl
   ·cases ho
end Go.SL

import Derived.Test.YtigmogcdifllhaaGreatDoorYa5
import Derived.ChangeArms
import Derived.Shelf.SlSortCmp.WholeK
import Derived.Shelf.Lay
set_option linter.unusedVariables false
set_option linter.unusedSimpArgs false
namespace Go.SL
open Go.RowKit
def qYy (id:Nat) (x:V) (ob:List (Nat×(Nat×O))):Option (V×List (Nat×(Nat×O))×Option Prop):=
 match look id ob with
 |some (k,.row _ sz n f)=>bif Nat.blt 0 sz then some ((phV (frzC id k sz n f) x).1,(phB (frzC id k sz n f) id ob).1,an (phV (frzC id k sz n f) x).2 (phB (frzC id k sz n f) id ob).2) else none
 |_=>none
theorem CtX.frz {P:Program} {gl:List (Nat×C)} {f n m:Nat} {xs:List V1} {oi:List (Nat×(Nat×O))} {x x':V} {ob ob':List (Nat×(Nat×O))} (h:CtX P gl f n m xs oi x ob) (id:Nat) {q:Option Prop} (hq:oP q) (hf:(Nat.ble n id&&Nat.ble m id,qYy id x ob)=(true,some (x',ob',q))):CtX P gl f n m xs oi x' ob':=by
 simp only[Prod.mk.injEq,kq,Nat.ble_eq] at hf;obtain⟨⟨hn,hm⟩,hf⟩:=hf;intro w M vs hg hin ha;refine(h w M vs hg hin ha).mono ?_;rintro e w' ⟨v,R,he,hb,hsh,hr⟩;unfold qYy at hf;split at hf
 ·rename_i k e' sz nn ff hl;cases hp:Nat.blt 0 sz with
  |false=>rw[hp] at hf;cases hf
  |true=>
   rw[hp] at hf;cases hf;obtain⟨q1,q2⟩:=ZV hq;have hpos:0<sz:=by simpa[kV] using hp
   have hor:=hr.objs id k _ hl;have hver:=hor.ver;have hown:∀b,R.blk id=some b->(R.drop id).imm b:=λb hbk=>by
    refine⟨?_,fun⟨i,k',hv,hbi⟩=>?_⟩
    ·refine(hr.area b).2 (.inr ?_);rcases(hr.rng id k b hver hbk).1 with h1|⟨⟨k',h1⟩,h2⟩
     ·exact h1
     ·have:=(hin.rng id k' b h1 h2).1;omega
    ·obtain⟨h1,h2⟩:=jU hv;exact h1 (hr.inj i id k' k b h2 hver hbi hbk)
   have hφ:=qUl hor hpos hown;refine⟨v,R.drop id,he,hb,hsh,⟨λi hi=>?_,λi j k l b hi hj hbi hbj=>hr.inj i j k l b (jU hi).2 (jU hj).2 hbi hbj,λi k b hv hbk=>hr.rng i k b (jU hv).2 hbk,λi k k' him hk hv=>hr.fix i k k' him hk (jU hv).2,hr.area,qXl hφ q1 hr.val,λi k' o ho=>?_⟩⟩
   ·obtain⟨k',hk'⟩:=ug.1 hi;obtain⟨h1,h2⟩:=jU hk';exact phB_hits (hr.only i (by rw[h2];simp)) h1
   ·obtain⟨hne,o',h1,h2,rfl⟩:=qIS q2 ho;have hor':=hr.objs i k' o' h1;have hv:(R.drop id).ver i=some k':=by simp only[Mem.drop,hne,if_false];exact hor'.ver
    cases o' with
    |box e cs=>obtain⟨_,b,arr,e1,e2,e3⟩:=hor';exact⟨hv,b,arr,e1,e2,qJi hφ h2 e3⟩
    |row e sz n f=>
     refine⟨hv,?_⟩;rcases hor'.2 with h0|⟨b,arr,e1,e2,e3,e4⟩
     ·exact .inl h0
     ·exact .inr ⟨b,arr,e1,e2,e3,λi hi=>⟨(e4 i hi).1,λj hj=>PP ((e4 i hi).2 j hj)⟩⟩
    |lp R b s j=>exact⟨hv,hor'.2.1,hor'.2.2⟩
 ·cases hf
theorem eq_nil {P:Program} {w:World} {t e:TypeId} (ht:P.underlying t=some (.slice e)) (d:Nat) (a:Option Addr) (n c:Nat):(Op.equalIn (d+1) t (.slice a n c) (.slice none 0 0)).run P w= .ok a.isNone w:=by
 cases a<;>simp[Op.equalIn,run_underlying ht]
theorem qW1 {P:Program} {w:World} {t e:TypeId} (ht:P.underlying t=some (.slice e)) (a:Option Addr) (n c:Nat) (x y:Operand):
  (do eqGuard .eql t x y (.slice a n c) (.slice none 0 0);binOp .eql t (.slice a n c) (.slice none 0 0):Sem Value).run P w= .ok (.bool a.isNone) w:=by
 have he:(Op.equal t (.slice a n c) (.slice none 0 0)).run P w= .ok a.isNone w:=eq_nil ht 9999 a n c;have hg:(eqGuard .eql t x y (.slice a n c) (.slice none 0 0)).run P w= .ok () w:=rfl;rw[Sem.run_bind,hg];show((do pure (.bool (<-Op.equal t (.slice a n c) (.slice none 0 0)))):Sem Value).run P w=_;rw[Sem.run_bind,he];rfl
theorem qO2 {K:Ctx} {st:St} {Q:Exit->St->Prop} (fn:Func) (nn id c:Nat) (want:St) (t t' e d:Nat) (x:Operand) (n:Nat) (f:Nat->List C) (hc:nd fn nn= .region id (rg fn nn) false)
  (h:(NL K.nt (rg fn nn),(rg fn nn).size,seen want (runO K (rg fn nn) [] c 0 st 0))=(true,c+1,wish want none))
  (hg:(gd (rg fn nn) want (opAt (rg fn nn) c),(opAt (rg fn nn) c).dst,(opAt (rg fn nn) c).op,op1 K.globs want x,K.P.underlying t)=(some true,some d,.binOp .eql t x (.const (.slice none 0 0)) t',some (.one (.lst n f)),some (.slice e)))
  (hk:∀b:Bool,(b=true->n=0)->Q .normal (want.app (some d) (qTH b) [])):H K st (nd fn nn) Q:=by
 rw[hc];generalize rg fn nn=ops at h hg;simp only[Prod.mk.injEq] at h hg;obtain⟨hok,hsz,hs⟩:=h;obtain⟨st',h1,hsub⟩:=qE7 hs;obtain⟨g1,g2,g3,g4,g5⟩:=hg;refine qUz (qBn hok h1 trivial (by omega) ?_);intro M a w hsim;have hs1:=hsim.sub hsub;have hi':c<ops.size:=by omega
 have hv:IRep w (M.keep want.objs).imm (.lst n f) (a.eval x):=op1_rep hs1.1 g4;have key:∃b:Bool,(b=true->n=0)/\(execOp a.eval (opAt ops c)).run K.P w= .ok (.value (.bool b)) w:=by
  have hgen:∀u,IRep w (M.keep want.objs).imm (.lst n f) u->∃b:Bool,(b=true->n=0)/\(do eqGuard .eql t x (.const (.slice none 0 0)) u (.slice none 0 0);binOp .eql t u (.slice none 0 0):Sem Value).run K.P w= .ok (.bool b) w:=by
   intro u hu;cases hu with
   |lst0 b=>exact⟨b.isNone,λ_=>rfl,qW1 g5 b 0 0 _ _⟩
   |lst b o n cap sz f g hn hm hl hb hc hr=>exact⟨false,λhb=>(by cases hb),qW1 g5 (some ⟨b,o,none⟩) n cap _ _⟩
  obtain⟨b,hb,hr⟩:=hgen _ hv;refine⟨b,hb,?_⟩;unfold execOp;rw[g3];exact WK hr
 obtain⟨b,hb,hrun⟩:=key;rw[kB,qHe hi'];simp only[wpOpsIn,XE hi',qJb hs1.1 g1 (qCJ hok hi') (VJ hok),if_true];refine Oper.wpIn_of_wp (by rw[g3];rfl) ?_;unfold Oper.wp;rw[hrun];have hst:=hs1.step (dst:=(opAt ops c).dst) (nv:=[]) (ob:=[]) (x:=qTH b) (v:= .bool b) (Ext.same hs1.1 rfl rfl rfl rfl) (jN _ rfl) (λi k o h=>by cases h) (λi hi=> .inl hi) rfl (qEF want) rfl (VJ hok c);rw[show ops.size-(c+1)=0 by omega];rw[g2] at hst;refine⟨M.keep want.objs,want.app (some d) (qTH b) [],hk b hb,?_⟩;rw[g2];exact hst
theorem ID {a b:Nat} (h:(a==b)=true):a=b:=eq_of_beq h
def qK5 (n:Nat):Bool:=Nat.blt 0 n&&Nat.blt n 4611686018427387904
theorem qYp {n:Nat} (h:qK5 n=true):0<n/\n<4611686018427387904:=by simp only[qK5,kq,kV] at h;exact h
def insB {α:Type} (le:α->α->Bool) (x:α):List α->List α
 |[]=>[x]
 |y::r=>bif le x y then x::y::r else y::insB le x r
def WY {α:Type} (le:α->α->Bool):List α->List α
 |[]=>[]
 |x::r=>insB le x (WY le r)
def FM {α:Type} (cmp:α->α->Option Int) (l:List α):List α:=WY (λx y=>!decide ((cmp y x).getD 0<0)) l
theorem insB_perm {α:Type} (le:α->α->Bool) (x:α):∀l,(insB le x l).Perm (x::l)
 |[]=>List.Perm.refl _
 |y::r=>by
  unfold insB;cases le x y with
  |true=>exact List.Perm.refl _
  |false=>exact((insB_perm le x r).cons y).trans (List.Perm.swap x y r)
theorem UK {α:Type} (le:α->α->Bool):∀l,(WY le l).Perm l
 |[]=>List.Perm.refl _
 |x::r=>(insB_perm le x _).trans ((UK le r).cons x)
theorem qMG {α:Type} {le:α->α->Bool} (ht:∀x y z,le x y=true->le y z=true->le x z=true) (htot:∀x y,le x y=true\/le y x=true) (x:α):∀l,l.Pairwise (λa b=>le a b=true)->(insB le x l).Pairwise (λa b=>le a b=true)
 |[],_=>List.pairwise_singleton _ _
 |y::r,h=>by
  obtain⟨h1,h2⟩:=kO.1 h;unfold insB;cases hxy:le x y with
  |true=>
   refine kO.2 ⟨λz hz=>?_,h⟩;rcases kW.1 hz with rfl|hz
   ·exact hxy
   ·exact ht _ _ _ hxy (h1 z hz)
  |false=>
   refine kO.2 ⟨λz hz=>?_,qMG ht htot x r h2⟩;rcases kW.1 ((insB_perm le x r).mem_iff.1 hz) with rfl|hz
   ·exact(htot z y).resolve_left (by simp[hxy])
   ·exact h1 z hz
theorem qA4 {α:Type} {le:α->α->Bool} (ht:∀x y z,le x y=true->le y z=true->le x z=true) (htot:∀x y,le x y=true\/le y x=true):∀l,(WY le l).Pairwise (λa b=>le a b=true)
 |[]=>List.Pairwise.nil
 |x::r=>qMG ht htot x _ (qA4 ht htot r)
def vi (n:Int):V:= .v (.one (.val (.int .i64 n)))
def vb (b:Bool):V:= .v (.one (.val (.bool b)))
def vp (id j:Nat):V:= .v (.one (.bptr id 0 j))
def vo (id k sz n:Nat):V:= .v (.one (.own id k sz n))
def vc (c:C):V:= .v (.one c)
def va (cs:List C):V:= .v (.agg cs)
def ci (n:Int):C:= .val (.int .i64 n)
def cb (b:Bool):C:= .val (.bool b)
def cs (s:ByteArray):C:= .val (.string s)
def rf {α:Type} [Inhabited α] (e:α->List C) (l:List α):Nat->List C:=rowf e du l
def bx (e:Nat) (cs:List C):Nat×O:=(0,.box e cs)
def ro (k e sz n:Nat) (f:Nat->List C):Nat×O:=(k,.row e sz n f)
def dfx (b:Bool):Dir:=⟨[],some b,none,none⟩
def drw (id k:Nat) (f:Nat->List C):Dir:=⟨[],none,none,some (id,k,f)⟩
def dex (e:Ent):Dir:=⟨[],none,some e,none⟩
def dpr (p:List Fin) (d:Dir):Dir:={d with pre:=p}
def cen (ren:List (Nat×Nat)) (outs:List Nat) (c m:Nat) (x:V) (ob:List (Nat×(Nat×O))) (rs ro:List Nat):Ent:=⟨true,x.out ⟨ren,outs,c⟩,VY ⟨ren,outs,c⟩ m ob,JE ⟨ren,outs,c⟩ ob,rs,ro⟩
theorem wO {K:Ctx} (st:St) (op:Oper) (ren:List (Nat×Nat)) (outs:List Nat) (c:Nat) {f:FuncId} {m:Nat} {xs' xs:List V1} {p:Option Prop} {b:Bool} {oi:List (Nat×(Nat×O))} {x:V} {ob:List (Nat×(Nat×O))} (hp:oP p) (hxs:xs'=xs) (hct:CtX K.P K.globs f ren.length m xs oi x ob) (hb:b=true\/(x.noLst=true/\QQ ob))
  (hin:(qHP K.globs st ren op.op,fnOk K.P f,Out.ok ⟨ren,outs,c⟩ m ob&&(x.closed ob&&ob.all (λq=>q.2.2.closed ob)))=(some (f,xs',p,b,oi),true,true)):
  Step K st op (VY ⟨ren,outs,c⟩ m ob) (JE ⟨ren,outs,c⟩ ob) (x.out ⟨ren,outs,c⟩):=by
 simp only[Prod.mk.injEq] at hin;exact qXR hin.1 hp hxs hct hin.2.1 hin.2.2 hb
def cLe :C->C->Prop
 | .emp,.lst n _=>n=0
 |c,d=>c=d
def csLe :List C->List C->Prop
 |[],[]=>True
 |c::r,d::s=>cLe c d/\csLe r s
 |_,_=>False
def v1Le :V1->V1->Prop
 | .one c,.one d=>cLe c d
 | .agg cs,.agg ds=>csLe cs ds
 |_,_=>False
def vsLe :List V1->List V1->Prop
 |[],[]=>True
 |c::r,d::s=>v1Le c d/\vsLe r s
 |_,_=>False
theorem qXs {w:World} {M:Mem} {c d:C} {v:Value} (h:cLe c d) (hr:CRep w M c v):CRep w M d v:=by
 unfold cLe at h;split at h
 ·subst h;cases hr with
  |emp a=>exact IRep.lst0 a _
 ·subst h;exact hr
theorem qVO :∀{cs ds:List C},csLe cs ds->cs.length=ds.length
 |[],[],_=>rfl
 |_::r,_::s,h=>by simp[qVO h.2]
 |[],_::_,h=>h.elim
 |_::_,[],h=>h.elim
theorem qVU :∀{cs ds:List C},csLe cs ds->∀j,j<cs.length->cLe (cs.getD j .unk) (ds.getD j .unk)
 |_::r,_::s,h,0,_=>h.1
 |_::r,_::s,h,j+1,hj=>by
  have:=qVU h.2 j (by simpa using hj);simpa using this
 |[],[],_,j,hj=>by simp at hj
 |[],_::_,h,_,_=>h.elim
 |_::_,[],h,_,_=>h.elim
theorem qZP {w:World} {M:Mem} {c d:V1} {v:Value} (h:v1Le c d) (hr:zD w M c v):zD w M d v:=by
 cases c with
 |one c=>cases d with
  |one d=>exact qXs h hr
  |agg ds=>exact h.elim
 |agg cs=>cases d with
  |one d=>exact h.elim
  |agg ds=>
   obtain⟨vs,hv,hl,hh⟩:=hr;have e:=qVO h;exact⟨vs,hv,by omega,λj hj=>qXs (qVU h j (by omega)) (hh j (by omega))⟩
theorem qUd :∀{cs ds:List V1},vsLe cs ds->cs.length=ds.length
 |[],[],_=>rfl
 |_::r,_::s,h=>by simp[qUd h.2]
 |[],_::_,h=>h.elim
 |_::_,[],h=>h.elim
theorem qUA :∀{cs ds:List V1},vsLe cs ds->∀j,j<cs.length->v1Le (cs.getD j (.one .unk)) (ds.getD j (.one .unk))
 |_::r,_::s,h,0,_=>h.1
 |_::r,_::s,h,j+1,hj=>by
  have:=qUA h.2 j (by simpa using hj);simpa using this
 |[],[],_,j,hj=>by simp at hj
 |[],_::_,h,_,_=>h.elim
 |_::_,[],h,_,_=>h.elim
theorem CtX.emp {P:Program} {gl:List (Nat×C)} {f n m:Nat} {xs' xs:List V1} {oi:List (Nat×(Nat×O))} {x:V} {ob:List (Nat×(Nat×O))} (h:CtX P gl f n m xs oi x ob) (hl:vsLe xs' xs):CtX P gl f n m xs' oi x ob:=by
 intro w M vs hg hin ha;refine h w M vs hg hin ?_;have e:=qUd hl;exact⟨by have:=ha.1;omega,λj hj=>qZP (qUA hl j (by omega)) (ha.2 j (by omega))⟩
def St.up (st:St) (ds:List Nat) (als:List (Nat×V)) (dob:List Nat) (aob:List (Nat×(Nat×O))):St:=
 ⟨als++st.slots.filter (λp=>!(ds.any (Nat.beq p.1))),aob++st.objs.filter (λp=>!(dob.any (Nat.beq p.1)))⟩
def qLM :Code->Operand
 | .cond o _ _=>o
 |_=> .tmp 0
def PL :Code->Nat
 | .region id _ _=>id
 |_=>0
structure Ev (K:Ctx) (ops:Array Oper) where
 i:Nat
 d:Dir
 p:Option Prop
 h:oP p
def Ev.ds {K:Ctx} {ops:Array Oper}:List (Ev K ops)->List (Nat×Dir)
 |[]=>[]
 |e::l=>(e.i,e.d)::Ev.ds l
def Ev.ps {K:Ctx} {ops:Array Oper}:List (Ev K ops)->Option Prop
 |[]=>none
 |e::l=>an e.p (Ev.ps l)
theorem qLP {p q:Option Prop} (h:oP p) (k:oP q):oP (an p q):=by
 cases p with
 |none=>exact k
 |some p=>cases q with
  |none=>exact h
  |some q=>exact⟨h,k⟩
theorem Ev.oP {K:Ctx} {ops:Array Oper}:∀l:List (Ev K ops),oP (Ev.ps l)
 |[]=>trivial
 |e::l=>qLP e.h (Ev.oP l)
def qc {K:Ctx} {ops:Array Oper} (i:Nat) (rs:List Nat) (c:Nat) {f:FuncId} {m:Nat} {xs:List V1} {x:V} {ob:List (Nat×(Nat×O))} (hct:CtX K.P K.globs f 0 m xs [] x ob)
  (hin:(qHP K.globs ⟨rs.zip (xs.map V.v),[]⟩ [] (opAt ops i).op,fnOk K.P f,Out.ok ⟨[],[],c⟩ m ob&&(x.closed ob&&ob.all (λq=>q.2.2.closed ob)))=(some (f,xs,none,true,[]),true,true):=by kernel_rfl):Ev K ops:=
 ⟨i,dex (cen [] [] c m x ob rs []),some (Step K ⟨rs.zip (xs.map V.v),[]⟩ (opAt ops i) (VY ⟨[],[],c⟩ m ob) (JE ⟨[],[],c⟩ ob) (x.out ⟨[],[],c⟩)),wO _ _ [] [] c o0 rfl hct (.inl rfl) hin⟩
def qk {K:Ctx} {ops:Array Oper} (i:Nat) (rs:List Nat) (c:Nat) (st:St) {f:FuncId} {m:Nat} {xs:List V1} {x:V} {ob:List (Nat×(Nat×O))} (hct:CtX K.P K.globs f 0 m xs [] x ob)
  (hin:(qHP K.globs st [] (opAt ops i).op,fnOk K.P f,Out.ok ⟨[],[],c⟩ m ob&&(x.closed ob&&ob.all (λq=>q.2.2.closed ob)))=(some (f,xs,none,true,[]),true,true):=by kernel_rfl):Ev K ops:=
 ⟨i,dex (cen [] [] c m x ob rs []),some (Step K st (opAt ops i) (VY ⟨[],[],c⟩ m ob) (JE ⟨[],[],c⟩ ob) (x.out ⟨[],[],c⟩)),wO _ _ [] [] c o0 rfl hct (.inl rfl) hin⟩
def qd {K:Ctx} {ops:Array Oper} (i:Nat) (d:Dir) {p:Prop} (h:p):Ev K ops:=⟨i,d,some p,h⟩
def dN :Dir:=Dir.none
def qi {K:Ctx} {ops:Array Oper} (i:Nat) {z:Int} {m:Nat} (h:inb z m=true):Ev K ops:=qd i Dir.none (zB h)
def qf {K:Ctx} {ops:Array Oper} (i:Nat) {x b:Bool} (h:x=b):Ev K ops:=⟨i,dfx b,some (x=b),h⟩
theorem bif_c {α:Type} {c:Bool} {A B:Option α} {r:α} (h:(bif c then A else B)=some r):(c=true/\A=some r)\/(c=false/\B=some r):=by cases c;exact .inr ⟨rfl,h⟩;exact .inl ⟨rfl,h⟩
theorem oi {α:Type} {a b:α} (h:some a=some b):a=b:=kE h
section
variable {K :Ctx} {st:St} {Q:Exit->St->Prop} {fn:Func} {n:Nat}
theorem q_sq (h:H K st (nd fn (2*n)) (qEn Q λst'=>H K st' (nd fn (2*n+1)) Q)) (hc:nd fn n= .seq (nd fn (2*n)) (nd fn (2*n+1)):=by kernel_rfl):H K st (nd fn n) Q:=R_sq fn _ _ hc h
theorem q_cn (x:Bool) (ht:x=true->H K st (nd fn (2*n)) Q) (hf:x=false->H K st (nd fn (2*n+1)) Q) (hc:nd fn n= .cond (qLM (nd fn n)) (nd fn (2*n)) (nd fn (2*n+1)):=by kernel_rfl) (ho:opB st (qLM (nd fn n))=some x:=by kernel_rfl):H K st (nd fn n) Q:=R_cn fn _ _ _ hc x ho ht hf
theorem q_bk (id:Nat) (h:H K st (nd fn (2*n)) (qFf id Q)) (hc:nd fn n= .block id (nd fn (2*n)):=by kernel_rfl):H K st (nd fn n) Q:=R_bk fn id _ hc h
theorem q_sk {c:Code} (h:Q .normal st) (hc:c= .skip:=by kernel_rfl):H K st c Q:=qHO hc h
theorem q_rt {c:Code} (h:Q .ret st) (hc:c= .ret:=by kernel_rfl):H K st c Q:=qAW hc h
theorem q_ex {c:Code} (id:Nat) (h:Q (.exit id) st) (hc:c= .exit id:=by kernel_rfl):H K st c Q:=R_exit id hc h
theorem q_vn (es:List (Ev K (rg fn n))) (nid:Nat) (want:St) (hk:Q .normal want) (hc:nd fn n= .region (PL (nd fn n)) (rg fn n) false:=by kernel_rfl) (h:seen want (runF K (rg fn n) (Ev.ds es) [] st nid)=wish want (Ev.ps es):=by kernel_rfl):H K st (nd fn n) Q:=R_rn fn n _ (Ev.ds es) [] nid want (Ev.oP es) hc h hk
theorem q_wn (es:List (Ev K (rg fn n))) (fin:List Fin) {fo:Option Prop} (hf:oP fo) (nid:Nat) (want:St) (hk:Q .normal want) (hc:nd fn n= .region (PL (nd fn n)) (rg fn n) false:=by kernel_rfl) (h:seen want (runF K (rg fn n) (Ev.ds es) fin st nid)=wish want (an (Ev.ps es) fo):=by kernel_rfl):H K st (nd fn n) Q:=R_rn fn n _ (Ev.ds es) fin nid want (qLP (Ev.oP es) hf) hc h hk
theorem q_dn (es:List (Ev K (rg fn n))) (bm:List Nat) (nid:Nat) (want:St) (hk:Q .normal want) (hc:nd fn n= .region (PL (nd fn n)) (rg fn n) true:=by kernel_rfl) (h:seen want (qED K (rg fn n) [] (Ev.ds es) [] bm st nid)=wish want (Ev.ps es):=by kernel_rfl):H K st (nd fn n) Q:=R_dr fn n _ [] (Ev.ds es) [] bm nid want (Ev.oP es) hc h hk
theorem q_vu (es:List (Ev K (rg fn n))) (nid:Nat) (ds:List Nat) (als:List (Nat×V)) (dob:List Nat) (aob:List (Nat×(Nat×O))) (hk:Q .normal (st.up ds als dob aob)) (hc:nd fn n= .region (PL (nd fn n)) (rg fn n) false:=by kernel_rfl) (h:seen (st.up ds als dob aob) (runF K (rg fn n) (Ev.ds es) [] st nid)=wish (st.up ds als dob aob) (Ev.ps es):=by kernel_rfl):H K st (nd fn n) Q:=R_rn fn n _ (Ev.ds es) [] nid _ (Ev.oP es) hc h hk
theorem q_wu (es:List (Ev K (rg fn n))) (fin:List Fin) {fo:Option Prop} (hf:oP fo) (nid:Nat) (ds:List Nat) (als:List (Nat×V)) (dob:List Nat) (aob:List (Nat×(Nat×O))) (hk:Q .normal (st.up ds als dob aob)) (hc:nd fn n= .region (PL (nd fn n)) (rg fn n) false:=by kernel_rfl) (h:seen (st.up ds als dob aob) (runF K (rg fn n) (Ev.ds es) fin st nid)=wish (st.up ds als dob aob) (an (Ev.ps es) fo):=by kernel_rfl):H K st (nd fn n) Q:=R_rn fn n _ (Ev.ds es) fin nid _ (qLP (Ev.oP es) hf) hc h hk
theorem q_du (es:List (Ev K (rg fn n))) (bm:List Nat) (nid:Nat) (ds:List Nat) (als:List (Nat×V)) (dob:List Nat) (aob:List (Nat×(Nat×O))) (hk:Q .normal (st.up ds als dob aob)) (hc:nd fn n= .region (PL (nd fn n)) (rg fn n) true:=by kernel_rfl) (h:seen (st.up ds als dob aob) (qED K (rg fn n) [] (Ev.ds es) [] bm st nid)=wish (st.up ds als dob aob) (Ev.ps es):=by kernel_rfl):H K st (nd fn n) Q:=R_dr fn n _ [] (Ev.ds es) [] bm nid _ (Ev.oP es) hc h hk
theorem q_xu (pre:List Fin) {po:Option Prop} (hp:oP po) (es:List (Ev K (rg fn n))) (fin:List Fin) {fo:Option Prop} (hf:oP fo) (bm:List Nat) (nid:Nat) (ds:List Nat) (als:List (Nat×V)) (dob:List Nat) (aob:List (Nat×(Nat×O))) (hk:Q .normal (st.up ds als dob aob)) (hc:nd fn n= .region (PL (nd fn n)) (rg fn n) true:=by kernel_rfl) (h:seen (st.up ds als dob aob) (qED K (rg fn n) pre (Ev.ds es) fin bm st nid)=wish (st.up ds als dob aob) (an po (an (Ev.ps es) fo)):=by kernel_rfl):H K st (nd fn n) Q:=R_dr fn n _ pre (Ev.ds es) fin bm nid _ (qLP hp (qLP (Ev.oP es) hf)) hc h hk
theorem q_cm {ρ:Type} {x:Bool} {A B:Option ρ} {r:ρ} (hm:(bif x then A else B)=some r) (ht:x=true->A=some r->H K st (nd fn (2*n)) Q) (hf:x=false->B=some r->H K st (nd fn (2*n+1)) Q) (hc:nd fn n= .cond (qLM (nd fn n)) (nd fn (2*n)) (nd fn (2*n+1)):=by kernel_rfl) (ho:opB st (qLM (nd fn n))=some x:=by kernel_rfl):H K st (nd fn n) Q:=q_cn x (λh=>ht h (bif_t h hm)) (λh=>hf h (bif_f h hm)) hc ho
theorem s_vn (es:List (Ev K (rg fn (2*n)))) (nid:Nat) (want:St) (hk:H K want (nd fn (2*n+1)) Q) (hs:nd fn n= .seq (nd fn (2*n)) (nd fn (2*n+1)):=by kernel_rfl) (hc:nd fn (2*n)= .region (PL (nd fn (2*n))) (rg fn (2*n)) false:=by kernel_rfl) (h:seen want (runF K (rg fn (2*n)) (Ev.ds es) [] st nid)=wish want (Ev.ps es):=by kernel_rfl):H K st (nd fn n) Q:=q_sq (q_vn es nid want hk hc h) hs
theorem s_wn (es:List (Ev K (rg fn (2*n)))) (fin:List Fin) {fo:Option Prop} (hf:oP fo) (nid:Nat) (want:St) (hk:H K want (nd fn (2*n+1)) Q) (hs:nd fn n= .seq (nd fn (2*n)) (nd fn (2*n+1)):=by kernel_rfl) (hc:nd fn (2*n)= .region (PL (nd fn (2*n))) (rg fn (2*n)) false:=by kernel_rfl) (h:seen want (runF K (rg fn (2*n)) (Ev.ds es) fin st nid)=wish want (an (Ev.ps es) fo):=by kernel_rfl):H K st (nd fn n) Q:=q_sq (q_wn es fin hf nid want hk hc h) hs
theorem s_dn (es:List (Ev K (rg fn (2*n)))) (bm:List Nat) (nid:Nat) (want:St) (hk:H K want (nd fn (2*n+1)) Q) (hs:nd fn n= .seq (nd fn (2*n)) (nd fn (2*n+1)):=by kernel_rfl) (hc:nd fn (2*n)= .region (PL (nd fn (2*n))) (rg fn (2*n)) true:=by kernel_rfl) (h:seen want (qED K (rg fn (2*n)) [] (Ev.ds es) [] bm st nid)=wish want (Ev.ps es):=by kernel_rfl):H K st (nd fn n) Q:=q_sq (q_dn es bm nid want hk hc h) hs
theorem s_vu (es:List (Ev K (rg fn (2*n)))) (nid:Nat) (ds:List Nat) (als:List (Nat×V)) (dob:List Nat) (aob:List (Nat×(Nat×O))) (hk:H K (st.up ds als dob aob) (nd fn (2*n+1)) Q) (hs:nd fn n= .seq (nd fn (2*n)) (nd fn (2*n+1)):=by kernel_rfl) (hc:nd fn (2*n)= .region (PL (nd fn (2*n))) (rg fn (2*n)) false:=by kernel_rfl) (h:seen (st.up ds als dob aob) (runF K (rg fn (2*n)) (Ev.ds es) [] st nid)=wish (st.up ds als dob aob) (Ev.ps es):=by kernel_rfl):H K st (nd fn n) Q:=q_sq (q_vu es nid ds als dob aob hk hc h) hs
theorem s_wu (es:List (Ev K (rg fn (2*n)))) (fin:List Fin) {fo:Option Prop} (hf:oP fo) (nid:Nat) (ds:List Nat) (als:List (Nat×V)) (dob:List Nat) (aob:List (Nat×(Nat×O))) (hk:H K (st.up ds als dob aob) (nd fn (2*n+1)) Q) (hs:nd fn n= .seq (nd fn (2*n)) (nd fn (2*n+1)):=by kernel_rfl) (hc:nd fn (2*n)= .region (PL (nd fn (2*n))) (rg fn (2*n)) false:=by kernel_rfl) (h:seen (st.up ds als dob aob) (runF K (rg fn (2*n)) (Ev.ds es) fin st nid)=wish (st.up ds als dob aob) (an (Ev.ps es) fo):=by kernel_rfl):H K st (nd fn n) Q:=q_sq (q_wu es fin hf nid ds als dob aob hk hc h) hs
theorem s_du (es:List (Ev K (rg fn (2*n)))) (bm:List Nat) (nid:Nat) (ds:List Nat) (als:List (Nat×V)) (dob:List Nat) (aob:List (Nat×(Nat×O))) (hk:H K (st.up ds als dob aob) (nd fn (2*n+1)) Q) (hs:nd fn n= .seq (nd fn (2*n)) (nd fn (2*n+1)):=by kernel_rfl) (hc:nd fn (2*n)= .region (PL (nd fn (2*n))) (rg fn (2*n)) true:=by kernel_rfl) (h:seen (st.up ds als dob aob) (qED K (rg fn (2*n)) [] (Ev.ds es) [] bm st nid)=wish (st.up ds als dob aob) (Ev.ps es):=by kernel_rfl):H K st (nd fn n) Q:=q_sq (q_du es bm nid ds als dob aob hk hc h) hs
theorem q_jn {ι:Type} (S:ι->St) (J:ι->Prop) (hk:∀i,J i->H K (S i) (nd fn (2*n+1)) Q) (h:H K st (nd fn (2*n)) (qEn Q λst'=>∃i,J i/\Sub (S i) st'.rev)) (hc:nd fn n= .seq (nd fn (2*n)) (nd fn (2*n+1)):=by kernel_rfl):H K st (nd fn n) Q:=R_join _ _ hc S J hk h
theorem q_vv (es:List (Ev K (rg fn n))) (nid:Nat) (ds:List Nat) (als:List (Nat×V)) (hk:Q .normal (st.up ds als [] [])) (hc:nd fn n= .region (PL (nd fn n)) (rg fn n) false:=by kernel_rfl) (h:seen (st.up ds als [] []) (runF K (rg fn n) (Ev.ds es) [] st nid)=wish (st.up ds als [] []) (Ev.ps es):=by kernel_rfl):H K st (nd fn n) Q:=q_vu es nid ds als [] [] hk hc h
theorem q_va (nid:Nat) (als:List (Nat×V)) (hk:Q .normal (st.up [] als [] [])) (hc:nd fn n= .region (PL (nd fn n)) (rg fn n) false:=by kernel_rfl) (h:seen (st.up [] als [] []) (runF K (rg fn n) (Ev.ds ([]:List (Ev K (rg fn n)))) [] st nid)=wish (st.up [] als [] []) (Ev.ps ([]:List (Ev K (rg fn n)))):=by kernel_rfl):H K st (nd fn n) Q:=q_vu [] nid [] als [] [] hk hc h
theorem s_vv (es:List (Ev K (rg fn (2*n)))) (nid:Nat) (ds:List Nat) (als:List (Nat×V)) (hk:H K (st.up ds als [] []) (nd fn (2*n+1)) Q) (hs:nd fn n= .seq (nd fn (2*n)) (nd fn (2*n+1)):=by kernel_rfl) (hc:nd fn (2*n)= .region (PL (nd fn (2*n))) (rg fn (2*n)) false:=by kernel_rfl) (h:seen (st.up ds als [] []) (runF K (rg fn (2*n)) (Ev.ds es) [] st nid)=wish (st.up ds als [] []) (Ev.ps es):=by kernel_rfl):H K st (nd fn n) Q:=s_vu es nid ds als [] [] hk hs hc h
theorem s_va (nid:Nat) (als:List (Nat×V)) (hk:H K (st.up [] als [] []) (nd fn (2*n+1)) Q) (hs:nd fn n= .seq (nd fn (2*n)) (nd fn (2*n+1)):=by kernel_rfl) (hc:nd fn (2*n)= .region (PL (nd fn (2*n))) (rg fn (2*n)) false:=by kernel_rfl) (h:seen (st.up [] als [] []) (runF K (rg fn (2*n)) (Ev.ds ([]:List (Ev K (rg fn (2*n))))) [] st nid)=wish (st.up [] als [] []) (Ev.ps ([]:List (Ev K (rg fn (2*n))))):=by kernel_rfl):H K st (nd fn n) Q:=s_vu [] nid [] als [] [] hk hs hc h
theorem q_fu {c:Code} (fins:List Fin) (ds:List Nat) (als:List (Nat×V)) (dob:List Nat) (aob:List (Nat×(Nat×O))) {q:Option Prop} (hq:oP q) (h:H K (st.up ds als dob aob) c Q) (hf:seen (st.up ds als dob aob) (GG K fins st)=wish (st.up ds als dob aob) q:=by kernel_rfl):H K st c Q:=H_fin fins _ hq hf h
theorem q_cq {ρ:Type} {x:Bool} {A B:Option ρ} {r:ρ} (hm:(bif x then A else B)=some r) (ht:A=some r->H K st (nd fn (2*n)) Q) (hf:B=some r->H K st (nd fn (2*n+1)) Q) (hc:nd fn n= .cond (qLM (nd fn n)) (nd fn (2*n)) (nd fn (2*n+1)):=by kernel_rfl) (ho:opB st (qLM (nd fn n))=some x:=by kernel_rfl):H K st (nd fn n) Q:=q_cm hm (λ_=>ht) (λ_=>hf) hc ho
theorem q_sw {c:Code} (i j:Nat) (h:H K (st.swp i j) c Q) (hij:(Nat.ble K.n i&&(Nat.ble K.m i&&(Nat.ble K.n j&&Nat.ble K.m j)))=true:=by kernel_rfl):H K st c Q:=H_swap i j hij h
theorem q_fn {c:Code} (fins:List Fin) (want:St) {q:Option Prop} (hq:oP q) (h:H K want c Q) (hf:seen want (GG K fins st)=wish want q:=by kernel_rfl):H K st c Q:=H_fin fins want hq hf h
theorem q_fo {α:Type} [Inhabited α] {c:Code} (s i t k:Nat) (e:α->List C) (h:H K (st.up [s] [(s,vo i 0 k 0)] [] [(i,ro 0 t k 0 (rf e ([]:List α)))]) c Q) (hf:seen (st.up [s] [(s,vo i 0 k 0)] [] [(i,ro 0 t k 0 (rf e ([]:List α)))]) (GG K [.own s i t k (rf e ([]:List α))] st)=wish (st.up [s] [(s,vo i 0 k 0)] [] [(i,ro 0 t k 0 (rf e ([]:List α)))]) none:=by kernel_rfl):H K st c Q:=q_fu [.own s i t k (rf e ([]:List α))] [s] [(s,vo i 0 k 0)] [] [(i,ro 0 t k 0 (rf e ([]:List α)))] o0 h hf
theorem q_fl {α:Type} [Inhabited α] {c:Code} (s i t k:Nat) (e:α->List C) (h:H K (st.up [s] [(s,vo i 0 k (([]:List α).length))] [i] [(i,ro 0 t k (([]:List α).length) (rf e ([]:List α)))]) c Q) (hf:seen (st.up [s] [(s,vo i 0 k (([]:List α).length))] [i] [(i,ro 0 t k (([]:List α).length) (rf e ([]:List α)))]) (GG K [.len i (([]:List α).length)] st)=wish (st.up [s] [(s,vo i 0 k (([]:List α).length))] [i] [(i,ro 0 t k (([]:List α).length) (rf e ([]:List α)))]) (some (0=([]:List α).length/\0=([]:List α).length)):=by kernel_rfl):H K st c Q:=q_fu [.len i (([]:List α).length)] [s] [(s,vo i 0 k (([]:List α).length))] [i] [(i,ro 0 t k (([]:List α).length) (rf e ([]:List α)))] (o1 (And.intro (show 0=([]:List α).length from rfl) (show 0=([]:List α).length from rfl))) h hf
end
theorem q_J {ι:Type} {S:ι->St} {J:ι->Prop} {st:St} (i:ι) (hj:J i) (h1:(S i).slots.map (λp=>look p.1 st.rev.slots)=(S i).slots.map λp=>some p.2:=by kernel_rfl) (h2:(S i).objs.map (λp=>look p.1 st.rev.objs)=(S i).objs.map λp=>some p.2:=by kernel_rfl):∃i,J i/\Sub (S i) st.rev:=J_mk i hj h1 h2
theorem q_rm {P:Program} {fn:Func} {x:V} {ob:List (Nat×(Nat×O))} {st:St} (h1:retV P st.rev fn.results.toList=some x:=by kernel_rfl) (h2:ob.map (λp=>look p.1 st.rev.objs)=ob.map λp=>some p.2:=by kernel_rfl):RetQ P fn x ob .ret st:=HR h1 h2
theorem q_l0 {ω:Type} {b:Nat} {S:ω->St} {res:ω} {st:St} (h1:(S res).slots.map (λp=>look p.1 st.rev.slots)=(S res).slots.map λp=>some p.2:=by kernel_rfl) (h2:(S res).objs.map (λp=>look p.1 st.rev.objs)=(S res).objs.map λp=>some p.2:=by kernel_rfl):zN b S res (.exit b) st:=L0_mk h1 h2
theorem q_l1 {ω ρ:Type} {b:Nat} {S:ω->St} (o:ω) {st:St} (h1:(S o).slots.map (λp=>look p.1 st.rev.slots)=(S o).slots.map λp=>some p.2:=by kernel_rfl) (h2:(S o).objs.map (λp=>look p.1 st.rev.objs)=(S o).objs.map λp=>some p.2:=by kernel_rfl):Nat.beq b b=true/\∃o',(Sum.inr o:ρ⊕ω)= .inr o'/\Sub (S o') st.rev:=L1_mk o h1 h2
theorem q_hl {K:Ctx} {st:St} {c:Code} {Q:Exit->St->Prop} {n:Nat} (st':St) (h:HL K c Q n st') (h1:st'.slots.map (λp=>look p.1 st.rev.slots)=st'.slots.map λp=>some p.2:=by kernel_rfl) (h2:st'.objs.map (λp=>look p.1 st.rev.objs)=st'.objs.map λp=>some p.2:=by kernel_rfl):HL K c Q n st:=qZz st' h1 h2 h
def lpS (c:Nat):LoopState:=bif Nat.beq c 0 then .ready else .done
def lpJ (js:List Code) (c:Nat):Option Code:=bif Nat.beq c 0 then none else js[c-1]?
theorem qXX {K:Ctx} {M0 M:Mem} {st:St} {a:Act} {w':World} {x:V} {ob:List (Nat×(Nat×O))} {v:Value} (hA:∀b,K.A b↔M0.A b) (hIn:∀i b,K.In i=some b->(∃k',M0.ver i=some k')/\M0.blk i=some b) (hIn2:∀i k,M0.ver i=some k->K.In i=M0.blk i)
  (hsim:Sim1 K M st a w') (hv:VRep w' M x v) (hob:ob.map (λp=>look p.1 st.objs)=ob.map λp=>some p.2):UF (drOf K.globs) M0.owns K.w0 w'/\BY K.w0 w'/\qI8 K.w0 w' M0 (M.keep ob) K.m x ob v:=by
 refine⟨⟨hsim.1.below.os,hsim.1.below.tape,hsim.1.below.output,hsim.1.below.size,λb hb hnb=>hsim.1.below.block b hb fun⟨i,hi⟩=>?_,hsim.1.below.drawn⟩,hsim.1.shape,
  ⟨λi hi=>?_,λi j k l b hi hj hbi hbj=>hsim.1.inj i j k l b (yJ hi) (yJ hj) hbi hbj,λi k b hvi hbi=>?_,λi k k' him hk hv'=>?_,λb=>?_,qKI hv,λi k o ho=>?_⟩⟩
 ·obtain⟨⟨k',hk'⟩,hbk⟩:=hIn i b hi;exact hnb ⟨i,k',hk',hbk⟩
 ·simp only[Mem.keep] at hi;split at hi
  ·assumption
  ·exact absurd rfl hi
 ·obtain⟨h1,h2⟩:=hsim.1.rng i k b (yJ hvi) hbi;exact⟨h1.imp id (hIn i b),h2⟩
 ·have:=hsim.1.fix i k' him (yJ hv');rw[hIn2 i k hk] at this;exact this
 ·show M.A b↔_;rw[hsim.1.area b,hA b]
 ·exact qKg (by rw[ho];rfl) (hsim.1.objs i k o (qGS (g:=λs=>look s st.objs) hob ho))
def FN (l:List (Nat×Value)) (tmps:Array Value):Array Value:=l.foldl (λt p=>t.setIfInBounds p.1 p.2) tmps
theorem qM0 :∀(l:List (Nat×Value)) (tmps:Array Value),(FN l tmps).size=tmps.size
 |[],_=>rfl
 |p::r,tmps=>by
  show(FN r _).size=_;rw[qM0];simp
theorem qIr :∀(l:List (Nat×Value)) (tmps:Array Value) (s:Nat),(∀p∈l,p.1≠s)->(FN l tmps).getD s undef=tmps.getD s undef
 |[],_,_,_=>rfl
 |p::r,tmps,s,h=>by
  show(FN r _).getD s undef=_;rw[qIr r _ s λq hq=>h q (kG _ hq)];simp only[ku];rw[ga (h p kN)]
theorem qSj :∀(l:List (Nat×Value)) (tmps:Array Value) (s:Nat) (v:Value),(l.map Prod.fst).Nodup->(s,v)∈l->s<tmps.size->(FN l tmps).getD s undef=v
 |[],_,_,_,_,h,_=>by cases h
 |p::r,tmps,s,v,hn,h,hlt=>by
  rw[uz,List.nodup_cons] at hn;show(FN r _).getD s undef=_;rcases kW.1 h with e|h
  ·subst e;rw[qIr r _ s λq hq e=>hn.1 (ge.2 ⟨q,hq,e⟩)];simp[ku,hlt]
  ·exact qSj r _ s v hn.2 h (by simpa using hlt)
def qKZ :List Nat->List V1->List (Nat×V)
 |t::ts,x::xs=>(t,.v x)::qKZ ts xs
 |_,_=>[]
theorem qMI :∀{ts:List Nat} {xs:List V1} {s:Nat} {x:V},look s (qKZ ts xs)=some x->∃j,j<xs.length/\ts[j]? =some s/\x= .v (xs.getD j (.one .unk))
 |[],_,_,_,h=>by cases h
 |_::_,[],_,_,h=>by cases h
 |t::ts,y::xs,s,x,h=>by
  simp only[qKZ,look_cons] at h;split at h
  ·rename_i hk;subst hk;cases h;exact⟨0,by simp,rfl,rfl⟩
  ·obtain⟨j,h1,h2,h3⟩:=qMI h;exact⟨j+1,by simpa using h1,by simpa using h2,by simpa using h3⟩
def qLe :List Nat->Bool
 |[]=>true
 |x::r=>!(r.any (Nat.beq x))&&qLe r
theorem qLb :∀{l:List Nat},qLe l=true->l.Nodup
 |[],_=> .nil
 |x::r,h=>by
  simp only[qLe,kq,uv,List.any_eq_false] at h;refine List.nodup_cons.2 ⟨λhx=>h.1 x hx (gP x),qLb h.2⟩
def CtR (P:Program) (gl:List (Nat×C)) (R:JZ) (b:Nat) (ts:List Nat) (n m:Nat) (xs:List V1) (oi:List (Nat×(Nat×O))) (x:V) (ob:List (Nat×(Nat×O))):Prop:=
 ∀(w:World) (M:Mem) (args:Array Value) (cap:Array Value),args.size=R.params.size->cap.size=ts.length->(∀j,j<ts.length->cap.getD j undef=R.tmps.getD (ts.getD j 0) undef)->PM gl w M.A->InOk w M n oi->qAs w M xs (args++cap)->
  RoundIn Fence.wide 0 P b R.fn (FN (R.params.toList.zip args.toList) R.tmps) R.assign R.body w λe w'=>∃v M',e= .returned v/\UF (drOf gl) M.owns w w'/\BY w w'/\qI8 w w' M M' m x ob v
def qYw :Exit->Option (Option Code)
 | .normal=>some none
 | .ret=>some (some .ret)
 | .exit id=>some (some (.exit id))
 |_=>none
def qV3 (R:JZ) (b:Nat) (js:List Code) (c:Nat) (ob2:List (Nat×(Nat×O))) (e:Exit) (st:St):Prop:=
 qYw e=some (lpJ js c)/\Nat.beq c 0=(lpJ js c).isNone/\look 0 st.rev.objs=some (0,.lp R b .busy none)/\ob2.map (λp=>look p.1 ((0,(0,.lp R b (lpS c) (lpJ js c)))::st.rev.objs))=ob2.map λp=>some p.2
def RdH (K:Ctx) (R:JZ) (b:Nat) (js:List Code) (c:Nat) (ob2:List (Nat×(Nat×O))) (st:St):Prop:=
 ∃k,look 0 st.objs=some (k,.lp R b .ready none)/\H K ⟨st.slots,(0,(k,.lp R b .busy none))::st.objs⟩ R.body (qV3 R b js c ob2)
theorem qZJ {P:Program} {gl:List (Nat×C)} {R:JZ} {b:Nat} {ts:List Nat} {n m nt:Nat} {xs:List V1} {oi ob2:List (Nat×(Nat×O))} {js:List Code} {c:Nat} (hm:P.follows .mixedOrders=true) (hT:R.tmps.size=nt)
  (hps:(qLe (R.params.toList++ts)&&(R.params.toList.all (λt=>Nat.blt t nt)&&Nat.beq xs.length (R.params.toList++ts).length))=true)
  (h:∀(w:World) (A:Nat->Prop) (In:Nat->Option Nat) (hI:∀i b,In i=some b->i<n/\b<w.heap.size/\¬A b) (hg:PM gl w A),
   H {P:=P,w0:=w,nt:=nt,A:=A,globs:=gl,mixed:=hm,glob:=hg,n:=n,m:=m,In:=In,hIn:=hI,rnd:=some b} {slots:=qKZ (R.params.toList++ts) xs,objs:=oi} R.assign
    (qEn (λ_ _=>False) (RdH {P:=P,w0:=w,nt:=nt,A:=A,globs:=gl,mixed:=hm,glob:=hg,n:=n,m:=m,In:=In,hIn:=hI,rnd:=some b} R b js c ob2))):
  CtR P gl R b ts n m xs oi (.v (.one (.val (.bool (Nat.beq c 0))))) ((0,(0,.lp R b (lpS c) (lpJ js c)))::ob2):=by
 intro w M args cap has hcs hcap hg hin ha;subst hT;simp only[kq] at hps;obtain⟨hnd,hlt,hxl⟩:=hps;have hnd:=qLb hnd;have hxl:=ko hxl;have hI:∀i b,(λi=>if M.ver i=none then none else M.blk i) i=some b->i<n/\b<w.heap.size/\¬M.A b:=λi b hi=>by
  simp only at hi;split at hi
  ·cases hi
  ·rename_i hv;obtain⟨k,hk⟩:=ug.1 hv;exact hin.rng i k b hk hi
 have himm:∀b,M.imm b->b<w.heap.size->Mem.imm {M with A:=λb=>M.A b\/w.heap.size<=b} b:=λb hb _=>⟨.inl hb.1,hb.2⟩
 have hir:∀{c:C} {v:Value},IRep w M.imm c v->IRep w (Mem.imm {M with A:=λb=>M.A b\/w.heap.size<=b}) c v:=λhr=>hr.move (λ_ _ _=>rfl) himm;have hcr:∀{c:C} {v:Value},CRep w M c v->CRep w {M with A:=λb=>M.A b\/w.heap.size<=b} c v:=fun{c v} hr=>by
  cases c with
  |own id k sz len=>exact hr
  |sub id k sz off len=>exact hr
  |bptr id k j=>exact hr
  |rptr id k sz i j=>exact hr
  |fn g caps=>
   obtain⟨vs,h1,h2,h3⟩:=hr;refine⟨vs,h1,h2,λj hj=>?_⟩;have:=h3 j hj;generalize caps.getD j .unk=c at this;cases c with
   |bptr id k j=>exact this
   |_=>exact hir this
  |yl R b ts caps=>
   refine⟨hr.1,λj hj=>?_⟩;have:=hr.2 j hj;generalize caps.getD j .unk=c at this;cases c with
   |bptr id k j=>exact this
   |_=>exact hir this
  |unk=>exact hr
  |val v=>exact hir hr
  |emp=>exact hir hr
  |lst n f=>exact hir hr
  |lptr cs=>exact hir hr
  |aptr n sz f=>exact hir hr
 have hfst:(R.params.toList.zip args.toList).map Prod.fst=R.params.toList:=by
  rw[List.map_fst_zip];simp[has]
 have hIn:∀i b,(if M.ver i=none then none else M.blk i)=some b->(∃k',M.ver i=some k')/\M.blk i=some b:=λi b hi=>by
  split at hi
  ·cases hi
  ·rename_i hne;exact⟨ug.1 hne,hi⟩
 have hIn2:∀i k,M.ver i=some k->(if M.ver i=none then none else M.blk i)=M.blk i:=λi k hk=>by simp[hk]
 refine roundIn_of_wpIn trivial (wpIn_mono (h w M.A _ hI hg {M with A:=λb=>M.A b\/w.heap.size<=b} _ w ⟨⟨hin.inj,λi k b hv hb=>?_,λi k _ hv=>?_,UF.refl _ _,BY.refl _,λb=>Iff.rfl,?_,qCx.nil,?_,?_⟩,?_⟩) ?_)
 ·refine⟨.inr ?_,(hin.rng i k b hv hb).2.1⟩;have hv':M.ver i=some k:=hv;simp only[hv',reduceCtorEq,if_false];exact hb
 ·have hv':M.ver i=some k:=hv;simp only[hv',reduceCtorEq,if_false]
 ·exact qM0 _ _
 ·intro s y hy;obtain⟨j,hj,hts,rfl⟩:=qMI hy;have h1:=ha.2 j hj;have hval:(FN (R.params.toList.zip args.toList) R.tmps).getD s undef=(args++cap).getD j undef:=by
   by_cases hjp:j<R.params.size
   ·rw[kD (by simpa using hjp)] at hts;have hja:j<args.size:=by omega
    have e2:(args++cap).getD j undef=args[j]:=by
     simp only[ku,uh hja,kz hja,kF]
    rw[e2];have hpj:R.params.toList[j]'(by simpa using hjp)=s:=(uB.1 hts).2;refine qSj _ _ _ _ (by rw[hfst];exact(List.nodup_append.1 hnd).1) ?_ ?_
    ·have:(R.params.toList.zip args.toList)[j]'(by simp[List.length_zip];omega)=(s,args[j]):=by
      rw[List.getElem_zip];exact Prod.ext hpj (by simp)
     rw[<-this];exact ut _
    ·have:=ky.1 hlt s (uI hts);simpa[kV] using this
   ·have hj2:j-R.params.size<ts.length:=by
     simp only[kS,gH] at hxl;omega
    rw[kA (by simp;omega)] at hts;simp only[gH] at hts;have e2:(args++cap).getD j undef=cap.getD (j-R.params.size) undef:=by
     simp only[ku];rw[gW (by omega),has]
    rw[e2,hcap _ hj2,qIr]
    ·rw[ka,hts];rfl
    ·rintro p hp rfl;have hm1:p.1∈R.params.toList:=by rw[<-hfst];exact ge.2 ⟨p,hp,rfl⟩
     have hm2:p.1∈ts:=uI hts;exact(List.nodup_append.1 hnd).2.2 _ hm1 _ hm2 rfl
  rw[hval];show zD _ _ _ _;generalize xs.getD j (.one .unk)=y at h1;cases y with
  |one c=>exact hcr h1
  |agg cs=>obtain⟨us,hu,hc⟩:=h1;exact⟨us,hu,hc.1,λj hj=>hcr (hc.2 j hj)⟩
 ·intro i k o ho;have:=hin.objs i k o ho;cases o with
  |box e cs=>obtain⟨h1,b,arr,h2,h3,h4⟩:=this;exact⟨h1,b,arr,h2,h3,h4.1,λj hj=>hcr (h4.2 j hj)⟩
  |row e sz n f=>
   refine⟨this.1,?_⟩;rcases this.2 with h0|⟨b,arr,h2,h3,h4,h5⟩
   ·exact .inl h0
   ·exact .inr ⟨b,arr,h2,h3,h4,λi hi=>⟨(h5 i hi).1,λj hj=>hir ((h5 i hi).2 j hj)⟩⟩
  |lp R b s j=>exact this
 ·intro i hi;exact hin.only i hi
 ·rintro e a1 w1 ⟨M1,st1,hq,hsim⟩;cases e with
  |normal=>
   obtain⟨k,hl,hbody⟩:=hq;obtain⟨_,_,hh⟩:=hsim.1.objs 0 k _ hl;refine⟨_,run_beginRound hh rfl,wpIn_mono (hbody M1 a1 _ (hsim.setLp hl .busy none)) ?_⟩;rintro e a2 w2 ⟨M2,st2,⟨hj,hc0,hl2,hob⟩,hsim2⟩;have hrev:=hsim2.rev;obtain⟨_,_,hh2⟩:=hrev.1.objs 0 0 _ hl2;have hset:=hrev.setLp hl2 (lpS c) (lpJ js c);have hend:∀jj,jj=lpJ js c->(Instr.endRound b jj).run P w2= .ok (.bool (Nat.beq c 0)) (w2.putObj b (.loop (R.at (lpS c) (lpJ js c)))):=λjj e=>by
    subst e;rw[run_endRound _ hh2,<-hc0];have:(if Nat.beq c 0=true then LoopState.ready else .done)=lpS c:=by unfold lpS;cases Nat.beq c 0<;>rfl
    rw[this];rfl
   obtain⟨r1,r2,r3⟩:=qXX (M0:=M) (x:= .v (.one (.val (.bool (Nat.beq c 0))))) (v:= .bool (Nat.beq c 0)) (ob:=(0,(0,.lp R b (lpS c) (lpJ js c)))::ob2) (λ_=>Iff.rfl) hIn hIn2 hset (jN _ rfl) (by
    rw[uz,uz,hob]
    congr 1)
   cases e with
   |normal=>exact⟨_,_,hend _ (kE hj),_,_,rfl,r1,r2,r3⟩
   |ret=>exact⟨_,_,hend _ (kE hj),_,_,rfl,r1,r2,r3⟩
   |exit id=>exact⟨_,_,hend _ (kE hj),_,_,rfl,r1,r2,r3⟩
   |goto l=>cases hj
   |panic c=>cases hj
   |outgrown=>cases hj
  |_=>exact hq.elim
def ylOf (gl:List (Nat×C)) (st:St) (f:Operand):Option (JZ×Nat×List Nat×List C):=
 match op1 gl st f with
 |some (.one (.yl R b ts caps))=>some (R,b,ts,caps)
 |_=>none
def ylIn (gl:List (Nat×C)) (st:St) (ren:List (Nat×Nat)) (lid:Nat) (op:Op):Option (JZ×Nat×List Nat×List V1×Option Prop×Bool×List (Nat×(Nat×O))):=
 match qAI op with
 |some (fo,args)=>(match ylOf gl st fo,opsV gl st args,TO st ren 0 ren,look lid st.objs with
  |some (R,b,ts,caps),some ys,some oi,some (_,.lp _ _ _ _)=>bif Nat.beq ys.length R.params.size&&Nat.beq caps.length ts.length then(match FV st ren (ys++caps.map V1.one) with|some (xs,p,bb)=>some (R,b,ts,xs,p,bb,oi)|none=>none) else none
  |_,_,_,_=>none)
 |none=>none
theorem qZc {gl:List (Nat×C)} {st:St} {ren:List (Nat×Nat)} {lid:Nat} {op:Op} {R:JZ} {b:Nat} {ts:List Nat} {xs:List V1} {p:Option Prop} {bb:Bool} {oi:List (Nat×(Nat×O))} (h:ylIn gl st ren lid op=some (R,b,ts,xs,p,bb,oi)):
  ∃fo args caps ys,qAI op=some (fo,args)/\op1 gl st fo=some (.one (.yl R b ts caps))/\opsV gl st args=some ys/\TO st ren 0 ren=some oi/\ys.length=R.params.size/\caps.length=ts.length/\FV st ren (ys++caps.map V1.one)=some (xs,p,bb):=by
 unfold ylIn at h;split at h
 ·rename_i fo args hco;split at h
  ·rename_i R' b' ts' caps ys oi' _ _ _ _ _ hce hys hoi hl;cases hbb:Nat.beq ys.length R'.params.size&&Nat.beq caps.length ts'.length with
   |false=>rw[hbb] at h;cases h
   |true=>
    rw[hbb] at h;simp only[kp] at h;split at h
    ·rename_i xs2 p2 b2 hia;cases h;unfold ylOf at hce;split at hce
     ·rename_i R2 b2 ts2 caps2 hfo;cases hce;rw[kq] at hbb;exact⟨fo,args,caps,ys,hco,hfo,hys,hoi,ko hbb.1,ko hbb.2,hia⟩
     ·cases hce
    ·cases h
  ·cases h
 ·cases h
theorem qZt (ps:Array Tmp) (vs:Array Value) (tmps:Array Value):(ps.zip vs).foldl (λt (x:Tmp×Value)=>t.setIfInBounds x.1 x.2) tmps=FN (ps.toList.zip vs.toList) tmps:=by
 unfold FN;rw[<-Array.foldl_toList,Array.toList_zip]
theorem qXS {K:Ctx} {st:St} {op:Oper} {R:JZ} {b:Nat} {ts:List Nat} {ren:List (Nat×Nat)} {outs:List Nat} {c m lid kl:Nat} {s:LoopState} {jj:Option Code} {xs' xs:List V1} {p:Option Prop} {bb:Bool} {oi:List (Nat×(Nat×O))} {x:V} {ob:List (Nat×(Nat×O))}
  (hin:ylIn K.globs st ren lid op.op=some (R,b,ts,xs',p,bb,oi)) (hl:look lid st.objs=some (kl,.lp R b s jj)) (hp:oP p) (hxs:xs'=xs) (hct:CtR K.P K.globs R b ts ren.length m xs oi x ob)
  (hok:(Out.ok ⟨ren,outs,c⟩ m ob&&(x.closed ob&&ob.all (λq=>q.2.2.closed ob)))=true) (hb:bb=true\/(x.noLst=true/\QQ ob)):
  Step K st op (VY ⟨ren,outs,c⟩ m ob) (JE ⟨ren,outs,c⟩ ob) (x.out ⟨ren,outs,c⟩):=by
 subst hxs;obtain⟨fo,args,caps0,ys,hco,hfo,hys,hoi,hyp,hct2,hia⟩:=qZc hin;intro M a w h _;obtain⟨hcv,hcr⟩:=op1_rep h hfo;obtain⟨hyl,hyr⟩:=NE h hys;obtain⟨_,_,hh⟩:=h.objs lid kl _ hl;have hcapg:∀j,j<ts.length->((ts.map λt=>R.tmps.getD t undef).toArray).getD j undef=R.tmps.getD (ts.getD j 0) undef:=λj hj=>by
  simp[ku,ka,hj]
 obtain⟨Mi,hgl,hinok,hargs,hfin⟩:=qLt (c:=c) h hoi hia hp (vals:=(args.map a.eval).toArray++(ts.map λt=>R.tmps.getD t undef).toArray) (by simp[hyl,hct2]) (qN4 (by simp[hyl]) hyr (λj hj=>by rw[hcapg j (by omega)];exact hcr j hj)) hok hb;have hnd:=qJu hco;refine⟨λ_ _=>trivial,?_⟩;rw[Oper.semAt_eq _ _ _ (qMM hnd)];have hrun:(execOp a.eval op).run K.P w= .ok (.round b R.fn (FN (R.params.toList.zip (args.map a.eval)) R.tmps) R.assign R.body) w:=by
  unfold qAI at hco;split at hco
  ·rename_i f' args' ats heq;cases hco;have hsz:(args'.map a.eval).size=(R.at s jj).params.size:=by
    show _=R.params.size;rw[<-hyp,hyl];simp
   have hy:=run_yield (P:=K.P) hh hsz;unfold execOp;rw[heq];simp only[resolve,hcv,Deferred.ofValue,Sem.run_bind,Sem.run_pure,Result.andThen_ok,invoke];have e0:(#[]:Array Value)++args'.map a.eval=args'.map a.eval:=by simp
   first|rw[e0]|skip
   rw[hy]
   congr 2
   rw[qZt];simp[JZ.at]
  ·cases hco
 rw[hrun,Oper.uponIn_round];refine⟨qIw,?_⟩;have hr:=hct w Mi (args.map a.eval).toArray (ts.map λt=>R.tmps.getD t undef).toArray (by rw[<-hyp,hyl];simp) (by simp) hcapg hgl hinok hargs;have hr2:RoundIn K.F (0-1) K.P b R.fn (FN (R.params.toList.zip (args.map a.eval)) R.tmps) R.assign R.body w _:=hr;refine RoundIn.mono hr2 ?_;rintro e w' ⟨v,R',rfl,hbel,hshape,hret⟩;obtain⟨M',h1,h2,h3,h4⟩:=hfin v R' w' hbel hshape hret;exact⟨v,M',rfl,h1,h2,h3,h4⟩
structure RI (nt:Nat) where
 fn:FuncId
 T:Array Value
 D:Nat
 b:Nat
 hT:T.size=nt
def psOf :Code->Array Tmp
 | .rangeFunc _ ps _ _=>ps
 |_=> #[]
def rc {nt:Nat} (f:Func) (nn:Nat) (ri:RI nt):JZ:=⟨ri.fn,ri.T,psOf (nd f nn),nd f (2*nn),nd f (2*nn+1),ri.D⟩
def qC4 (st:St):List Nat->Option (List V1)
 |[]=>some []
 |t::r=>match look t st.slots,qC4 st r with|some (.v x),some xs=>some (x::xs)|_,_=>none
theorem qYu {st:St} (ts:List Nat) (o:List (Nat×(Nat×O))):qC4 ⟨st.slots,o⟩ ts=qC4 st ts:=by
 induction ts with
 |nil=>rfl
 |cons t r ih=>simp only[qC4,ih]
theorem qQm {K:Ctx} {M:Mem} {st:St} {a:Act} {w:World} (h:Sim K M st a w):∀{ts:List Nat} {xs:List V1},qC4 st ts=some xs->xs.length=ts.length/\∀j,j<xs.length->zD w M (xs.getD j (.one .unk)) (a.tmps.getD (ts.getD j 0) undef)
 |[],_,hr=>by cases hr;exact⟨rfl,λj hj=>absurd hj (uO j)⟩
 |t::r,xs,hr=>by
  simp only[qC4] at hr;split at hr
  ·rename_i x xs' h1 h2;cases hr;obtain⟨i1,i2⟩:=qQm h h2;refine⟨by simp[i1],λj hj=>?_⟩;cases j with
   |zero=>exact h.slots t _ h1
   |succ j=>simpa using i2 j (by simpa using hj)
  ·cases hr
def rfIn (gl:List (Nat×C)) (st:St) (R:JZ) (b:Nat) (g:Operand) (ts:List Nat) (lid:Nat) (ren:List (Nat×Nat)):Option (FuncId×List V1×Option Prop×Bool×List (Nat×(Nat×O))):=
 match op1 gl st g,qC4 st ts with
 |some (.one (.fn f caps)),some ys=>(match qIX ys with
  |some tcs=>(match TO ⟨st.slots,(lid,(0,.lp R b .ready none))::st.objs⟩ ren 0 ren,FV ⟨st.slots,(lid,(0,.lp R b .ready none))::st.objs⟩ ren (.one (.yl R b ts tcs)::caps.map V1.one) with
   |some oi,some (xs,p,bb)=>some (f,xs,p,bb,oi)
   |_,_=>none)
  |none=>none)
 |_,_=>none
theorem qY8 {gl:List (Nat×C)} {st:St} {R:JZ} {b:Nat} {g:Operand} {ts:List Nat} {lid:Nat} {ren:List (Nat×Nat)} {f:FuncId} {xs:List V1} {p:Option Prop} {bb:Bool} {oi:List (Nat×(Nat×O))} (h:rfIn gl st R b g ts lid ren=some (f,xs,p,bb,oi)):
  ∃caps ys tcs,op1 gl st g=some (.one (.fn f caps))/\qC4 st ts=some ys/\qIX ys=some tcs/\TO ⟨st.slots,(lid,(0,.lp R b .ready none))::st.objs⟩ ren 0 ren=some oi/\FV ⟨st.slots,(lid,(0,.lp R b .ready none))::st.objs⟩ ren (.one (.yl R b ts tcs)::caps.map V1.one)=some (xs,p,bb):=by
 unfold rfIn at h;split at h
 ·rename_i f' caps ys h1 h2;split at h
  ·rename_i tcs h3;split at h
   ·rename_i oi' xs' p' bb' h4 h5;cases h;exact⟨caps,ys,tcs,h1,h2,h3,h4,h5⟩
   ·cases h
  ·cases h
 ·cases h
def JQ (K:Ctx) (js:List Code) (cd:Nat) (want:St) (Q:Exit->St->Prop):Prop:=match lpJ js cd with|none=>Q .normal want|some j=>H K want j Q
theorem JQ_n {K:Ctx} {js:List Code} {cd:Nat} {want:St} {Q:Exit->St->Prop} (h:Nat.beq cd 0=true) (hq:Q .normal want):JQ K js cd want Q:=by
 unfold JQ lpJ;rw[h];exact hq
theorem JQ_j {K:Ctx} {js:List Code} {cd:Nat} {want:St} {Q:Exit->St->Prop} (i:Nat) (j:Code) (h:Nat.beq cd (i+1)=true) (hj:js[i]? =some j) (hq:H K want j Q):JQ K js cd want Q:=by
 have:=ko h;subst this;unfold JQ lpJ;have e:Nat.beq (i+1) 0=false:=rfl;rw[e];simp only[kv,Nat.add_sub_cancel,hj];exact hq
theorem qWj {K:Ctx} {st:St} {Q:Exit->St->Prop} {c:Code} (fn0:Func) (nn:Nat) (g:Operand) (hc:c= .rangeFunc g (psOf (nd fn0 nn)) (nd fn0 (2*nn)) (nd fn0 (2*nn+1))) (hr:K.rnd=none) (hnod:nodOf K.globs=false)
  {f:FuncId} (ts:List Nat) (lid:Nat) (ren:List (Nat×Nat)) (outs:List Nat) (c0 m:Nat) (js:List Code) (cd kl:Nat) {x:V} (want:St) {xs:RI K.nt->List V1} {oi ob:RI K.nt->List (Nat×(Nat×O))}
  (hin:∀ri,rfIn K.globs st (rc fn0 nn ri) ri.b g ts lid ren=some (f,xs ri,none,true,oi ri))
  (hfree:(st.freeB [(lid,0)]&&Nat.ble K.m lid)=true) (hct:∀ri,CtX K.P K.globs f ren.length m (xs ri) (oi ri) x (ob ri)) (hfn:fnOk K.P f=true)
  (hok:∀ri,(Out.ok ⟨ren,outs,c0⟩ m (ob ri)&&(x.closed (ob ri)&&(ob ri).all (λq=>q.2.2.closed (ob ri))))=true)
  (hnv:∀ri,(nvOk (VY ⟨ren,outs,c0⟩ m (ob ri)) (JE ⟨ren,outs,c0⟩ (ob ri))&&(KC K.m (VY ⟨ren,outs,c0⟩ m (ob ri))&&(St.mk st.slots ((lid,(0,.lp (rc fn0 nn ri) ri.b .ready none))::st.objs)).freeB (VY ⟨ren,outs,c0⟩ m (ob ri))))=true)
  (hlp:∀ri,look lid (JE ⟨ren,outs,c0⟩ (ob ri))=some (kl,.lp (rc fn0 nn ri) ri.b (lpS cd) (lpJ js cd)))
  (hw:∀ri,Sub want (St.rev ⟨st.slots,(lid,(kl,.lp (rc fn0 nn ri) ri.b .exhausted (lpJ js cd)))::(JE ⟨ren,outs,c0⟩ (ob ri)++(lid,(0,.lp (rc fn0 nn ri) ri.b .ready none))::st.objs)⟩))
  (hk:JQ K js cd want Q):H K st c Q:=by
 subst hc;intro M a w hs;refine wpIn_rangeFunc λfid _=>?_
 let ri:RI K.nt:=⟨fid,a.tmps,w.heap.size,w.heap.size+1,hs.1.size⟩
 obtain⟨caps,ys,tcs,hg,hys,htc,hoi,hia⟩:=qY8 (hin ri);obtain⟨capv,hcv,hcs,hcr⟩:=op1_rep hs.1 hg;rw[kq] at hfree
 -- the record is laid
 let w1:=(w.alloc (.deferred (some []))).alloc (.loop ((rc fn0 nn ri).at .ready none))
 have hw1s:w1.heap.size=w.heap.size+2:=by simp[w1,World.size_alloc]
 have hold:∀b,b<w.heap.size->w1.heap[b]? =w.heap[b]? :=λb hb=>by
  simp only[w1,World.alloc];rw[Array.getElem?_push_lt (by simp;omega),Array.getElem_push_lt hb,kz hb]
 have hD:w1.heap[w.heap.size]? =some (.deferred (some [])):=by
  simp only[w1,World.alloc];rw[Array.getElem?_push_lt (by simp),Array.getElem_push_eq]
 have hB:w1.heap[w.heap.size+1]? =some (.loop ((rc fn0 nn ri).at .ready none)):=by
  have:=World.alloc_heap_new (w.alloc (.deferred (some []))) (.loop ((rc fn0 nn ri).at .ready none));rw[World.size_alloc] at this;exact this
 have hext:Ext (drOf K.globs) M w (M.put lid 0 (some (w.heap.size+1))) w1 (hits [(lid,(0,.lp (rc fn0 nn ri) (w.heap.size+1) .ready none))]) (zX [(lid,0)]):=
  Ext.put hs.1 (λb' e=>by cases e;exact⟨by omega,.inl (by omega)⟩) (λb hb _=>hold b hb) (λb arr e hb=>⟨arr,by rw[hold b (kM.1 hb).1];exact hb,rfl⟩) (by omega) rfl rfl rfl
 have hsim1:=hs.step (dst:=none) (x:= .any) (v:=undef) hext trivial (λi k o hl=>by
   obtain⟨rfl,rfl,rfl⟩:=ZI hl;exact⟨by simp[Mem.put],by simp[Mem.put],hB⟩) (λi hi=>by
   simp only[Mem.put] at hi;split at hi
   ·rename_i e;exact .inr (hits_one.2 e)
   ·exact .inl hi) (by simp[nvOk,hits,look]) (St.free_of hfree.1) (by simpa[KC] using hfree.2) (λd hd=>by cases hd)
 have hdef:qFV w1 (M.put lid 0 (some (w.heap.size+1))) K.w0.heap.size ({target:= .collected w.heap.size,args:= #[]}::a.defers):=by
  refine⟨λd hd=>?_,kO.2 ⟨λd hd=>?_,hsim1.1.defers.1.2⟩⟩
  ·rcases kW.1 hd with rfl|hd
   ·refine⟨w.heap.size,rfl,hs.1.below.size,hD,fun⟨i,k,hv,hb⟩=>?_⟩;simp only[Mem.put] at hv hb;split at hb
    ·have:=kE hb;omega
    ·rename_i hne;rw[if_neg hne] at hv;have:=(hs.1.rng i k _ hv hb).2;omega
   ·exact hsim1.1.defers.1.1 d hd
  ·rintro rfl;obtain⟨E,he,_,h3,_⟩:=hs.1.defers.1.1 _ hd;cases he;have:=(kM.1 h3).1;omega
 have hsim2:Sim1 K (M.put lid 0 (some (w.heap.size+1))) ⟨st.slots,(lid,(0,.lp (rc fn0 nn ri) ri.b .ready none))::st.objs⟩ {a with defers:={target:= .collected w.heap.size,args:= #[]}::a.defers} w1:=
  ⟨⟨hsim1.1.inj,hsim1.1.rng,hsim1.1.fix,hsim1.1.below,hsim1.1.shape,hsim1.1.area,hsim1.1.size,⟨hdef,λq=>by rw[hnod] at q;cases q⟩,hsim1.1.slots,hsim1.1.objs⟩,hsim1.2⟩
 obtain⟨capv2,hcv2,hcs2,hcr2⟩:=op1_rep hsim2.1 (show op1 K.globs ⟨st.slots,(lid,(0,.lp (rc fn0 nn ri) ri.b .ready none))::st.objs⟩ g=some (.one (.fn f caps)) from by rw[<-hg];rfl);have hcv3:capv2=capv:=by
  have e:a.eval g=({a with defers:={target:= .collected w.heap.size,args:= #[]}::a.defers}:Act).eval g:=rfl;rw[e,hcv2] at hcv;cases hcv;rfl
 subst hcv3;obtain⟨hyl,hyr⟩:=qQm hsim2.1 (ts:=ts) (xs:=ys) (by rw[<-hys];exact qYu _ _);obtain⟨htl,htr⟩:=qFN (w:=w1) (M:=M.put lid 0 (some (w.heap.size+1))) htc;have hyv:CRep w1 (M.put lid 0 (some (w.heap.size+1))) (.yl (rc fn0 nn ri) ri.b ts tcs) (.func (.yield (w.heap.size+1)) #[] #[]):=⟨rfl,λj hj=>htr j _ (by omega) (hyr j (by omega))⟩
 have hvals:=qN4 (w:=w1) (M:=M.put lid 0 (some (w.heap.size+1))) (ys:=[.one (.yl (rc fn0 nn ri) ri.b ts tcs)]) (caps0:=caps) (l:=[.func (.yield (w.heap.size+1)) #[] #[]]) (cap:=capv2) rfl (λj hj=>by
  obtain rfl:j=0:=by simp at hj;omega
  exact hyv) hcr2
 obtain⟨Mi,hgl,hinok,hargs,hfin⟩:=qLt (c:=c0) (outs:=outs) (x:=x) (ob:=ob ri) (m:=m) hsim2.1 hoi (p:=none) (b:=true) (xs':=xs ri) hia o0 (ys:=[.one (.yl (rc fn0 nn ri) ri.b ts tcs)]++caps.map V1.one) (vals:=[Value.func (.yield (w.heap.size+1)) #[] #[]].toArray++capv2) (by simp[hcs2];omega) hvals (hok ri) (.inl rfl);obtain⟨fn,hff,hfn⟩:∃fn,K.P.funcs[f]? =some fn∧(fn.body.isSome&&!(fn.name== "runtime.NumGoroutine"))=true:=by
  unfold fnOk at hfn;split at hfn
  ·rename_i fn hff;exact⟨fn,hff,hfn⟩
  ·cases hfn
 rw[kq] at hfn;obtain⟨cbody,hcb⟩:=ub.1 hfn.1;have hnm:¬fn.name= "runtime.NumGoroutine" :=by simpa using hfn.2
 have hF:K.F.round=none:=by unfold Ctx.F qB5;exact hr
 refine⟨w.heap.size+1,[{target:= .collected w.heap.size,args:= #[]}],w1,{target:= .fn (.func f) capv2,args:= #[.func (.yield (w.heap.size+1)) #[] #[]]},w1,f, #[.func (.yield (w.heap.size+1)) #[] #[]]++capv2,w1,?_,?_,λ_ _=>trivial,?_,qIw,?_⟩
 ·rw[hF,run_enterLoop_outer];rfl
 ·have e1:(#[.const (.func (.yield (w.heap.size+1)) #[] #[])]:Array Operand).map a.eval= #[.func (.yield (w.heap.size+1)) #[] #[]]:=by simp[Act.eval]
  simp only[resolve,rangeCall,e1,hcv,Deferred.ofValue];rfl
 ·simp[invoke,callFunc,hff,hnm,hcb]
 ·refine qQM.2 (Calls.mono (hct ri w1 Mi _ hgl hinok hargs) ?_);rintro e w3 ⟨v,R',rfl,hbel,hshape,hret⟩;obtain⟨M',h1,h2,h3,h4⟩:=hfin v R' w3 hbel hshape hret;have hn:=hnv ri;rw[kq,kq] at hn;have hsim3:=hsim2.step (dst:=none) (x:= .any) (v:=undef) h1 trivial h3 h4 hn.1 (St.free_of hn.2.2) hn.2.1 (λd hd=>by cases hd);have hl3:look lid (JE ⟨ren,outs,c0⟩ (ob ri)++(lid,(0,.lp (rc fn0 nn ri) ri.b .ready none))::st.objs)=some (kl,.lp (rc fn0 nn ri) ri.b (lpS cd) (lpJ js cd)):=by
   rw[qCO,hlp ri];rfl
  obtain⟨_,_,hh⟩:=hsim3.1.objs lid kl _ hl3;have hset:=(hsim3.setLp hl3 .exhausted (lpJ js cd)).rev.sub (hw ri);refine⟨lpJ js cd,_,run_endLoop hh (by show lpS cd≠ .busy;unfold lpS;cases Nat.beq cd 0<;>simp),?_⟩;unfold JQ at hk;generalize hjj:lpJ js cd=jj at hk hset;cases jj with
  |none=>exact⟨_,want,hk,hset⟩
  |some j=>exact hk _ _ _ hset
end Go.SL
namespace Go.SL
theorem lpz_t {js:List Code} {c:Nat} (h:Nat.beq c 0=true):lpS c= .ready/\lpJ js c=none:=by
 unfold lpS lpJ;rw[h];exact⟨rfl,rfl⟩
theorem lpz_f {js:List Code} {c:Nat} (h:(!(Nat.beq c 0))=false):lpS c= .ready/\lpJ js c=none:=lpz_t (by simpa using h)
def lq (R:JZ) (b:Nat):Nat×O:=(0,.lp R b .ready none)
def ly (R:JZ) (b:Nat):Nat×O:=(0,.lp R b .busy none)
def lz (R:JZ) (b:Nat) (js:List Code) (c:Nat):Nat×O:=(0,.lp R b (lpS c) (lpJ js c))
theorem callY {K:Ctx} (st:St) (op:Oper) (ren:List (Nat×Nat)) (outs:List Nat) (c lid:Nat) {R:JZ} {b:Nat} {ts:List Nat} {m:Nat} {xs' xs:List V1} {p:Option Prop} {bb:Bool} {oi:List (Nat×(Nat×O))} {x:V} {ob:List (Nat×(Nat×O))} (hp:oP p) (hxs:xs'=xs) (hct:CtR K.P K.globs R b ts ren.length m xs oi x ob) (hb:bb=true\/(x.noLst=true/\QQ ob))
  (hin:(ylIn K.globs st ren lid op.op,look lid st.objs,Out.ok ⟨ren,outs,c⟩ m ob&&(x.closed ob&&ob.all (λq=>q.2.2.closed ob)))=(some (R,b,ts,xs',p,bb,oi),some (0,.lp R b .ready none),true)):
  Step K st op (VY ⟨ren,outs,c⟩ m ob) (JE ⟨ren,outs,c⟩ ob) (x.out ⟨ren,outs,c⟩):=by
 simp only[Prod.mk.injEq] at hin;exact qXS hin.1 hin.2.1 hp hxs hct hin.2.2 hb
theorem q_rf {K:Ctx} {st:St} {Q:Exit->St->Prop} {fn:Func} {n:Nat} (g:Operand) {f:FuncId} (ts:List Nat) (lid:Nat) (ren:List (Nat×Nat)) (outs:List Nat) (c0 m:Nat) (js:List Code) (cd kl:Nat) {x:V} (want:St) {xs:RI K.nt->List V1} {oi ob:RI K.nt->List (Nat×(Nat×O))}
  (hct:∀ri,CtX K.P K.globs f ren.length m (xs ri) (oi ri) x (ob ri)) (hk:JQ K js cd want Q)
  (hc:nd fn n= .rangeFunc g (psOf (nd fn n)) (nd fn (2*n)) (nd fn (2*n+1)):=by kernel_rfl) (hr:K.rnd=none:=by exact rfl) (hnod:nodOf K.globs=false:=by kernel_rfl)
  (hin:∀ri,rfIn K.globs st (rc fn n ri) ri.b g ts lid ren=some (f,xs ri,none,true,oi ri):=by intro ri;kernel_rfl)
  (hfree:(st.freeB [(lid,0)]&&Nat.ble K.m lid)=true:=by kernel_rfl) (hfn:fnOk K.P f=true:=by kernel_rfl)
  (hok:∀ri,(Out.ok ⟨ren,outs,c0⟩ m (ob ri)&&(x.closed (ob ri)&&(ob ri).all (λq=>q.2.2.closed (ob ri))))=true:=by intro ri;kernel_rfl)
  (hnv:∀ri,(nvOk (VY ⟨ren,outs,c0⟩ m (ob ri)) (JE ⟨ren,outs,c0⟩ (ob ri))&&(KC K.m (VY ⟨ren,outs,c0⟩ m (ob ri))&&(St.mk st.slots ((lid,(0,.lp (rc fn n ri) ri.b .ready none))::st.objs)).freeB (VY ⟨ren,outs,c0⟩ m (ob ri))))=true:=by intro ri;kernel_rfl)
  (hlp:∀ri,look lid (JE ⟨ren,outs,c0⟩ (ob ri))=some (kl,.lp (rc fn n ri) ri.b (lpS cd) (lpJ js cd)):=by intro ri;kernel_rfl)
  (hw1:∀ri,want.slots.map (λp=>look p.1 (St.rev ⟨st.slots,(lid,(kl,.lp (rc fn n ri) ri.b .exhausted (lpJ js cd)))::(JE ⟨ren,outs,c0⟩ (ob ri)++(lid,(0,.lp (rc fn n ri) ri.b .ready none))::st.objs)⟩).slots)=want.slots.map λp=>some p.2:=by intro ri;kernel_rfl)
  (hw2:∀ri,want.objs.map (λp=>look p.1 (St.rev ⟨st.slots,(lid,(kl,.lp (rc fn n ri) ri.b .exhausted (lpJ js cd)))::(JE ⟨ren,outs,c0⟩ (ob ri)++(lid,(0,.lp (rc fn n ri) ri.b .ready none))::st.objs)⟩).objs)=want.objs.map λp=>some p.2:=by intro ri;kernel_rfl):H K st (nd fn n) Q:=
 qWj fn n g hc hr hnod ts lid ren outs c0 m js cd kl want hin hfree hct hfn hok hnv hlp (λri=>⟨hw1 ri,hw2 ri⟩) hk
theorem q_rd {K:Ctx} {nt:Nat} {fn:Func} {nn:Nat} {ri:RI nt} {js:List Code} {c:Nat} {ob2:List (Nat×(Nat×O))} {st:St} (want:St) (h:H K want (nd fn (2*nn+1)) (qV3 (rc fn nn ri) ri.b js c ob2)) (k:Nat:=0) (hl:look 0 st.objs=some (k,.lp (rc fn nn ri) ri.b .ready none):=by kernel_rfl)
  (h1:want.slots.map (λp=>look p.1 (St.rev ⟨st.slots,(0,(k,.lp (rc fn nn ri) ri.b .busy none))::st.objs⟩).slots)=want.slots.map λp=>some p.2:=by kernel_rfl)
  (h2:want.objs.map (λp=>look p.1 (St.rev ⟨st.slots,(0,(k,.lp (rc fn nn ri) ri.b .busy none))::st.objs⟩).objs)=want.objs.map λp=>some p.2:=by kernel_rfl):RdH K (rc fn nn ri) ri.b js c ob2 st:=
 ⟨k,hl,H_sub want ⟨h1,h2⟩ h⟩
theorem q_rq {R:JZ} {b:Nat} {js:List Code} {c:Nat} {ob2:List (Nat×(Nat×O))} {e:Exit} {st:St} (h1:qYw e=some (lpJ js c):=by kernel_rfl) (h2:Nat.beq c 0=(lpJ js c).isNone:=by kernel_rfl) (h3:look 0 st.rev.objs=some (0,.lp R b .busy none):=by kernel_rfl)
  (h4:ob2.map (λp=>look p.1 ((0,(0,.lp R b (lpS c) (lpJ js c)))::st.rev.objs))=ob2.map (λp=>some p.2):=by kernel_rfl):qV3 R b js c ob2 e st:=⟨h1,h2,h3,h4⟩
open Go.RowKit
theorem PM.later {gl:List (Nat×C)} {w w':World} {A:Nat->Prop} (h:PM gl w A) (hb:Below w.heap.size w w'):PM gl w' A:=λg c hg=>(h g c hg).move (λb _ hlt=>hb.block b hlt) λ_ hb _=>hb
def HW (K:Ctx) (st:St) (c:Code) (R:Exit->Act->World->Prop):Prop:=∀M a w,Sim1 K M st a w->c.wpIn K.F 0 K.P R a w
theorem HW_seq {K:Ctx} {st:St} {x y:Code} {R:Exit->Act->World->Prop} (h:H K st x (λe st'=>e= .normal/\HW K st' y R)):HW K st (.seq x y) R:=by
 intro M a w hs;refine wpIn_seq (wpIn_mono (h M a w hs) ?_);rintro e a' w' ⟨M',st',⟨rfl,hq⟩,hs'⟩;exact hq M' a' w' hs'
end Go.SL
namespace Go.SL
open Go.RowKit Go.ChangeShapes Go.WideShapes
end Go.SL
namespace Go.SL
open Go.RowKit
end Go.SL
namespace Go.SL
open Go.RowKit Go.ChangeShapes Go.WideShapes
def qDi (P:Program):List Field->Nat
 |[]=>0
 |f::r=>P.cellsOf f.type+qDi P r
structure qQt (P:Program) (fs:List Field) (off:Nat) {T:Type} (e:T->List C) (wf:T->Prop) (D:∀H:Type,List (DataW H)->T->Prop):Prop where
 sz:∀r,(e r).length=qDi P fs
 rd:∀(H:Type) (enc:TypeId×Value->H) (w:World) (held:Bool) (fuel:Nat) (cs:List Value) (xs:List (DataW H×List MemPlace)),xs.length=fs.length->(∀(i:Nat) (f:Field),fs[i]? =some f->DataW.trod enc P w 0 (λ_=>true) held fuel f.type ((cs.drop f.offset).take (P.cellsOf f.type))=xs[i]?)->
  ∃r,wf r/\Rc w (e r) ((cs.drop off).take (qDi P fs))/\D H (xs.map (·.1)) r
def RT (H:Type) (ds:List (DataW H)) (_:Unit):Prop:=ds=[]
def wA {T0 T1:Type} (D0:∀H:Type,DataW H->T0->Prop) (D1:∀H:Type,List (DataW H)->T1->Prop) (H:Type) (ds:List (DataW H)) (r:T0×T1):Prop:=∃d rest,ds=d::rest/\D0 H d r.1/\D1 H rest r.2
def LD {T:Type} (D:∀H:Type,List (DataW H)->T->Prop) (H:Type) (d:DataW H) (r:T):Prop:=∃ds,d= .agg ds/\D H ds r
def MA {T S:Type} (g:T->S) (D:∀H:Type,DataW H->T->Prop) (H:Type) (d:DataW H) (s:S):Prop:=∃r,g r=s/\D H d r
theorem GK {P:Program} (off:Nat):qQt P [] off (λ_:Unit=>[]) (λ_=>True) RT:=
 ⟨λ_=>rfl,λH enc w held fuel cs xs hl _=>⟨(),trivial,⟨by simp[qDi],λj hj=>by simp at hj⟩,by rw[RT];simpa using hl⟩⟩
theorem wE {P:Program} {f:Field} {fs:List Field} {off off':Nat} {T0 T1:Type} {e0:T0->List C} {e1:T1->List C} {wf0:T0->Prop} {wf1:T1->Prop} {D0:∀H:Type,DataW H->T0->Prop} {D1:∀H:Type,List (DataW H)->T1->Prop}
  (h0:jM P f.type e0 wf0 D0) (h1:qQt P fs off' e1 wf1 D1) (ho:f.offset=off) (ho':off+P.cellsOf f.type=off'):qQt P (f::fs) off (λr:T0×T1=>e0 r.1++e1 r.2) (λr=>wf0 r.1/\wf1 r.2) (wA D0 D1):=by
 refine⟨λr=>by rw[kS,h0.sz,h1.sz];rfl,λH enc w held fuel cs xs hl hf=>?_⟩
 match xs,hl with
 |x::xs,hl=>
  have k0:=hf 0 f rfl;rw[List.getElem?_cons_zero] at k0;obtain⟨r0,w0,c0,d0⟩:=h0.rd _ _ _ _ _ _ _ k0;obtain⟨r1,w1,c1,d1⟩:=h1.rd H enc w held fuel cs xs (by simpa using hl) (λi f' hi=>by
   have:=hf (i+1) f' (by simpa using hi);simpa using this)
  refine⟨(r0,r1),⟨w0,w1⟩,?_,⟨x.1,xs.map (·.1),rfl,d0,d1⟩⟩;have:=c0.append c1;rw[ho] at this;have e:(cs.drop off).take (P.cellsOf f.type)++(cs.drop off').take (qDi P fs)=(cs.drop off).take (qDi P (f::fs)):=by
   rw[<-ho',<-List.drop_drop,qDi,List.take_add]
  rwa [e] at this
theorem jV {P:Program} {t:TypeId} {fs:Array Field} {T:Type} {e:T->List C} {wf:T->Prop} {D:∀H:Type,List (DataW H)->T->Prop} (ht:P.underlying t=some (.struct fs)) (h:qQt P fs.toList 0 e wf D) (hs:P.cellsOf t=qDi P fs.toList):jM P t e wf (LD D):=by
 refine⟨λr=>by rw[h.sz,hs],λH enc w held fuel cs x hx=>?_⟩;obtain⟨xs,n,_,rfl,hl,hlen,hf⟩:=DataW.trod_struct ht hx;obtain⟨r,h1,h2,h3⟩:=h.rd H enc w held n cs xs (by simpa using hlen) (λi f hi=>hf i f (by simpa using hi));refine⟨r,h1,?_,⟨_,rfl,h3⟩⟩;rw[uN,uV (by omega)] at h2;exact h2
theorem QY {P:Program} {t:TypeId} {T S:Type} {e:T->List C} {wf:T->Prop} {D:∀H:Type,DataW H->T->Prop} (h:jM P t e wf D) (g:T->S) {e':S->List C} {wf':S->Prop} (he:∀r,e' (g r)=e r) (hsz:∀s,(e' s).length=P.cellsOf t) (hw:∀r,wf r->wf' (g r)):jM P t e' wf' (MA g D):=
 qYA h g he hsz hw (λ_ _ r hd=>⟨r,rfl,hd⟩)
def strok (s:ByteArray):Prop:=s.size<=maxLen
def qOy (H:Type) (d:DataW H) (s:ByteArray):Prop:=d= .lit (.string s.data.toList)
theorem qTW {P:Program} {t:TypeId} (ht:P.underlying t=some .string) (hc:P.cellsOf t=1):jM P t e_str strok qOy:=by
 refine⟨λ_=>hc.symm,λH enc w held fuel cs x h=>?_⟩;obtain⟨s,rfl,rfl,hs⟩:=DataW.trod_string ht h;exact⟨s,hs,Rc.one (.val _ rfl),rfl⟩
end Go.SL
namespace Go.SL
theorem qZ8 {w:World} {g:Nat} {cs:Array Value} {e:TypeId} {fz:Nat×Nat} {xs:List C} (hh:w.heap[g]? =some (.cells cs e fz)) (h:Rc w xs cs.toList):
  IRep w (λ_=>True) (.lptr xs) (.pointer (some ⟨g,0,none⟩)):=by
 refine .lptr g 0 xs (λj=>cs.toList.getD j undef) (λ_ _=>trivial) (λj hj=>?_) (λj hj=>h.2 j hj);have hl:j<cs.size:=by rw[<-h.1] at hj;simpa using hj
 simp[World.cell?,hh,kB,ka,hl]
open Go.RowKit Go.Proofs Go.Shelf Go.Sort Go.Lib
theorem qSS {B:Nat->Prop} {W W':World} (h:UF true B W W') (hB:∀b,¬B b):∃q os',W'=grow (W.drewN q) os':=by
 obtain⟨h1,h2,h3,h4,h5,h6⟩:=h;refine⟨W'.drawn-W.drawn,W'.heap.extract W.heap.size W'.heap.size,?_⟩;have hh:W'.heap=W.heap++W'.heap.extract W.heap.size W'.heap.size:=by
  apply Array.ext_getElem?;intro i;by_cases hi:i<W.heap.size
  ·rw[uh hi];exact h5 i hi (hB i)
  ·rw[gW (by omega),Array.getElem?_extract];split
   ·congr 1;omega
   ·exact Array.getElem?_eq_none (by omega)
 have h6:=h6 rfl;have hd:W'.drawn=W.drawn+(W'.drawn-W.drawn):=by omega
 unfold grow World.drewN;cases W;cases W';simp only at*;subst h1 h2 h3;rw[<-hh,<-hd]
section
variable {α :Type} [Inhabited α] (encV:α->List Value) (k:Nat) (w:World) (blk m:Nat) (dk:Array α) (os:Array Obj)
theorem qIs {c:Nat} (hc:c<w.heap.size) (hne:c≠blk):(sortWorldK encV k w blk 0 m dk os).heap[c]? =w.heap[c]? :=by
 unfold sortWorldK grow putRowK putRow mapBlock Sort.ahead;rw[uh (by simpa using hc),uZ,if_neg (Ne.symm hne)]
theorem qPI {arr:Array Value} {e:TypeId} (hh:w.heap[blk]? =some (.cells arr e (0,0))):(sortWorldK encV k w blk 0 m dk os).heap[blk]? =some (.cells (putCells id 0 (flatK encV k dk) arr) e (0,0)):=by
 have hb:blk<w.heap.size:=(kM.1 hh).1;unfold sortWorldK grow putRowK putRow mapBlock Sort.ahead;rw[uh (by simpa using hb),uZ,if_pos rfl];show(w.heap[blk]?).map _=_;rw[hh];rfl
theorem qW9 :w.heap.size<=(sortWorldK encV k w blk 0 m dk os).heap.size:=by
 unfold sortWorldK;rw[size_grow,size_putRowK];exact gp _ _
theorem sw_get {arr:Array Value} {n i j:Nat} (hd:dk.size=n) (hn:n*k<=arr.size) (hi:i<n) (hj:j<k) (hk:∀x,(encV x).length=k):(putCells id 0 (flatK encV k dk) arr).getD (i*k+j) undef=(encV dk[i]!)[j]! :=by
 have lt:i*k+j<n*k:=by
  have:=kJ k (show i+1<=n from hi);rw[kZ,gq] at this;omega
 have e1:(i*k+j)/k=i:=(blk_iff k i _ (by omega)).1 ⟨by omega,by omega⟩;have e2:(i*k+j) % k=j:=by rw[Nat.mod_eq_sub_div_mul,e1];omega
 have hsz:(flatK encV k dk).size=n*k:=by rw[size_flatK,hd]
 have hl:i*k+j<arr.size:=by omega
 unfold putCells;rw[ku,Array.getElem?_mapIdx,kz hl];simp only[kR,kF];rw[if_pos ⟨kw _,by rw[hsz];omega⟩,gv];show(flatK encV k dk)[i*k+j]! =_;rw[get_flatK _ _ _ _ (by rw[hd];exact lt),e1,e2]
end
theorem qRl {α:Type} (a:Array α) {i:Nat} (h:i<a.size) (d:α):a.getD i d=a[i]:=by rw[ku,kz h];rfl
theorem fn0 {w:World} {M:Mem} {g:Nat} {v:Value} (h:CRep w M (.fn g []) v):v= .func (.func g) #[] #[]:=by
 obtain⟨vs,hv,hs,_⟩:=h;have:vs= #[]:=Array.eq_empty_of_size_eq_zero hs;subst this;exact hv
theorem qZS {P:Program} {ρ:Ren} {α:Type} [Inhabited α] {gl:List (Nat×C)} (L:SlLaysF0.n6 P ρ) (k:Nat) (aE:∀w,(isAgg (ρ.t 24)).run P w= .ok true w) (zE:∀w,(Go.sizeOf (ρ.t 24)).run P w= .ok k w)
  (encV:α->List Value) (hk:∀x,(encV x).length=k) (h1:∀x,∀v∈encV x,v.oneCell'=true) (cmp:α->α->Option Int) (cf:α->α->Int) (hcf:∀x y,cmp x y=some (cf x y)) (hO:SWO (ltOf cf)) (hA:∀x y,ltOf cf x y=false->ltOf cf y x=false->x=y)
  (g eid:Nat) (eg:∀args w,(callFunc g args).run P w= .ok (.enter g args) w)
  (hg:∀x y,CtX P (markG::gl) g 0 0 [.agg ((encV x).map .val),.agg ((encV y).map .val)] [] (.v (.one (.val (.int .i64 (cf x y))))) [])
  (l:List α) (h0:0<l.length) (hlt:l.length<4611686018427387904):
  CtX P gl (ρ.f 6) 1 1 [.one (.own 0 0 k l.length),.one (.fn g [])] [(0,(0,.row eid k l.length (rowf (λx=>(encV x).map .val) du l)))] .undef [(0,(0,.row eid k (FM cmp l).length (rowf (λx=>(encV x).map .val) du (FM cmp l))))]:=by
 intro w M vs hgl hin ha;obtain⟨hsz,hargs⟩:=ha;have hr:=hin.objs 0 0 _ rfl;have a0:=hargs 0 (by simp);have a1:=hargs 1 (by simp);have e1:vs.getD 1 undef= .func (.func g) #[] #[]:=fn0 a1;rcases a0 with⟨hl0,_⟩|⟨b,cap,e0,hlc,hcm,hb⟩
 ·omega
 obtain⟨hbl,arr,et,hh,has⟩:=hb hr.ver;obtain⟨hver,hrow⟩:=hr;rcases hrow with⟨hn,_⟩|⟨b',arr',hb',hh',hns,hcr⟩
 ·rw[hbl] at hn;cases hn
 have:b'=b:=kE (hb'.symm.trans hbl);subst this;rw[hh] at hh';cases hh';have hvs:vs= #[.slice (some ⟨b',0,none⟩) l.toArray.size cap,.func (.func g) #[] #[]]:=by
  apply Array.ext
  ·simpa using hsz
  ·intro i hi1 hi2;have hi:i<2:=by simpa using hi2
   have:i=0\/i=1:=by omega
   rcases this with rfl|rfl
   ·rw[<-qRl _ hi1 undef,e0];rfl
   ·rw[<-qRl _ hi1 undef,e1];rfl
 have hblt:b'<w.heap.size:=(kM.1 hh).1;have hnA:¬M.A b':=(hin.rng 0 0 b' hver hbl).2.2;have hcell:∀i j,i<l.length->j<k->arr.getD (i*k+j) undef=(encV (l.getD i du)).getD j undef:=by
  intro i j hi hj;have:=(hcr i hi).2 j hj;unfold rowf at this;have hj':j<(encV (l.getD i du)).length:=by rw[hk];exact hj
  simp only[ka,kH] at this hj'⊢;rw[ks hj'] at this⊢;simp only[kR,kF] at this⊢;exact this.val_eq
 have hH:HoldsK encV k w b' 0 l.toArray:=by
  intro t ht;rw[size_flatK,List.size_toArray] at ht;have k0:0<k:=by
   rcases dd k with h|h
   ·subst h;simp at ht
   ·exact h
  have hi:t/k<l.length:=gY (by rw[gu];exact ht);have hm:=kK t k0;have htk:t/k*k+t % k=t:=by rw[gu];exact Nat.div_add_mod t k
  have hc:=hcell (t/k) (t % k) hi hm;rw[htk] at hc;have htlt:t<arr.size:=by omega
  refine⟨?_,?_⟩
  ·rw[get_flatK _ _ _ _ (by simpa using ht)];rw[show(0+t)=t by omega];have:w.cell? ⟨b',t,none⟩=arr[t]? :=by unfold World.cell?;rw[hh];rfl
   rw[this,kz htlt];rw[qRl _ htlt] at hc;rw[hc]
   congr 1
   have hj':t % k<(encV (l.getD (t/k) du)).length:=by rw[hk];exact hm
   have hge:l.toArray[t/k]! =l.getD (t/k) du:=by
    rw[ka,ks hi,getElem!_pos _ _ (by simpa using hi)];rfl
   show _=(encV l.toArray[t/k]!)[t % k]!;rw[hge,getElem!_pos (encV (l.getD (t/k) du)) _ hj',ka,ks hj'];rfl
  ·unfold World.frozen?;rw[hh];simp
 have hcmp:CmpLays P g #[] encV k cf b' 0 l.toArray.size w:=by
  intro m os dk hds x y;have hbase:=hg x y (sortWorldK encV k w b' 0 m dk os) (Mem.of M.A) #[.agg (encV x).toArray,.agg (encV y).toArray] ?_ ?_ ?_
  ·refine hbase.mono ?_;rintro e w' ⟨v,M',he,hbel,_,hret⟩;have hv:=hret.val;refine⟨?_,qSS hbel ?_⟩
   ·rw[he];exact congrArg _ (IRep.val_eq hv)
   ·rintro b ⟨i,k',hv,_⟩;cases hv
  ·refine PM.mark λq c hq=>?_;refine(hgl q c hq).move (λc' hA' hc'=>?_) (λ_ h _=>h);exact qIs encV k w b' m dk os hc' (λh=>hnA (h▸hA'))
  ·exact⟨λi j k l b h=>(by cases h),λi k b h=>(by cases h),λi h=>absurd rfl h,λi k o h=>(by cases h)⟩
  ·have one:∀z:α,zD (sortWorldK encV k w b' 0 m dk os) (Mem.of M.A) (.agg ((encV z).map .val)) (.agg (encV z).toArray):=by
    intro z;refine⟨_,rfl,⟨by simp,λj hj=>?_⟩⟩;have hj':j<(encV z).length:=by simpa using hj
    simp only[ka,kH,ks hj',kR,kF,ku,gQ];exact .val _ (h1 z _ (ut hj'))
   refine⟨rfl,λj hj=>?_⟩;have hj2:j<2:=hj;have:j=0\/j=1:=by omega
   rcases this with rfl|rfl
   ·exact one x
   ·exact one y
 have key:=AnyQ.slices_SortFunc L k aE zE encV hk h1 cf hO g #[] b' 0 cap l.toArray w eg hcmp hH hblt (by simpa using hlt);rw[hvs];refine key.mono ?_;rintro e w' ⟨he,d',n,os,hperm,hsorted,rfl⟩;have hu:d'.toList=FM cmp l:=by
  have hsz':d'.size=l.toArray.size:=hperm.1;have e1:d'.extract 0 l.toArray.size=d':=by rw[<-hsz'];exact Array.extract_size
  have hpm:=hperm.2.2;rw[e1,Array.extract_size] at hpm;have hle:(λx y=>!decide ((cmp y x).getD 0<0))=λx y=>!ltOf cf y x:=by
   funext x y;simp only[hcf,kF,ltOf]
  unfold FM;rw[hle];refine List.Perm.eq_of_pairwise (le:=λx y=>(!ltOf cf y x)=true) ?_ ?_ ?_ (hpm.trans (UK _ l).symm)
  ·intro a b _ _ h1 h2;simp only[uv] at h1 h2;exact hA a b h2 h1
  ·rw[gA];intro i j hi hj hij;have hi':i<d'.size:=by simpa using hi
   have hj':j<d'.size:=by simpa using hj
   have:=hsorted i j (kw _) hij (by omega);rw[getElem!_pos d' j hj',getElem!_pos d' i hi'] at this;simpa using this
  ·refine qA4 ?_ ?_ l
   ·intro a b c h1 h2;simp only[uv] at h1 h2⊢;exact hO.ntrans c b a h2 h1
   ·intro a b;cases h:ltOf cf b a with
    |false=>simp
    |true=>
     right;cases h':ltOf cf a b with
     |false=>rfl
     |true=>have:=hO.trans a b a h' h;rw[hO.irrefl] at this;cases this
 have hds:d'.size=l.length:=by have:=hperm.1;simpa using this
 have hlen:(FM cmp l).length=l.length:=by rw[<-hu];simpa using hds
 refine⟨undef,{M with A:=λb=>M.A b\/w.heap.size<=b},he,⟨rfl,rfl,rfl,qW9 _ _ _ _ _ _ _,λc hc hno=>qIs _ _ _ _ _ _ _ hc λh=>hno ⟨0,0,hver,by rw[h];exact hbl⟩,λ_=>gp _ _⟩,?_,?_⟩
 ·intro c arr' e' hc;by_cases hcb:c=b'
  ·subst hcb;rw[hh] at hc;cases hc;exact⟨_,qPI _ _ _ _ _ _ _ hh,by simp[putCells]⟩
  ·exact⟨arr',by rw[qIs _ _ _ _ _ _ _ (kM.1 hc).1 hcb];exact hc,rfl⟩
 ·refine⟨λi hi=>?_,hin.inj,λi k' b hv hb=>?_,λi k' k'' _ _ _=>rfl,λb=>Iff.rfl,rfl,λi k' o ho=>?_⟩
  ·have:=hin.only i hi;unfold hits at this⊢;rw[look_cons] at this⊢;split at this
   ·rename_i h;rw[if_pos h];rfl
   ·cases this
  ·exact⟨.inr ⟨⟨k',hv⟩,hb⟩,um (hin.rng i k' b hv hb).2.1 (qW9 _ _ _ _ _ _ _)⟩
  ·rw[look_cons] at ho;split at ho
   ·rename_i h;subst h;cases ho;refine⟨hver,.inr ⟨b',_,hbl,qPI _ _ _ _ _ _ _ hh,?_,λi hi=>⟨?_,λj hj=>?_⟩⟩⟩
    ·rw[hlen];simpa[putCells] using hns
    ·unfold rowf;simp[hk]
    ·rw[hlen] at hi;rw[sw_get encV k d' hds hns hi hj hk];have hge:d'[i]! =(FM cmp l).getD i du:=by
      rw[<-hu,ka,gx,getElem!_pos _ _ (by omega),kz (by omega)];rfl
     rw[hge];unfold rowf;have hj':j<(encV ((FM cmp l).getD i du)).length:=by rw[hk];exact hj
     rw[getElem!_pos (encV ((FM cmp l).getD i du)) _ hj'];generalize (FM cmp l).getD i du=z at hj'⊢;simp only[ka,kH,ks hj',kR,kF];exact .val _ (h1 z _ (ut hj'))
   ·cases ho
end Go.SL

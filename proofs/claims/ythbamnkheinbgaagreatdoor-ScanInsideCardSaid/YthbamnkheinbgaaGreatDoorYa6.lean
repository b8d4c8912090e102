/- Results that are not turned any more; 's == nil'; short names. -/
import Derived.Test.YthbamnkheinbgaaGreatDoorYa5
import Derived.ChangeArms
import Derived.Shelf.SlSortCmp.WholeK
import Derived.Shelf.Lay
set_option linter.unusedVariables false
set_option linter.unusedSimpArgs false
namespace Go.SL
open Go.RowKit
def qNZ (id:Nat) (x:V) (ob:List (Nat×(Nat×O))):Option (V×List (Nat×(Nat×O))×Option Prop):=
 match look id ob with
 |some (k,.row _ sz n f)=>bif Nat.blt 0 sz then some ((phV (frzC id k sz n f) x).1,(phB (frzC id k sz n f) id ob).1,an (phV (frzC id k sz n f) x).2 (phB (frzC id k sz n f) id ob).2) else none
 |_=>none
theorem CtX.frz {P:Program} {gl:List (Nat×C)} {f n m:Nat} {xs:List V1} {oi:List (Nat×(Nat×O))} {x x':V} {ob ob':List (Nat×(Nat×O))} (h:CtX P gl f n m xs oi x ob) (id:Nat) {q:Option Prop} (hq:oP q) (hf:(Nat.ble n id&&Nat.ble m id,qNZ id x ob)=(true,some (x',ob',q))):CtX P gl f n m xs oi x' ob':=by
 simp only[Prod.mk.injEq,ki,Nat.ble_eq] at hf;obtain⟨⟨hn,hm⟩,hf⟩:=hf;intro w M vs hg hin ha;refine(h w M vs hg hin ha).mono ?_;rintro e w' ⟨v,R,he,hb,hsh,hr⟩;unfold qNZ at hf;split at hf
 ·rename_i k e' sz nn ff hl;cases hp:Nat.blt 0 sz with
  |false=>rw[hp] at hf;cases hf
  |true=>
   rw[hp] at hf;cases hf;obtain⟨q1,q2⟩:=yA hq;have hpos:0<sz:=by simpa[kT] using hp
   have hor:=hr.objs id k _ hl;have hver:=hor.ver;have hown:∀b,R.blk id=some b->(R.drop id).imm b:=λb hbk=>by
    refine⟨?_,fun⟨i,k',hv,hbi⟩=>?_⟩
    ·refine(hr.area b).2 (.inr ?_);rcases(hr.rng id k b hver hbk).1 with h1|⟨⟨k',h1⟩,h2⟩
     ·exact h1
     ·have:=(hin.rng id k' b h1 h2).1;omega
    ·obtain⟨h1,h2⟩:=wB hv;exact h1 (hr.inj i id k' k b h2 hver hbi hbk)
   have hφ:=qLj hor hpos hown;refine⟨v,R.drop id,he,hb,hsh,⟨λi hi=>?_,λi j k l b hi hj hbi hbj=>hr.inj i j k l b (wB hi).2 (wB hj).2 hbi hbj,λi k b hv hbk=>hr.rng i k b (wB hv).2 hbk,λi k k' him hk hv=>hr.fix i k k' him hk (wB hv).2,hr.area,qMr hφ q1 hr.val,λi k' o ho=>?_⟩⟩
   ·obtain⟨k',hk'⟩:=ut.1 hi;obtain⟨h1,h2⟩:=wB hk';exact phB_hits (hr.only i (by rw[h2];simp)) h1
   ·obtain⟨hne,o',h1,h2,rfl⟩:=qBB q2 ho;have hor':=hr.objs i k' o' h1;have hv:(R.drop id).ver i=some k':=by simp only[Mem.drop,hne,if_false];exact hor'.ver
    cases o' with
    |box e cs=>obtain⟨_,b,arr,e1,e2,e3⟩:=hor';exact⟨hv,b,arr,e1,e2,qBL hφ h2 e3⟩
    |row e sz n f=>
     refine⟨hv,?_⟩;rcases hor'.2 with h0|⟨b,arr,e1,e2,e3,e4⟩
     ·exact .inl h0
     ·exact .inr ⟨b,arr,e1,e2,e3,λi hi=>⟨(e4 i hi).1,λj hj=>ZP ((e4 i hi).2 j hj)⟩⟩
    |lp R b s j=>exact⟨hv,hor'.2.1,hor'.2.2⟩
 ·cases hf
theorem eq_nil {P:Program} {w:World} {t e:TypeId} (ht:P.underlying t=some (.slice e)) (d:Nat) (a:Option Addr) (n c:Nat):(Op.equalIn (d+1) t (.slice a n c) (.slice none 0 0)).run P w= .ok a.isNone w:=by
 cases a<;>simp[Op.equalIn,run_underlying ht]
theorem qMd {P:Program} {w:World} {t e:TypeId} (ht:P.underlying t=some (.slice e)) (a:Option Addr) (n c:Nat) (x y:Operand):
  (do eqGuard .eql t x y (.slice a n c) (.slice none 0 0);binOp .eql t (.slice a n c) (.slice none 0 0):Sem Value).run P w= .ok (.bool a.isNone) w:=by
 have he:(Op.equal t (.slice a n c) (.slice none 0 0)).run P w= .ok a.isNone w:=eq_nil ht 9999 a n c;have hg:(eqGuard .eql t x y (.slice a n c) (.slice none 0 0)).run P w= .ok () w:=rfl;rw[Sem.run_bind,hg];show((do pure (.bool (<-Op.equal t (.slice a n c) (.slice none 0 0)))):Sem Value).run P w=_;rw[Sem.run_bind,he];rfl
theorem R_nil {K:Ctx} {st:St} {Q:Exit->St->Prop} (fn:Func) (nn id c:Nat) (want:St) (t t' e d:Nat) (x:Operand) (n:Nat) (f:Nat->List C) (hc:nd fn nn= .region id (rg fn nn) false)
  (h:(GK K.nt (rg fn nn),(rg fn nn).size,seen want (runO K (rg fn nn) [] c 0 st 0))=(true,c+1,wish want none))
  (hg:(gd (rg fn nn) want (opAt (rg fn nn) c),(opAt (rg fn nn) c).dst,(opAt (rg fn nn) c).op,op1 K.globs want x,K.P.underlying t)=(some true,some d,.binOp .eql t x (.const (.slice none 0 0)) t',some (.one (.lst n f)),some (.slice e)))
  (hk:∀b:Bool,(b=true->n=0)->Q .normal (want.app (some d) (qJn b) [])):H K st (nd fn nn) Q:=by
 rw[hc];generalize rg fn nn=ops at h hg;simp only[Prod.mk.injEq] at h hg;obtain⟨hok,hsz,hs⟩:=h;obtain⟨st',h1,hsub⟩:=qBU hs;obtain⟨g1,g2,g3,g4,g5⟩:=hg;refine qKg (NN hok h1 trivial (by omega) ?_);intro M a w hsim;have hs1:=hsim.sub hsub;have hi':c<ops.size:=by omega
 have hv:IRep w (M.keep want.objs).imm (.lst n f) (a.eval x):=op1_rep hs1.1 g4;have key:∃b:Bool,(b=true->n=0)/\(execOp a.eval (opAt ops c)).run K.P w= .ok (.value (.bool b)) w:=by
  have hgen:∀u,IRep w (M.keep want.objs).imm (.lst n f) u->∃b:Bool,(b=true->n=0)/\(do eqGuard .eql t x (.const (.slice none 0 0)) u (.slice none 0 0);binOp .eql t u (.slice none 0 0):Sem Value).run K.P w= .ok (.bool b) w:=by
   intro u hu;cases hu with
   |lst0 b=>exact⟨b.isNone,λ_=>rfl,qMd g5 b 0 0 _ _⟩
   |lst b o n cap sz f g hn hm hl hb hc hr=>exact⟨false,λhb=>(by cases hb),qMd g5 (some ⟨b,o,none⟩) n cap _ _⟩
  obtain⟨b,hb,hr⟩:=hgen _ hv;refine⟨b,hb,?_⟩;unfold execOp;rw[g3];exact yK hr
 obtain⟨b,hb,hrun⟩:=key;rw[kI,qAs hi'];simp only[wpOpsIn,YA hi',qBM hs1.1 g1 (MK hok hi') (JW hok),if_true];refine Oper.wpIn_of_wp (by rw[g3];rfl) ?_;unfold Oper.wp;rw[hrun];have hst:=hs1.step (dst:=(opAt ops c).dst) (nv:=[]) (ob:=[]) (x:=qJn b) (v:= .bool b) (Ext.same hs1.1 rfl rfl rfl rfl) (zV _ rfl) (λi k o h=>by cases h) (λi hi=> .inl hi) rfl (qA9 want) rfl (JW hok c);rw[show ops.size-(c+1)=0 by omega];rw[g2] at hst;refine⟨M.keep want.objs,want.app (some d) (qJn b) [],hk b hb,?_⟩;rw[g2];exact hst
theorem qBo {a b:Nat} (h:(a==b)=true):a=b:=eq_of_beq h
def qCR (n:Nat):Bool:=Nat.blt 0 n&&Nat.blt n 4611686018427387904
theorem qNt {n:Nat} (h:qCR n=true):0<n/\n<4611686018427387904:=by simp only[qCR,ki,kT] at h;exact h
def insB {α:Type} (le:α->α->Bool) (x:α):List α->List α
 |[]=>[x]
 |y::r=>bif le x y then x::y::r else y::insB le x r
def GJ {α:Type} (le:α->α->Bool):List α->List α
 |[]=>[]
 |x::r=>insB le x (GJ le r)
def PE {α:Type} (cmp:α->α->Option Int) (l:List α):List α:=GJ (λx y=>!decide ((cmp y x).getD 0<0)) l
theorem insB_perm {α:Type} (le:α->α->Bool) (x:α):∀l,(insB le x l).Perm (x::l)
 |[]=>List.Perm.refl _
 |y::r=>by
  unfold insB;cases le x y with
  |true=>exact List.Perm.refl _
  |false=>exact((insB_perm le x r).cons y).trans (List.Perm.swap x y r)
theorem NK {α:Type} (le:α->α->Bool):∀l,(GJ le l).Perm l
 |[]=>List.Perm.refl _
 |x::r=>(insB_perm le x _).trans ((NK le r).cons x)
theorem qEH {α:Type} {le:α->α->Bool} (ht:∀x y z,le x y=true->le y z=true->le x z=true) (htot:∀x y,le x y=true\/le y x=true) (x:α):∀l,l.Pairwise (λa b=>le a b=true)->(insB le x l).Pairwise (λa b=>le a b=true)
 |[],_=>List.pairwise_singleton _ _
 |y::r,h=>by
  obtain⟨h1,h2⟩:=kN.1 h;unfold insB;cases hxy:le x y with
  |true=>
   refine kN.2 ⟨λz hz=>?_,h⟩;rcases kU.1 hz with rfl|hz
   ·exact hxy
   ·exact ht _ _ _ hxy (h1 z hz)
  |false=>
   refine kN.2 ⟨λz hz=>?_,qEH ht htot x r h2⟩;rcases kU.1 ((insB_perm le x r).mem_iff.1 hz) with rfl|hz
   ·exact(htot z y).resolve_left (by simp[hxy])
   ·exact h1 z hz
theorem zbQ {α:Type} {le:α->α->Bool} (ht:∀x y z,le x y=true->le y z=true->le x z=true) (htot:∀x y,le x y=true\/le y x=true):∀l,(GJ le l).Pairwise (λa b=>le a b=true)
 |[]=>List.Pairwise.nil
 |x::r=>qEH ht htot x _ (zbQ ht htot r)
def vi (n:Int):V:= .v (.one (.val (.int .i64 n)))
def vb (b:Bool):V:= .v (.one (.val (.bool b)))
def vp (id j:Nat):V:= .v (.one (.bptr id 0 j))
def vo (id k sz n:Nat):V:= .v (.one (.own id k sz n))
def vc (c:C):V:= .v (.one c)
def va (cs:List C):V:= .v (.agg cs)
def ci (n:Int):C:= .val (.int .i64 n)
def cb (b:Bool):C:= .val (.bool b)
def cs (s:ByteArray):C:= .val (.string s)
def rf {α:Type} [Inhabited α] (e:α->List C) (l:List α):Nat->List C:=rowf e dd l
def bx (e:Nat) (cs:List C):Nat×O:=(0,.box e cs)
def ro (k e sz n:Nat) (f:Nat->List C):Nat×O:=(k,.row e sz n f)
def dfx (b:Bool):Dir:=⟨[],some b,none,none⟩
def drw (id k:Nat) (f:Nat->List C):Dir:=⟨[],none,none,some (id,k,f)⟩
def dex (e:Ent):Dir:=⟨[],none,some e,none⟩
def dpr (p:List Fin) (d:Dir):Dir:={d with pre:=p}
def cen (ren:List (Nat×Nat)) (outs:List Nat) (c m:Nat) (x:V) (ob:List (Nat×(Nat×O))) (rs ro:List Nat):Ent:=⟨true,x.out ⟨ren,outs,c⟩,qAq ⟨ren,outs,c⟩ m ob,UM ⟨ren,outs,c⟩ ob,rs,ro⟩
theorem zI {K:Ctx} (st:St) (op:Oper) (ren:List (Nat×Nat)) (outs:List Nat) (c:Nat) {f:FuncId} {m:Nat} {xs' xs:List V1} {p:Option Prop} {b:Bool} {oi:List (Nat×(Nat×O))} {x:V} {ob:List (Nat×(Nat×O))} (hp:oP p) (hxs:xs'=xs) (hct:CtX K.P K.globs f ren.length m xs oi x ob) (hb:b=true\/(x.noLst=true/\yX ob))
  (hin:(qA2 K.globs st ren op.op,fnOk K.P f,Out.ok ⟨ren,outs,c⟩ m ob&&(x.closed ob&&ob.all (λq=>q.2.2.closed ob)))=(some (f,xs',p,b,oi),true,true)):
  Step K st op (qAq ⟨ren,outs,c⟩ m ob) (UM ⟨ren,outs,c⟩ ob) (x.out ⟨ren,outs,c⟩):=by
 simp only[Prod.mk.injEq] at hin;exact qM9 hin.1 hp hxs hct hin.2.1 hin.2.2 hb
end Go.SL

namespace Go.SL
open Go.RowKit
def cLe :C->C->Prop
 | .emp,.lst n _=>n=0
 |c,d=>c=d
def csLe :List C->List C->Prop
 |[],[]=>True
 |c::r,d::s=>cLe c d/\csLe r s
 |_,_=>False
def v1Le :V1->V1->Prop
 | .one c,.one d=>cLe c d
 | .agg cs,.agg ds=>csLe cs ds
 |_,_=>False
def vsLe :List V1->List V1->Prop
 |[],[]=>True
 |c::r,d::s=>v1Le c d/\vsLe r s
 |_,_=>False
theorem qMb {w:World} {M:Mem} {c d:C} {v:Value} (h:cLe c d) (hr:CRep w M c v):CRep w M d v:=by
 unfold cLe at h;split at h
 ·subst h;cases hr with
  |emp a=>exact IRep.lst0 a _
 ·subst h;exact hr
theorem qJA :∀{cs ds:List C},csLe cs ds->cs.length=ds.length
 |[],[],_=>rfl
 |_::r,_::s,h=>by simp[qJA h.2]
 |[],_::_,h=>h.elim
 |_::_,[],h=>h.elim
theorem qKb :∀{cs ds:List C},csLe cs ds->∀j,j<cs.length->cLe (cs.getD j .unk) (ds.getD j .unk)
 |_::r,_::s,h,0,_=>h.1
 |_::r,_::s,h,j+1,hj=>by
  have:=qKb h.2 j (by simpa using hj);simpa using this
 |[],[],_,j,hj=>by simp at hj
 |[],_::_,h,_,_=>h.elim
 |_::_,[],h,_,_=>h.elim
theorem qOs {w:World} {M:Mem} {c d:V1} {v:Value} (h:v1Le c d) (hr:qP w M c v):qP w M d v:=by
 cases c with
 |one c=>cases d with
  |one d=>exact qMb h hr
  |agg ds=>exact h.elim
 |agg cs=>cases d with
  |one d=>exact h.elim
  |agg ds=>
   obtain⟨vs,hv,hl,hh⟩:=hr;have e:=qJA h;exact⟨vs,hv,by omega,λj hj=>qMb (qKb h j (by omega)) (hh j (by omega))⟩
theorem qKY :∀{cs ds:List V1},vsLe cs ds->cs.length=ds.length
 |[],[],_=>rfl
 |_::r,_::s,h=>by simp[qKY h.2]
 |[],_::_,h=>h.elim
 |_::_,[],h=>h.elim
theorem qLd :∀{cs ds:List V1},vsLe cs ds->∀j,j<cs.length->v1Le (cs.getD j (.one .unk)) (ds.getD j (.one .unk))
 |_::r,_::s,h,0,_=>h.1
 |_::r,_::s,h,j+1,hj=>by
  have:=qLd h.2 j (by simpa using hj);simpa using this
 |[],[],_,j,hj=>by simp at hj
 |[],_::_,h,_,_=>h.elim
 |_::_,[],h,_,_=>h.elim
theorem CtX.emp {P:Program} {gl:List (Nat×C)} {f n m:Nat} {xs' xs:List V1} {oi:List (Nat×(Nat×O))} {x:V} {ob:List (Nat×(Nat×O))} (h:CtX P gl f n m xs oi x ob) (hl:vsLe xs' xs):CtX P gl f n m xs' oi x ob:=by
 intro w M vs hg hin ha;refine h w M vs hg hin ?_;have e:=qKY hl;exact⟨by have:=ha.1;omega,λj hj=>qOs (qLd hl j (by omega)) (ha.2 j (by omega))⟩
end Go.SL

namespace Go.SL
open Go.RowKit
def St.up (st:St) (ds:List Nat) (als:List (Nat×V)) (dob:List Nat) (aob:List (Nat×(Nat×O))):St:=
 ⟨als++st.slots.filter (λp=>!(ds.any (Nat.beq p.1))),aob++st.objs.filter (λp=>!(dob.any (Nat.beq p.1)))⟩
def strTk (n:Nat) (l:List Int):ByteArray:=AM n (rf e_u8 l)
def qDY :Code->Operand
 | .cond o _ _=>o
 |_=> .tmp 0
def JQ :Code->Nat
 | .region id _ _=>id
 |_=>0
structure Ev (K:Ctx) (ops:Array Oper) where
 i:Nat
 d:Dir
 p:Option Prop
 h:oP p
def Ev.ds {K:Ctx} {ops:Array Oper}:List (Ev K ops)->List (Nat×Dir)
 |[]=>[]
 |e::l=>(e.i,e.d)::Ev.ds l
def Ev.ps {K:Ctx} {ops:Array Oper}:List (Ev K ops)->Option Prop
 |[]=>none
 |e::l=>an e.p (Ev.ps l)
theorem qGR {p q:Option Prop} (h:oP p) (k:oP q):oP (an p q):=by
 cases p with
 |none=>exact k
 |some p=>cases q with
  |none=>exact h
  |some q=>exact⟨h,k⟩
theorem Ev.oP {K:Ctx} {ops:Array Oper}:∀l:List (Ev K ops),oP (Ev.ps l)
 |[]=>trivial
 |e::l=>qGR e.h (Ev.oP l)
def qc {K:Ctx} {ops:Array Oper} (i:Nat) (rs:List Nat) (c:Nat) {f:FuncId} {m:Nat} {xs:List V1} {x:V} {ob:List (Nat×(Nat×O))} (hct:CtX K.P K.globs f 0 m xs [] x ob)
  (hin:(qA2 K.globs ⟨rs.zip (xs.map V.v),[]⟩ [] (opAt ops i).op,fnOk K.P f,Out.ok ⟨[],[],c⟩ m ob&&(x.closed ob&&ob.all (λq=>q.2.2.closed ob)))=(some (f,xs,none,true,[]),true,true):=by kernel_rfl):Ev K ops:=
 ⟨i,dex (cen [] [] c m x ob rs []),some (Step K ⟨rs.zip (xs.map V.v),[]⟩ (opAt ops i) (qAq ⟨[],[],c⟩ m ob) (UM ⟨[],[],c⟩ ob) (x.out ⟨[],[],c⟩)),zI _ _ [] [] c o0 rfl hct (.inl rfl) hin⟩
def qk {K:Ctx} {ops:Array Oper} (i:Nat) (rs:List Nat) (c:Nat) (st:St) {f:FuncId} {m:Nat} {xs:List V1} {x:V} {ob:List (Nat×(Nat×O))} (hct:CtX K.P K.globs f 0 m xs [] x ob)
  (hin:(qA2 K.globs st [] (opAt ops i).op,fnOk K.P f,Out.ok ⟨[],[],c⟩ m ob&&(x.closed ob&&ob.all (λq=>q.2.2.closed ob)))=(some (f,xs,none,true,[]),true,true):=by kernel_rfl):Ev K ops:=
 ⟨i,dex (cen [] [] c m x ob rs []),some (Step K st (opAt ops i) (qAq ⟨[],[],c⟩ m ob) (UM ⟨[],[],c⟩ ob) (x.out ⟨[],[],c⟩)),zI _ _ [] [] c o0 rfl hct (.inl rfl) hin⟩
def qd {K:Ctx} {ops:Array Oper} (i:Nat) (d:Dir) {p:Prop} (h:p):Ev K ops:=⟨i,d,some p,h⟩
def dN :Dir:=Dir.none
def qi {K:Ctx} {ops:Array Oper} (i:Nat) {z:Int} {m:Nat} (h:inb z m=true):Ev K ops:=qd i Dir.none (zJ h)
def qf {K:Ctx} {ops:Array Oper} (i:Nat) {x b:Bool} (h:x=b):Ev K ops:=⟨i,dfx b,some (x=b),h⟩
theorem bif_c {α:Type} {c:Bool} {A B:Option α} {r:α} (h:(bif c then A else B)=some r):(c=true/\A=some r)\/(c=false/\B=some r):=by cases c;exact .inr ⟨rfl,h⟩;exact .inl ⟨rfl,h⟩
theorem oi {α:Type} {a b:α} (h:some a=some b):a=b:=kP h
section
variable {K :Ctx} {st:St} {Q:Exit->St->Prop} {fn:Func} {n:Nat}
theorem q_sq (h:H K st (nd fn (2*n)) (qB1 Q λst'=>H K st' (nd fn (2*n+1)) Q)) (hc:nd fn n= .seq (nd fn (2*n)) (nd fn (2*n+1)):=by kernel_rfl):H K st (nd fn n) Q:=R_sq fn _ _ hc h
theorem q_cn (x:Bool) (ht:x=true->H K st (nd fn (2*n)) Q) (hf:x=false->H K st (nd fn (2*n+1)) Q) (hc:nd fn n= .cond (qDY (nd fn n)) (nd fn (2*n)) (nd fn (2*n+1)):=by kernel_rfl) (ho:opB st (qDY (nd fn n))=some x:=by kernel_rfl):H K st (nd fn n) Q:=R_cn fn _ _ _ hc x ho ht hf
theorem q_bk (id:Nat) (h:H K st (nd fn (2*n)) (IB id Q)) (hc:nd fn n= .block id (nd fn (2*n)):=by kernel_rfl):H K st (nd fn n) Q:=R_bk fn id _ hc h
theorem q_sk {c:Code} (h:Q .normal st) (hc:c= .skip:=by kernel_rfl):H K st c Q:=qJz hc h
theorem q_rt {c:Code} (h:Q .ret st) (hc:c= .ret:=by kernel_rfl):H K st c Q:=qF6 hc h
theorem q_ex {c:Code} (id:Nat) (h:Q (.exit id) st) (hc:c= .exit id:=by kernel_rfl):H K st c Q:=R_exit id hc h
theorem q_vn (es:List (Ev K (rg fn n))) (nid:Nat) (want:St) (hk:Q .normal want) (hc:nd fn n= .region (JQ (nd fn n)) (rg fn n) false:=by kernel_rfl) (h:seen want (runF K (rg fn n) (Ev.ds es) [] st nid)=wish want (Ev.ps es):=by kernel_rfl):H K st (nd fn n) Q:=R_rn fn n _ (Ev.ds es) [] nid want (Ev.oP es) hc h hk
theorem q_wn (es:List (Ev K (rg fn n))) (fin:List Fin) {fo:Option Prop} (hf:oP fo) (nid:Nat) (want:St) (hk:Q .normal want) (hc:nd fn n= .region (JQ (nd fn n)) (rg fn n) false:=by kernel_rfl) (h:seen want (runF K (rg fn n) (Ev.ds es) fin st nid)=wish want (an (Ev.ps es) fo):=by kernel_rfl):H K st (nd fn n) Q:=R_rn fn n _ (Ev.ds es) fin nid want (qGR (Ev.oP es) hf) hc h hk
theorem q_dn (es:List (Ev K (rg fn n))) (bm:List Nat) (nid:Nat) (want:St) (hk:Q .normal want) (hc:nd fn n= .region (JQ (nd fn n)) (rg fn n) true:=by kernel_rfl) (h:seen want (qBK K (rg fn n) [] (Ev.ds es) [] bm st nid)=wish want (Ev.ps es):=by kernel_rfl):H K st (nd fn n) Q:=R_dr fn n _ [] (Ev.ds es) [] bm nid want (Ev.oP es) hc h hk
theorem q_vu (es:List (Ev K (rg fn n))) (nid:Nat) (ds:List Nat) (als:List (Nat×V)) (dob:List Nat) (aob:List (Nat×(Nat×O))) (hk:Q .normal (st.up ds als dob aob)) (hc:nd fn n= .region (JQ (nd fn n)) (rg fn n) false:=by kernel_rfl) (h:seen (st.up ds als dob aob) (runF K (rg fn n) (Ev.ds es) [] st nid)=wish (st.up ds als dob aob) (Ev.ps es):=by kernel_rfl):H K st (nd fn n) Q:=R_rn fn n _ (Ev.ds es) [] nid _ (Ev.oP es) hc h hk
theorem q_wu (es:List (Ev K (rg fn n))) (fin:List Fin) {fo:Option Prop} (hf:oP fo) (nid:Nat) (ds:List Nat) (als:List (Nat×V)) (dob:List Nat) (aob:List (Nat×(Nat×O))) (hk:Q .normal (st.up ds als dob aob)) (hc:nd fn n= .region (JQ (nd fn n)) (rg fn n) false:=by kernel_rfl) (h:seen (st.up ds als dob aob) (runF K (rg fn n) (Ev.ds es) fin st nid)=wish (st.up ds als dob aob) (an (Ev.ps es) fo):=by kernel_rfl):H K st (nd fn n) Q:=R_rn fn n _ (Ev.ds es) fin nid _ (qGR (Ev.oP es) hf) hc h hk
theorem q_du (es:List (Ev K (rg fn n))) (bm:List Nat) (nid:Nat) (ds:List Nat) (als:List (Nat×V)) (dob:List Nat) (aob:List (Nat×(Nat×O))) (hk:Q .normal (st.up ds als dob aob)) (hc:nd fn n= .region (JQ (nd fn n)) (rg fn n) true:=by kernel_rfl) (h:seen (st.up ds als dob aob) (qBK K (rg fn n) [] (Ev.ds es) [] bm st nid)=wish (st.up ds als dob aob) (Ev.ps es):=by kernel_rfl):H K st (nd fn n) Q:=R_dr fn n _ [] (Ev.ds es) [] bm nid _ (Ev.oP es) hc h hk
theorem q_xu (pre:List Fin) {po:Option Prop} (hp:oP po) (es:List (Ev K (rg fn n))) (fin:List Fin) {fo:Option Prop} (hf:oP fo) (bm:List Nat) (nid:Nat) (ds:List Nat) (als:List (Nat×V)) (dob:List Nat) (aob:List (Nat×(Nat×O))) (hk:Q .normal (st.up ds als dob aob)) (hc:nd fn n= .region (JQ (nd fn n)) (rg fn n) true:=by kernel_rfl) (h:seen (st.up ds als dob aob) (qBK K (rg fn n) pre (Ev.ds es) fin bm st nid)=wish (st.up ds als dob aob) (an po (an (Ev.ps es) fo)):=by kernel_rfl):H K st (nd fn n) Q:=R_dr fn n _ pre (Ev.ds es) fin bm nid _ (qGR hp (qGR (Ev.oP es) hf)) hc h hk
theorem q_cm {ρ:Type} {x:Bool} {A B:Option ρ} {r:ρ} (hm:(bif x then A else B)=some r) (ht:x=true->A=some r->H K st (nd fn (2*n)) Q) (hf:x=false->B=some r->H K st (nd fn (2*n+1)) Q) (hc:nd fn n= .cond (qDY (nd fn n)) (nd fn (2*n)) (nd fn (2*n+1)):=by kernel_rfl) (ho:opB st (qDY (nd fn n))=some x:=by kernel_rfl):H K st (nd fn n) Q:=q_cn x (λh=>ht h (bif_t h hm)) (λh=>hf h (bif_f h hm)) hc ho
theorem s_vn (es:List (Ev K (rg fn (2*n)))) (nid:Nat) (want:St) (hk:H K want (nd fn (2*n+1)) Q) (hs:nd fn n= .seq (nd fn (2*n)) (nd fn (2*n+1)):=by kernel_rfl) (hc:nd fn (2*n)= .region (JQ (nd fn (2*n))) (rg fn (2*n)) false:=by kernel_rfl) (h:seen want (runF K (rg fn (2*n)) (Ev.ds es) [] st nid)=wish want (Ev.ps es):=by kernel_rfl):H K st (nd fn n) Q:=q_sq (q_vn es nid want hk hc h) hs
theorem s_wn (es:List (Ev K (rg fn (2*n)))) (fin:List Fin) {fo:Option Prop} (hf:oP fo) (nid:Nat) (want:St) (hk:H K want (nd fn (2*n+1)) Q) (hs:nd fn n= .seq (nd fn (2*n)) (nd fn (2*n+1)):=by kernel_rfl) (hc:nd fn (2*n)= .region (JQ (nd fn (2*n))) (rg fn (2*n)) false:=by kernel_rfl) (h:seen want (runF K (rg fn (2*n)) (Ev.ds es) fin st nid)=wish want (an (Ev.ps es) fo):=by kernel_rfl):H K st (nd fn n) Q:=q_sq (q_wn es fin hf nid want hk hc h) hs
theorem s_dn (es:List (Ev K (rg fn (2*n)))) (bm:List Nat) (nid:Nat) (want:St) (hk:H K want (nd fn (2*n+1)) Q) (hs:nd fn n= .seq (nd fn (2*n)) (nd fn (2*n+1)):=by kernel_rfl) (hc:nd fn (2*n)= .region (JQ (nd fn (2*n))) (rg fn (2*n)) true:=by kernel_rfl) (h:seen want (qBK K (rg fn (2*n)) [] (Ev.ds es) [] bm st nid)=wish want (Ev.ps es):=by kernel_rfl):H K st (nd fn n) Q:=q_sq (q_dn es bm nid want hk hc h) hs
theorem s_vu (es:List (Ev K (rg fn (2*n)))) (nid:Nat) (ds:List Nat) (als:List (Nat×V)) (dob:List Nat) (aob:List (Nat×(Nat×O))) (hk:H K (st.up ds als dob aob) (nd fn (2*n+1)) Q) (hs:nd fn n= .seq (nd fn (2*n)) (nd fn (2*n+1)):=by kernel_rfl) (hc:nd fn (2*n)= .region (JQ (nd fn (2*n))) (rg fn (2*n)) false:=by kernel_rfl) (h:seen (st.up ds als dob aob) (runF K (rg fn (2*n)) (Ev.ds es) [] st nid)=wish (st.up ds als dob aob) (Ev.ps es):=by kernel_rfl):H K st (nd fn n) Q:=q_sq (q_vu es nid ds als dob aob hk hc h) hs
theorem s_wu (es:List (Ev K (rg fn (2*n)))) (fin:List Fin) {fo:Option Prop} (hf:oP fo) (nid:Nat) (ds:List Nat) (als:List (Nat×V)) (dob:List Nat) (aob:List (Nat×(Nat×O))) (hk:H K (st.up ds als dob aob) (nd fn (2*n+1)) Q) (hs:nd fn n= .seq (nd fn (2*n)) (nd fn (2*n+1)):=by kernel_rfl) (hc:nd fn (2*n)= .region (JQ (nd fn (2*n))) (rg fn (2*n)) false:=by kernel_rfl) (h:seen (st.up ds als dob aob) (runF K (rg fn (2*n)) (Ev.ds es) fin st nid)=wish (st.up ds als dob aob) (an (Ev.ps es) fo):=by kernel_rfl):H K st (nd fn n) Q:=q_sq (q_wu es fin hf nid ds als dob aob hk hc h) hs
theorem s_du (es:List (Ev K (rg fn (2*n)))) (bm:List Nat) (nid:Nat) (ds:List Nat) (als:List (Nat×V)) (dob:List Nat) (aob:List (Nat×(Nat×O))) (hk:H K (st.up ds als dob aob) (nd fn (2*n+1)) Q) (hs:nd fn n= .seq (nd fn (2*n)) (nd fn (2*n+1)):=by kernel_rfl) (hc:nd fn (2*n)= .region (JQ (nd fn (2*n))) (rg fn (2*n)) true:=by kernel_rfl) (h:seen (st.up ds als dob aob) (qBK K (rg fn (2*n)) [] (Ev.ds es) [] bm st nid)=wish (st.up ds als dob aob) (Ev.ps es):=by kernel_rfl):H K st (nd fn n) Q:=q_sq (q_du es bm nid ds als dob aob hk hc h) hs
theorem q_jn {ι:Type} (S:ι->St) (J:ι->Prop) (hk:∀i,J i->H K (S i) (nd fn (2*n+1)) Q) (h:H K st (nd fn (2*n)) (qB1 Q λst'=>∃i,J i/\Sub (S i) st'.rev)) (hc:nd fn n= .seq (nd fn (2*n)) (nd fn (2*n+1)):=by kernel_rfl):H K st (nd fn n) Q:=R_join _ _ hc S J hk h
theorem q_vv (es:List (Ev K (rg fn n))) (nid:Nat) (ds:List Nat) (als:List (Nat×V)) (hk:Q .normal (st.up ds als [] [])) (hc:nd fn n= .region (JQ (nd fn n)) (rg fn n) false:=by kernel_rfl) (h:seen (st.up ds als [] []) (runF K (rg fn n) (Ev.ds es) [] st nid)=wish (st.up ds als [] []) (Ev.ps es):=by kernel_rfl):H K st (nd fn n) Q:=q_vu es nid ds als [] [] hk hc h
theorem q_va (nid:Nat) (als:List (Nat×V)) (hk:Q .normal (st.up [] als [] [])) (hc:nd fn n= .region (JQ (nd fn n)) (rg fn n) false:=by kernel_rfl) (h:seen (st.up [] als [] []) (runF K (rg fn n) (Ev.ds ([]:List (Ev K (rg fn n)))) [] st nid)=wish (st.up [] als [] []) (Ev.ps ([]:List (Ev K (rg fn n)))):=by kernel_rfl):H K st (nd fn n) Q:=q_vu [] nid [] als [] [] hk hc h
theorem s_vv (es:List (Ev K (rg fn (2*n)))) (nid:Nat) (ds:List Nat) (als:List (Nat×V)) (hk:H K (st.up ds als [] []) (nd fn (2*n+1)) Q) (hs:nd fn n= .seq (nd fn (2*n)) (nd fn (2*n+1)):=by kernel_rfl) (hc:nd fn (2*n)= .region (JQ (nd fn (2*n))) (rg fn (2*n)) false:=by kernel_rfl) (h:seen (st.up ds als [] []) (runF K (rg fn (2*n)) (Ev.ds es) [] st nid)=wish (st.up ds als [] []) (Ev.ps es):=by kernel_rfl):H K st (nd fn n) Q:=s_vu es nid ds als [] [] hk hs hc h
theorem s_va (nid:Nat) (als:List (Nat×V)) (hk:H K (st.up [] als [] []) (nd fn (2*n+1)) Q) (hs:nd fn n= .seq (nd fn (2*n)) (nd fn (2*n+1)):=by kernel_rfl) (hc:nd fn (2*n)= .region (JQ (nd fn (2*n))) (rg fn (2*n)) false:=by kernel_rfl) (h:seen (st.up [] als [] []) (runF K (rg fn (2*n)) (Ev.ds ([]:List (Ev K (rg fn (2*n))))) [] st nid)=wish (st.up [] als [] []) (Ev.ps ([]:List (Ev K (rg fn (2*n))))):=by kernel_rfl):H K st (nd fn n) Q:=s_vu [] nid [] als [] [] hk hs hc h
theorem q_fu {c:Code} (fins:List Fin) (ds:List Nat) (als:List (Nat×V)) (dob:List Nat) (aob:List (Nat×(Nat×O))) {q:Option Prop} (hq:oP q) (h:H K (st.up ds als dob aob) c Q) (hf:seen (st.up ds als dob aob) (YS K fins st)=wish (st.up ds als dob aob) q:=by kernel_rfl):H K st c Q:=H_fin fins _ hq hf h
theorem q_cq {ρ:Type} {x:Bool} {A B:Option ρ} {r:ρ} (hm:(bif x then A else B)=some r) (ht:A=some r->H K st (nd fn (2*n)) Q) (hf:B=some r->H K st (nd fn (2*n+1)) Q) (hc:nd fn n= .cond (qDY (nd fn n)) (nd fn (2*n)) (nd fn (2*n+1)):=by kernel_rfl) (ho:opB st (qDY (nd fn n))=some x:=by kernel_rfl):H K st (nd fn n) Q:=q_cm hm (λ_=>ht) (λ_=>hf) hc ho
theorem q_sw {c:Code} (i j:Nat) (h:H K (st.swp i j) c Q) (hij:(Nat.ble K.n i&&(Nat.ble K.m i&&(Nat.ble K.n j&&Nat.ble K.m j)))=true:=by kernel_rfl):H K st c Q:=H_swap i j hij h
theorem q_fn {c:Code} (fins:List Fin) (want:St) {q:Option Prop} (hq:oP q) (h:H K want c Q) (hf:seen want (YS K fins st)=wish want q:=by kernel_rfl):H K st c Q:=H_fin fins want hq hf h
theorem q_fo {α:Type} [Inhabited α] {c:Code} (s i t k:Nat) (e:α->List C) (h:H K (st.up [s] [(s,vo i 0 k 0)] [] [(i,ro 0 t k 0 (rf e ([]:List α)))]) c Q) (hf:seen (st.up [s] [(s,vo i 0 k 0)] [] [(i,ro 0 t k 0 (rf e ([]:List α)))]) (YS K [.own s i t k (rf e ([]:List α))] st)=wish (st.up [s] [(s,vo i 0 k 0)] [] [(i,ro 0 t k 0 (rf e ([]:List α)))]) none:=by kernel_rfl):H K st c Q:=q_fu [.own s i t k (rf e ([]:List α))] [s] [(s,vo i 0 k 0)] [] [(i,ro 0 t k 0 (rf e ([]:List α)))] o0 h hf
theorem q_fl {α:Type} [Inhabited α] {c:Code} (s i t k:Nat) (e:α->List C) (h:H K (st.up [s] [(s,vo i 0 k (([]:List α).length))] [i] [(i,ro 0 t k (([]:List α).length) (rf e ([]:List α)))]) c Q) (hf:seen (st.up [s] [(s,vo i 0 k (([]:List α).length))] [i] [(i,ro 0 t k (([]:List α).length) (rf e ([]:List α)))]) (YS K [.len i (([]:List α).length)] st)=wish (st.up [s] [(s,vo i 0 k (([]:List α).length))] [i] [(i,ro 0 t k (([]:List α).length) (rf e ([]:List α)))]) (some (0=([]:List α).length/\0=([]:List α).length)):=by kernel_rfl):H K st c Q:=q_fu [.len i (([]:List α).length)] [s] [(s,vo i 0 k (([]:List α).length))] [i] [(i,ro 0 t k (([]:List α).length) (rf e ([]:List α)))] (o1 (And.intro (show 0=([]:List α).length from rfl) (show 0=([]:List α).length from rfl))) h hf
end
theorem q_J {ι:Type} {S:ι->St} {J:ι->Prop} {st:St} (i:ι) (hj:J i) (h1:(S i).slots.map (λp=>look p.1 st.rev.slots)=(S i).slots.map λp=>some p.2:=by kernel_rfl) (h2:(S i).objs.map (λp=>look p.1 st.rev.objs)=(S i).objs.map λp=>some p.2:=by kernel_rfl):∃i,J i/\Sub (S i) st.rev:=J_mk i hj h1 h2
theorem q_rm {P:Program} {fn:Func} {x:V} {ob:List (Nat×(Nat×O))} {st:St} (h1:retV P st.rev fn.results.toList=some x:=by kernel_rfl) (h2:ob.map (λp=>look p.1 st.rev.objs)=ob.map λp=>some p.2:=by kernel_rfl):RetQ P fn x ob .ret st:=qDa h1 h2
theorem q_l0 {ω:Type} {b:Nat} {S:ω->St} {res:ω} {st:St} (h1:(S res).slots.map (λp=>look p.1 st.rev.slots)=(S res).slots.map λp=>some p.2:=by kernel_rfl) (h2:(S res).objs.map (λp=>look p.1 st.rev.objs)=(S res).objs.map λp=>some p.2:=by kernel_rfl):zW b S res (.exit b) st:=L0_mk h1 h2
theorem q_l1 {ω ρ:Type} {b:Nat} {S:ω->St} (o:ω) {st:St} (h1:(S o).slots.map (λp=>look p.1 st.rev.slots)=(S o).slots.map λp=>some p.2:=by kernel_rfl) (h2:(S o).objs.map (λp=>look p.1 st.rev.objs)=(S o).objs.map λp=>some p.2:=by kernel_rfl):Nat.beq b b=true/\∃o',(Sum.inr o:ρ⊕ω)= .inr o'/\Sub (S o') st.rev:=L1_mk o h1 h2
theorem q_hl {K:Ctx} {st:St} {c:Code} {Q:Exit->St->Prop} {n:Nat} (st':St) (h:HL K c Q n st') (h1:st'.slots.map (λp=>look p.1 st.rev.slots)=st'.slots.map λp=>some p.2:=by kernel_rfl) (h2:st'.objs.map (λp=>look p.1 st.rev.objs)=st'.objs.map λp=>some p.2:=by kernel_rfl):HL K c Q n st:=qOV st' h1 h2 h
end Go.SL

namespace Go.SL
open Go.RowKit
end Go.SL

namespace Go.SL
open Go.RowKit
end Go.SL

namespace Go.SL
open Go.RowKit
structure RI (nt:Nat) where
 fn:FuncId
 T:Array Value
 D:Nat
 b:Nat
 hT:T.size=nt
def psOf :Code->Array Tmp
 | .rangeFunc _ ps _ _=>ps
 |_=> #[]
def rc {nt:Nat} (f:Func) (nn:Nat) (ri:RI nt):qF4:=⟨ri.fn,ri.T,psOf (nd f nn),nd f (2*nn),nd f (2*nn+1),ri.D⟩
end Go.SL

namespace Go.SL
end Go.SL

namespace Go.SL
open Go.RowKit
def qDS (f:Int->Option ByteArray):List Int->ByteArray->Option ByteArray
 |[],s=>some s
 |n::r,s=>(f n).bind λt=>bif decide (s.size+t.size<=140737488355328) then qDS f r (s++t) else none
def intsM (u f:Int->Option ByteArray) (l:List Int):Option ByteArray:=
 (u (IntKind.u64.wrap ((l.length:Nat):Int))).bind λh=>bif decide (h.size<=140737488355328) then qDS f l h else none
theorem u8all (l:List Int) (n:Nat):∀j,j<n->∃z,rf e_u8 l j=[C.val (.int .u8 z)]:=λ_ _=>⟨_,rfl⟩
theorem qKs {P:Program} {gl:List (Nat×C)} {f:FuncId} {n:Nat} {g:Nat->List C} {r:Value} (hd:drOf gl=false) (hr:r.oneCell'=true)
  (h:∀(w:World) (A:Nat->Prop) (v:Value),zL gl w A->IRep w A (.lst n g) v->Calls P f #[v] w λe w'=>e= .returned r/\Below w.heap.size w w'):
  CtX P gl f 0 0 [.one (.lst n g)] [] (.v (.one (.val r))) []:=by
 intro w M vs hg hin ha;obtain⟨hsz,hargs⟩:=ha;have a0:=hargs 0 (by simp);have hv:vs= #[vs.getD 0 undef]:=by
  apply Array.ext
  ·simpa using hsz
  ·intro i h1 h2;have:i=0:=by simp at h2;omega
   subst this;rw[kp,kw h1];rfl
 rw[hv];have hir:IRep w M.A (.lst n g) (vs.getD 0 undef):=(show IRep w M.imm (.lst n g) (vs.getD 0 undef) from a0).move (λ_ _ _=>rfl) λb hb _=>hb.1;have hno:∀i,M.ver i=none:=λi=>by
  cases hi:M.ver i with
  |none=>rfl
  |some k=>
   have:=hin.only i (by rw[hi];simp);cases this
 refine(h w M.A _ hg hir).mono ?_;rintro e w' ⟨rfl,hb⟩;refine⟨r,{M with A:=λb=>M.A b\/w.heap.size<=b},rfl,⟨hb.os,hb.tape,hb.output,hb.size,λb hlt _=>hb.block b hlt,λh=>by rw[hd] at h;cases h⟩,λb arr e hh=>⟨arr,?_,rfl⟩,?_⟩
 ·rw[hb.block b (kE.1 hh).1];exact hh
 ·refine⟨λi hi=>absurd (hno i) hi,hin.inj,λi k b hv=>?_,λi k k' _ _ _=>rfl,λb=>Iff.rfl,.val _ hr,λi k o ho=>by cases ho⟩;have:M.ver i=some k:=hv;rw[hno i] at this;cases this
theorem qIP {P:Program} {gl:List (Nat×C)} {f:FuncId} {r:Value} (hd:drOf gl=false) (hr:r.oneCell'=true)
  (h:∀(w:World) (A:Nat->Prop),zL gl w A->Calls P f #[] w λe w'=>e= .returned r/\Below w.heap.size w w'):CtX P gl f 0 0 [] [] (.v (.one (.val r))) []:=by
 intro w M vs hg hin ha;have hv:vs= #[]:=Array.eq_empty_of_size_eq_zero ha.1;subst hv;have hno:∀i,M.ver i=none:=λi=>by
  cases hi:M.ver i with
  |none=>rfl
  |some k=>
   have:=hin.only i (by rw[hi];simp);cases this
 refine(h w M.A hg).mono ?_;rintro e w' ⟨rfl,hb⟩;refine⟨r,{M with A:=λb=>M.A b\/w.heap.size<=b},rfl,⟨hb.os,hb.tape,hb.output,hb.size,λb hlt _=>hb.block b hlt,λh=>by rw[hd] at h;cases h⟩,λb arr e hh=>⟨arr,?_,rfl⟩,?_⟩
 ·rw[hb.block b (kE.1 hh).1];exact hh
 ·refine⟨λi hi=>absurd (hno i) hi,hin.inj,λi k b hv=>?_,λi k k' _ _ _=>rfl,λb=>Iff.rfl,.val _ hr,λi k o ho=>by cases ho⟩;have:M.ver i=some k:=hv;rw[hno i] at this;cases this
theorem CtX.call1 {P:Program} {gl:List (Nat×C)} {f:FuncId} {x r:Value} (h:CtX P gl f 0 0 [.one (.val x)] [] (.v (.one (.val r))) []) (hx:x.oneCell'=true) (w:World) (A:Nat->Prop) (hg:zL gl w A):
  Calls P f #[x] w λe w'=>e= .returned r/\Below w.heap.size w w':=
 (h w (Mem.of A) #[x] hg ⟨λi j k l b hi=>(by cases hi),λi k b hi=>(by cases hi),λi hi=>absurd rfl hi,λi k o ho=>(by cases ho)⟩ ⟨rfl,λj hj=>by
  have:j=0:=by simp at hj;omega
  subst this;exact .val x hx⟩).mono λe w' ⟨v,M',he,hb,_,hr⟩=>⟨by rw[he];exact congrArg _ (IRep.val_eq hr.val),hb.below λb ⟨i,k,hv,_⟩=>(by cases hv)⟩
theorem zL.later {gl:List (Nat×C)} {w w':World} {A:Nat->Prop} (h:zL gl w A) (hb:Below w.heap.size w w'):zL gl w' A:=λg c hg=>(h g c hg).move (λb _ hlt=>hb.block b hlt) λ_ hb _=>hb
end Go.SL

namespace Go.SL
open Go.RowKit
def HW (K:Ctx) (st:St) (c:Code) (R:Exit->Act->World->Prop):Prop:=∀M a w,Sim1 K M st a w->c.wpIn K.F 0 K.P R a w
theorem HW_H {K:Ctx} {st:St} {c:Code} {Q:Exit->St->Prop} {R:Exit->Act->World->Prop} (h:H K st c Q) (hr:∀e a w M st',Q e st'->Sim1 K M st' a w->R e a w):HW K st c R:=
 λM a w hs=>wpIn_mono (h M a w hs) λe a w ⟨M',st',hq,hs'⟩=>hr e a w M' st' hq hs'
theorem HW_seq {K:Ctx} {st:St} {x y:Code} {R:Exit->Act->World->Prop} (h:H K st x (λe st'=>e= .normal/\HW K st' y R)):HW K st (.seq x y) R:=by
 intro M a w hs;refine wpIn_seq (wpIn_mono (h M a w hs) ?_);rintro e a' w' ⟨M',st',⟨rfl,hq⟩,hs'⟩;exact hq M' a' w' hs'
theorem HW_sq {K:Ctx} {st:St} {x y:Code} {R R':Exit->Act->World->Prop} (h:HW K st x R') (hn:∀e a w,R' e a w->e= .normal/\y.wpIn K.F 0 K.P R a w):HW K st (.seq x y) R:=by
 intro M a w hs;refine wpIn_seq (wpIn_mono (h M a w hs) ?_);intro e a' w' hr;obtain⟨rfl,hy⟩:=hn e a' w' hr;exact hy
theorem qJ4 {K:Ctx} {st:St} {id:Nat} {c:Code} {R R':Exit->Act->World->Prop} (h:HW K st c R') (hr:∀e a w,R' e a w->Exit.inBlock id R e a w):HW K st (.block id c) R:=λM a w hs=>wpIn_block (wpIn_mono (h M a w hs) hr)
def HR (K:Ctx) (st:St) (c:Code) (R:Exit->Act->World->Prop) (n:Nat):Prop:=∀M a w,Sim1 K M st a w->Code.roundsIn K.F 0 K.P c R n a w
theorem HW_loop {K:Ctx} {st:St} {c:Code} {R:Exit->Act->World->Prop} (n:Nat) (h:HR K st c R n):HW K st (.loop c) R:=λM a w hs=>wpIn_loop_rounds n (h M a w hs)
theorem qHa {K:Ctx} {st:St} {c:Code} {R R':Exit->Act->World->Prop} {n:Nat} (h:HW K st c R') (hn:∀a w,R' .normal a w->Code.roundsIn K.F 0 K.P c R n a w) (he:∀e a w,e≠ .normal->R' e a w->R e a w):HR K st c R (n+1):=by
 intro M a w hs;rw[roundsIn_succ];refine wpIn_mono (h M a w hs) ?_;intro e a' w' hr;cases e with
 |normal=>exact hn a' w' hr
 |_=>exact he _ a' w' (by simp) hr
end Go.SL

namespace Go.SL
open Go.RowKit Go.ChangeShapes Go.WideShapes
def SJ (P:Program):List Field->Nat
 |[]=>0
 |f::r=>P.cellsOf f.type+SJ P r
structure qF3 (P:Program) (fs:List Field) (off:Nat) {T:Type} (e:T->List C) (wf:T->Prop) (D:∀H:Type,List (DataW H)->T->Prop):Prop where
 sz:∀r,(e r).length=SJ P fs
 rd:∀(H:Type) (enc:TypeId×Value->H) (w:World) (held:Bool) (fuel:Nat) (cs:List Value) (xs:List (DataW H×List MemPlace)),xs.length=fs.length->(∀(i:Nat) (f:Field),fs[i]? =some f->DataW.trod enc P w 0 (λ_=>true) held fuel f.type ((cs.drop f.offset).take (P.cellsOf f.type))=xs[i]?)->
  ∃r,wf r/\Rc w (e r) ((cs.drop off).take (SJ P fs))/\D H (xs.map (·.1)) r
def BU (H:Type) (ds:List (DataW H)) (_:Unit):Prop:=ds=[]
def yM {T0 T1:Type} (D0:∀H:Type,DataW H->T0->Prop) (D1:∀H:Type,List (DataW H)->T1->Prop) (H:Type) (ds:List (DataW H)) (r:T0×T1):Prop:=∃d rest,ds=d::rest/\D0 H d r.1/\D1 H rest r.2
def CY {T:Type} (D:∀H:Type,List (DataW H)->T->Prop) (H:Type) (d:DataW H) (r:T):Prop:=∃ds,d= .agg ds/\D H ds r
def qAp {T S:Type} (g:T->S) (D:∀H:Type,DataW H->T->Prop) (H:Type) (d:DataW H) (s:S):Prop:=∃r,g r=s/\D H d r
theorem OF {P:Program} (off:Nat):qF3 P [] off (λ_:Unit=>[]) (λ_=>True) BU:=
 ⟨λ_=>rfl,λH enc w held fuel cs xs hl _=>⟨(),trivial,⟨by simp[SJ],λj hj=>by simp at hj⟩,by rw[BU];simpa using hl⟩⟩
theorem QI {P:Program} {f:Field} {fs:List Field} {off off':Nat} {T0 T1:Type} {e0:T0->List C} {e1:T1->List C} {wf0:T0->Prop} {wf1:T1->Prop} {D0:∀H:Type,DataW H->T0->Prop} {D1:∀H:Type,List (DataW H)->T1->Prop}
  (h0:jT P f.type e0 wf0 D0) (h1:qF3 P fs off' e1 wf1 D1) (ho:f.offset=off) (ho':off+P.cellsOf f.type=off'):qF3 P (f::fs) off (λr:T0×T1=>e0 r.1++e1 r.2) (λr=>wf0 r.1/\wf1 r.2) (yM D0 D1):=by
 refine⟨λr=>by rw[ul,h0.sz,h1.sz];rfl,λH enc w held fuel cs xs hl hf=>?_⟩
 match xs,hl with
 |x::xs,hl=>
  have k0:=hf 0 f rfl;rw[List.getElem?_cons_zero] at k0;obtain⟨r0,w0,c0,d0⟩:=h0.rd _ _ _ _ _ _ _ k0;obtain⟨r1,w1,c1,d1⟩:=h1.rd H enc w held fuel cs xs (by simpa using hl) (λi f' hi=>by
   have:=hf (i+1) f' (by simpa using hi);simpa using this)
  refine⟨(r0,r1),⟨w0,w1⟩,?_,⟨x.1,xs.map (·.1),rfl,d0,d1⟩⟩;have:=c0.append c1;rw[ho] at this;have e:(cs.drop off).take (P.cellsOf f.type)++(cs.drop off').take (SJ P fs)=(cs.drop off).take (SJ P (f::fs)):=by
   rw[<-ho',<-List.drop_drop,SJ,List.take_add]
  rwa [e] at this
theorem WF {P:Program} {t:TypeId} {fs:Array Field} {T:Type} {e:T->List C} {wf:T->Prop} {D:∀H:Type,List (DataW H)->T->Prop} (ht:P.underlying t=some (.struct fs)) (h:qF3 P fs.toList 0 e wf D) (hs:P.cellsOf t=SJ P fs.toList):jT P t e wf (CY D):=by
 refine⟨λr=>by rw[h.sz,hs],λH enc w held fuel cs x hx=>?_⟩;obtain⟨xs,n,_,rfl,hl,hlen,hf⟩:=DataW.trod_struct ht hx;obtain⟨r,h1,h2,h3⟩:=h.rd H enc w held n cs xs (by simpa using hlen) (λi f hi=>hf i f (by simpa using hi));refine⟨r,h1,?_,⟨_,rfl,h3⟩⟩;rw[uK,uV (by omega)] at h2;exact h2
theorem XY {P:Program} {t:TypeId} {T S:Type} {e:T->List C} {wf:T->Prop} {D:∀H:Type,DataW H->T->Prop} (h:jT P t e wf D) (g:T->S) {e':S->List C} {wf':S->Prop} (he:∀r,e' (g r)=e r) (hsz:∀s,(e' s).length=P.cellsOf t) (hw:∀r,wf r->wf' (g r)):jT P t e' wf' (qAp g D):=
 qNL h g he hsz hw (λ_ _ r hd=>⟨r,rfl,hd⟩)
end Go.SL

namespace Go.SL
end Go.SL

namespace Go.SL
open Go.RowKit Go.Proofs Go.Shelf Go.Sort Go.Lib
theorem qI2 {B:Nat->Prop} {W W':World} (h:XG true B W W') (hB:∀b,¬B b):∃q os',W'=grow (W.drewN q) os':=by
 obtain⟨h1,h2,h3,h4,h5,h6⟩:=h;refine⟨W'.drawn-W.drawn,W'.heap.extract W.heap.size W'.heap.size,?_⟩;have hh:W'.heap=W.heap++W'.heap.extract W.heap.size W'.heap.size:=by
  apply Array.ext_getElem?;intro i;by_cases hi:i<W.heap.size
  ·rw[uY hi];exact h5 i hi (hB i)
  ·rw[Array.getElem?_append_right (by omega),Array.getElem?_extract];split
   ·congr 1;omega
   ·exact Array.getElem?_eq_none (by omega)
 have h6:=h6 rfl;have hd:W'.drawn=W.drawn+(W'.drawn-W.drawn):=by omega
 unfold grow World.drewN;cases W;cases W';simp only at*;subst h1 h2 h3;rw[<-hh,<-hd]
section
variable {α :Type} [Inhabited α] (encV:α->List Value) (k:Nat) (w:World) (blk m:Nat) (dk:Array α) (os:Array Obj)
theorem qBH {c:Nat} (hc:c<w.heap.size) (hne:c≠blk):(sortWorldK encV k w blk 0 m dk os).heap[c]? =w.heap[c]? :=by
 unfold sortWorldK grow putRowK putRow mapBlock Sort.ahead;rw[uY (by simpa using hc),gF,if_neg (Ne.symm hne)]
theorem qFR {arr:Array Value} {e:TypeId} (hh:w.heap[blk]? =some (.cells arr e (0,0))):(sortWorldK encV k w blk 0 m dk os).heap[blk]? =some (.cells (putCells id 0 (flatK encV k dk) arr) e (0,0)):=by
 have hb:blk<w.heap.size:=(kE.1 hh).1;unfold sortWorldK grow putRowK putRow mapBlock Sort.ahead;rw[uY (by simpa using hb),gF,if_pos rfl];show(w.heap[blk]?).map _=_;rw[hh];rfl
theorem qMk :w.heap.size<=(sortWorldK encV k w blk 0 m dk os).heap.size:=by
 unfold sortWorldK;rw[size_grow,size_putRowK];exact Nat.le_add_right _ _
theorem sw_get {arr:Array Value} {n i j:Nat} (hd:dk.size=n) (hn:n*k<=arr.size) (hi:i<n) (hj:j<k) (hk:∀x,(encV x).length=k):(putCells id 0 (flatK encV k dk) arr).getD (i*k+j) undef=(encV dk[i]!)[j]! :=by
 have lt:i*k+j<n*k:=by
  have:=kM k (show i+1<=n from hi);rw[kW,gj] at this;omega
 have e1:(i*k+j)/k=i:=(blk_iff k i _ (by omega)).1 ⟨by omega,by omega⟩;have e2:(i*k+j) % k=j:=by rw[Nat.mod_eq_sub_div_mul,e1];omega
 have hsz:(flatK encV k dk).size=n*k:=by rw[size_flatK,hd]
 have hl:i*k+j<arr.size:=by omega
 unfold putCells;rw[kp,Array.getElem?_mapIdx,kw hl];simp only[kS,kF];rw[if_pos ⟨kY _,by rw[hsz];omega⟩,gE];show(flatK encV k dk)[i*k+j]! =_;rw[get_flatK _ _ _ _ (by rw[hd];exact lt),e1,e2]
end
theorem qHQ {α:Type} (a:Array α) {i:Nat} (h:i<a.size) (d:α):a.getD i d=a[i]:=by rw[kp,kw h];rfl
theorem fn0 {w:World} {M:Mem} {g:Nat} {v:Value} (h:CRep w M (.fn g []) v):v= .func (.func g) #[] #[]:=by
 obtain⟨vs,hv,hs,_⟩:=h;have:vs= #[]:=Array.eq_empty_of_size_eq_zero hs;subst this;exact hv
theorem qOA {P:Program} {ρ:Ren} {α:Type} [Inhabited α] {gl:List (Nat×C)} (L:SlLaysF0.n6 P ρ) (k:Nat) (aE:∀w,(isAgg (ρ.t 24)).run P w= .ok true w) (zE:∀w,(Go.sizeOf (ρ.t 24)).run P w= .ok k w)
  (encV:α->List Value) (hk:∀x,(encV x).length=k) (h1:∀x,∀v∈encV x,v.oneCell'=true) (cmp:α->α->Option Int) (cf:α->α->Int) (hcf:∀x y,cmp x y=some (cf x y)) (hO:SWO (ltOf cf)) (hA:∀x y,ltOf cf x y=false->ltOf cf y x=false->x=y)
  (g eid:Nat) (eg:∀args w,(callFunc g args).run P w= .ok (.enter g args) w)
  (hg:∀x y,CtX P (markG::gl) g 0 0 [.agg ((encV x).map .val),.agg ((encV y).map .val)] [] (.v (.one (.val (.int .i64 (cf x y))))) [])
  (l:List α) (h0:0<l.length) (hlt:l.length<4611686018427387904):
  CtX P gl (ρ.f 6) 1 1 [.one (.own 0 0 k l.length),.one (.fn g [])] [(0,(0,.row eid k l.length (rowf (λx=>(encV x).map .val) dd l)))] .undef [(0,(0,.row eid k (PE cmp l).length (rowf (λx=>(encV x).map .val) dd (PE cmp l))))]:=by
 intro w M vs hgl hin ha;obtain⟨hsz,hargs⟩:=ha;have hr:=hin.objs 0 0 _ rfl;have a0:=hargs 0 (by simp);have a1:=hargs 1 (by simp);have e1:vs.getD 1 undef= .func (.func g) #[] #[]:=fn0 a1;rcases a0 with⟨hl0,_⟩|⟨b,cap,e0,hlc,hcm,hb⟩
 ·omega
 obtain⟨hbl,arr,et,hh,has⟩:=hb hr.ver;obtain⟨hver,hrow⟩:=hr;rcases hrow with⟨hn,_⟩|⟨b',arr',hb',hh',hns,hcr⟩
 ·rw[hbl] at hn;cases hn
 have:b'=b:=kP (hb'.symm.trans hbl);subst this;rw[hh] at hh';cases hh';have hvs:vs= #[.slice (some ⟨b',0,none⟩) l.toArray.size cap,.func (.func g) #[] #[]]:=by
  apply Array.ext
  ·simpa using hsz
  ·intro i hi1 hi2;have hi:i<2:=by simpa using hi2
   have:i=0\/i=1:=by omega
   rcases this with rfl|rfl
   ·rw[<-qHQ _ hi1 undef,e0];rfl
   ·rw[<-qHQ _ hi1 undef,e1];rfl
 have hblt:b'<w.heap.size:=(kE.1 hh).1;have hnA:¬M.A b':=(hin.rng 0 0 b' hver hbl).2.2;have hcell:∀i j,i<l.length->j<k->arr.getD (i*k+j) undef=(encV (l.getD i dd)).getD j undef:=by
  intro i j hi hj;have:=(hcr i hi).2 j hj;unfold rowf at this;have hj':j<(encV (l.getD i dd)).length:=by rw[hk];exact hj
  simp only[ka,kJ] at this hj'⊢;rw[kq hj'] at this⊢;simp only[kS,kF] at this⊢;exact this.val_eq
 have hH:HoldsK encV k w b' 0 l.toArray:=by
  intro t ht;rw[size_flatK,List.size_toArray] at ht;have k0:0<k:=by
   rcases gV k with h|h
   ·subst h;simp at ht
   ·exact h
  have hi:t/k<l.length:=gK (by rw[gp];exact ht);have hm:=kH t k0;have htk:t/k*k+t % k=t:=by rw[gp];exact Nat.div_add_mod t k
  have hc:=hcell (t/k) (t % k) hi hm;rw[htk] at hc;have htlt:t<arr.size:=by omega
  refine⟨?_,?_⟩
  ·rw[get_flatK _ _ _ _ (by simpa using ht)];rw[show(0+t)=t by omega];have:w.cell? ⟨b',t,none⟩=arr[t]? :=by unfold World.cell?;rw[hh];rfl
   rw[this,kw htlt];rw[qHQ _ htlt] at hc;rw[hc]
   congr 1
   have hj':t % k<(encV (l.getD (t/k) dd)).length:=by rw[hk];exact hm
   have hge:l.toArray[t/k]! =l.getD (t/k) dd:=by
    rw[ka,kq hi,getElem!_pos _ _ (by simpa using hi)];rfl
   show _=(encV l.toArray[t/k]!)[t % k]!;rw[hge,getElem!_pos (encV (l.getD (t/k) dd)) _ hj',ka,kq hj'];rfl
  ·unfold World.frozen?;rw[hh];simp
 have hcmp:CmpLays P g #[] encV k cf b' 0 l.toArray.size w:=by
  intro m os dk hds x y;have hbase:=hg x y (sortWorldK encV k w b' 0 m dk os) (Mem.of M.A) #[.agg (encV x).toArray,.agg (encV y).toArray] ?_ ?_ ?_
  ·refine hbase.mono ?_;rintro e w' ⟨v,M',he,hbel,_,hret⟩;have hv:=hret.val;refine⟨?_,qI2 hbel ?_⟩
   ·rw[he];exact congrArg _ (IRep.val_eq hv)
   ·rintro b ⟨i,k',hv,_⟩;cases hv
  ·refine zL.mark λq c hq=>?_;refine(hgl q c hq).move (λc' hA' hc'=>?_) (λ_ h _=>h);exact qBH encV k w b' m dk os hc' (λh=>hnA (h▸hA'))
  ·exact⟨λi j k l b h=>(by cases h),λi k b h=>(by cases h),λi h=>absurd rfl h,λi k o h=>(by cases h)⟩
  ·have one:∀z:α,qP (sortWorldK encV k w b' 0 m dk os) (Mem.of M.A) (.agg ((encV z).map .val)) (.agg (encV z).toArray):=by
    intro z;refine⟨_,rfl,⟨by simp,λj hj=>?_⟩⟩;have hj':j<(encV z).length:=by simpa using hj
    simp only[ka,kJ,kq hj',kS,kF,kp,gC];exact .val _ (h1 z _ (uQ hj'))
   refine⟨rfl,λj hj=>?_⟩;have hj2:j<2:=hj;have:j=0\/j=1:=by omega
   rcases this with rfl|rfl
   ·exact one x
   ·exact one y
 have key:=AnyQ.slices_SortFunc L k aE zE encV hk h1 cf hO g #[] b' 0 cap l.toArray w eg hcmp hH hblt (by simpa using hlt);rw[hvs];refine key.mono ?_;rintro e w' ⟨he,d',n,os,hperm,hsorted,rfl⟩;have hu:d'.toList=PE cmp l:=by
  have hsz':d'.size=l.toArray.size:=hperm.1;have e1:d'.extract 0 l.toArray.size=d':=by rw[<-hsz'];exact Array.extract_size
  have hpm:=hperm.2.2;rw[e1,Array.extract_size] at hpm;have hle:(λx y=>!decide ((cmp y x).getD 0<0))=λx y=>!ltOf cf y x:=by
   funext x y;simp only[hcf,kF,ltOf]
  unfold PE;rw[hle];refine List.Perm.eq_of_pairwise (le:=λx y=>(!ltOf cf y x)=true) ?_ ?_ ?_ (hpm.trans (NK _ l).symm)
  ·intro a b _ _ h1 h2;simp only[uw] at h1 h2;exact hA a b h2 h1
  ·rw[uO];intro i j hi hj hij;have hi':i<d'.size:=by simpa using hi
   have hj':j<d'.size:=by simpa using hj
   have:=hsorted i j (kY _) hij (by omega);rw[getElem!_pos d' j hj',getElem!_pos d' i hi'] at this;simpa using this
  ·refine zbQ ?_ ?_ l
   ·intro a b c h1 h2;simp only[uw] at h1 h2⊢;exact hO.ntrans c b a h2 h1
   ·intro a b;cases h:ltOf cf b a with
    |false=>simp
    |true=>
     right;cases h':ltOf cf a b with
     |false=>rfl
     |true=>have:=hO.trans a b a h' h;rw[hO.irrefl] at this;cases this
 have hds:d'.size=l.length:=by have:=hperm.1;simpa using this
 have hlen:(PE cmp l).length=l.length:=by rw[<-hu];simpa using hds
 refine⟨undef,{M with A:=λb=>M.A b\/w.heap.size<=b},he,⟨rfl,rfl,rfl,qMk _ _ _ _ _ _ _,λc hc hno=>qBH _ _ _ _ _ _ _ hc λh=>hno ⟨0,0,hver,by rw[h];exact hbl⟩,λ_=>Nat.le_add_right _ _⟩,?_,?_⟩
 ·intro c arr' e' hc;by_cases hcb:c=b'
  ·subst hcb;rw[hh] at hc;cases hc;exact⟨_,qFR _ _ _ _ _ _ _ hh,by simp[putCells]⟩
  ·exact⟨arr',by rw[qBH _ _ _ _ _ _ _ (kE.1 hc).1 hcb];exact hc,rfl⟩
 ·refine⟨λi hi=>?_,hin.inj,λi k' b hv hb=>?_,λi k' k'' _ _ _=>rfl,λb=>Iff.rfl,rfl,λi k' o ho=>?_⟩
  ·have:=hin.only i hi;unfold hits at this⊢;rw[look_cons] at this⊢;split at this
   ·rename_i h;rw[if_pos h];rfl
   ·cases this
  ·exact⟨.inr ⟨⟨k',hv⟩,hb⟩,kL (hin.rng i k' b hv hb).2.1 (qMk _ _ _ _ _ _ _)⟩
  ·rw[look_cons] at ho;split at ho
   ·rename_i h;subst h;cases ho;refine⟨hver,.inr ⟨b',_,hbl,qFR _ _ _ _ _ _ _ hh,?_,λi hi=>⟨?_,λj hj=>?_⟩⟩⟩
    ·rw[hlen];simpa[putCells] using hns
    ·unfold rowf;simp[hk]
    ·rw[hlen] at hi;rw[sw_get encV k d' hds hns hi hj hk];have hge:d'[i]! =(PE cmp l).getD i dd:=by
      rw[<-hu,ka,gr,getElem!_pos _ _ (by omega),kw (by omega)];rfl
     rw[hge];unfold rowf;have hj':j<(encV ((PE cmp l).getD i dd)).length:=by rw[hk];exact hj
     rw[getElem!_pos (encV ((PE cmp l).getD i dd)) _ hj'];generalize (PE cmp l).getD i dd=z at hj'⊢;simp only[ka,kJ,kq hj',kS,kF];exact .val _ (h1 z _ (uQ hj'))
   ·cases ho
end Go.SL

/- Results that are not turned any more; 's == nil'; short names. -/
import Derived.Test.YtigmogcdifllhaaGreatDoorYa5
set_option linter.unusedVariables false
set_option linter.unusedSimpArgs false
namespace Go.SL
open Go.RowKit
def qJk (id:Nat) (x:V) (ob:List (Nat×(Nat×O))):Option (V×List (Nat×(Nat×O))×Option Prop):=
 match look id ob with
 |some (k,.row _ sz n f)=>bif Nat.blt 0 sz then some ((phV (frzC id k sz n f) x).1,(phB (frzC id k sz n f) id ob).1,an (phV (frzC id k sz n f) x).2 (phB (frzC id k sz n f) id ob).2) else none
 |_=>none
theorem CtX.frz {P:Program} {gl:List (Nat×C)} {f n m:Nat} {xs:List V1} {oi:List (Nat×(Nat×O))} {x x':V} {ob ob':List (Nat×(Nat×O))} (h:CtX P gl f n m xs oi x ob) (id:Nat) {q:Option Prop} (hq:oP q) (hf:(Nat.ble n id&&Nat.ble m id,qJk id x ob)=(true,some (x',ob',q))):CtX P gl f n m xs oi x' ob':=by
 simp only[Prod.mk.injEq,kv,Nat.ble_eq] at hf;obtain⟨⟨hn,hm⟩,hf⟩:=hf;intro w M vs hg hin ha;refine(h w M vs hg hin ha).mono ?_;rintro e w' ⟨v,R,he,hb,hsh,hr⟩;unfold qJk at hf;split at hf
 ·rename_i k e' sz nn ff hl;cases hp:Nat.blt 0 sz with
  |false=>rw[hp] at hf;cases hf
  |true=>
   rw[hp] at hf;cases hf;obtain⟨q1,q2⟩:=ZJ hq;have hpos:0<sz:=by simpa[uf] using hp
   have hor:=hr.objs id k _ hl;have hver:=hor.ver;have hown:∀b,R.blk id=some b->(R.drop id).imm b:=λb hbk=>by
    refine⟨?_,fun⟨i,k',hv,hbi⟩=>?_⟩
    ·refine(hr.area b).2 (.inr ?_);rcases(hr.rng id k b hver hbk).1 with h1|⟨⟨k',h1⟩,h2⟩
     ·exact h1
     ·have:=(hin.rng id k' b h1 h2).1;omega
    ·obtain⟨h1,h2⟩:=jV hv;exact h1 (hr.inj i id k' k b h2 hver hbi hbk)
   have hφ:=qSC hor hpos hown;refine⟨v,R.drop id,he,hb,hsh,⟨λi hi=>?_,λi j k l b hi hj hbi hbj=>hr.inj i j k l b (jV hi).2 (jV hj).2 hbi hbj,λi k b hv hbk=>hr.rng i k b (jV hv).2 hbk,λi k k' him hk hv=>hr.fix i k k' him hk (jV hv).2,hr.area,qTV hφ q1 hr.val,λi k' o ho=>?_⟩⟩
   ·obtain⟨k',hk'⟩:=uK.1 hi;obtain⟨h1,h2⟩:=jV hk';exact phB_hits (hr.only i (by rw[h2];simp)) h1
   ·obtain⟨hne,o',h1,h2,rfl⟩:=qIm q2 ho;have hor':=hr.objs i k' o' h1;have hv:(R.drop id).ver i=some k':=by simp only[Mem.drop,hne,if_false];exact hor'.ver
    cases o' with
    |box e cs=>obtain⟨_,b,arr,e1,e2,e3⟩:=hor';exact⟨hv,b,arr,e1,e2,qH9 hφ h2 e3⟩
    |row e sz n f=>
     refine⟨hv,?_⟩;rcases hor'.2 with h0|⟨b,arr,e1,e2,e3,e4⟩
     ·exact .inl h0
     ·exact .inr ⟨b,arr,e1,e2,e3,λi hi=>⟨(e4 i hi).1,λj hj=>TO ((e4 i hi).2 j hj)⟩⟩
    |lp R b s j=>exact⟨hv,hor'.2.1,hor'.2.2⟩
 ·cases hf
theorem eq_nil {P:Program} {w:World} {t e:TypeId} (ht:P.underlying t=some (.slice e)) (d:Nat) (a:Option Addr) (n c:Nat):(Op.equalIn (d+1) t (.slice a n c) (.slice none 0 0)).run P w= .ok a.isNone w:=by
 cases a<;>simp[Op.equalIn,run_underlying ht]
theorem qUL {P:Program} {w:World} {t e:TypeId} (ht:P.underlying t=some (.slice e)) (a:Option Addr) (n c:Nat) (x y:Operand):
  (do eqGuard .eql t x y (.slice a n c) (.slice none 0 0);binOp .eql t (.slice a n c) (.slice none 0 0):Sem Value).run P w= .ok (.bool a.isNone) w:=by
 have he:(Op.equal t (.slice a n c) (.slice none 0 0)).run P w= .ok a.isNone w:=eq_nil ht 9999 a n c;have hg:(eqGuard .eql t x y (.slice a n c) (.slice none 0 0)).run P w= .ok () w:=rfl;rw[Sem.run_bind,hg];show((do pure (.bool (<-Op.equal t (.slice a n c) (.slice none 0 0)))):Sem Value).run P w=_;rw[Sem.run_bind,he];rfl
theorem qLR {K:Ctx} {st:St} {Q:Exit->St->Prop} (fn:Func) (nn id c:Nat) (want:St) (t t' e d:Nat) (x:Operand) (n:Nat) (f:Nat->List C) (hc:nd fn nn= .region id (rg fn nn) false)
  (h:(BQ K.nt (rg fn nn),(rg fn nn).size,seen want (runO K (rg fn nn) [] c 0 st 0))=(true,c+1,wish want none))
  (hg:(gd (rg fn nn) want (opAt (rg fn nn) c),(opAt (rg fn nn) c).dst,(opAt (rg fn nn) c).op,op1 K.globs want x,K.P.underlying t)=(some true,some d,.binOp .eql t x (.const (.slice none 0 0)) t',some (.one (.lst n f)),some (.slice e)))
  (hk:∀b:Bool,(b=true->n=0)->Q .normal (want.app (some d) (qQM b) [])):H K st (nd fn nn) Q:=by
 rw[hc];generalize rg fn nn=ops at h hg;simp only[Prod.mk.injEq] at h hg;obtain⟨hok,hsz,hs⟩:=h;obtain⟨st',h1,hsub⟩:=qLh hs;obtain⟨g1,g2,g3,g4,g5⟩:=hg;refine qLM (IN hok h1 trivial (by omega) ?_);intro M a w hsim;have hs1:=hsim.sub hsub;have hi':c<ops.size:=by omega
 have hv:IRep w (M.keep want.objs).imm (.lst n f) (a.eval x):=op1_rep hs1.1 g4;have key:∃b:Bool,(b=true->n=0)/\(execOp a.eval (opAt ops c)).run K.P w= .ok (.value (.bool b)) w:=by
  have hgen:∀u,IRep w (M.keep want.objs).imm (.lst n f) u->∃b:Bool,(b=true->n=0)/\(do eqGuard .eql t x (.const (.slice none 0 0)) u (.slice none 0 0);binOp .eql t u (.slice none 0 0):Sem Value).run K.P w= .ok (.bool b) w:=by
   intro u hu;cases hu with
   |lst0 b=>exact⟨b.isNone,λ_=>rfl,qUL g5 b 0 0 _ _⟩
   |lst b o n cap sz f g hn hm hl hb hc hr=>exact⟨false,λhb=>(by cases hb),qUL g5 (some ⟨b,o,none⟩) n cap _ _⟩
  obtain⟨b,hb,hr⟩:=hgen _ hv;refine⟨b,hb,?_⟩;unfold execOp;rw[g3];exact JT hr
 obtain⟨b,hb,hrun⟩:=key;rw[kz,qGj hi'];simp only[wpOpsIn,PC hi',qHw hs1.1 g1 (qCM hok hi') (GL hok),if_true];refine Oper.wpIn_of_wp (by rw[g3];rfl) ?_;unfold Oper.wp;rw[hrun];have hst:=hs1.step (dst:=(opAt ops c).dst) (nv:=[]) (ob:=[]) (x:=qQM b) (v:= .bool b) (Ext.same hs1.1 rfl rfl rfl rfl) (jL _ rfl) (λi k o h=>by cases h) (λi hi=> .inl hi) rfl (qEB want) rfl (GL hok c);rw[show ops.size-(c+1)=0 by omega];rw[g2] at hst;refine⟨M.keep want.objs,want.app (some d) (qQM b) [],hk b hb,?_⟩;rw[g2];exact hst
theorem RY {a b:Nat} (h:(a==b)=true):a=b:=eq_of_beq h
def qIU (n:Nat):Bool:=Nat.blt 0 n&&Nat.blt n 4611686018427387904
theorem qV9 {n:Nat} (h:qIU n=true):0<n/\n<4611686018427387904:=by simp only[qIU,kv,uf] at h;exact h
def insB {α:Type} (le:α->α->Bool) (x:α):List α->List α
 |[]=>[x]
 |y::r=>bif le x y then x::y::r else y::insB le x r
def WJ {α:Type} (le:α->α->Bool):List α->List α
 |[]=>[]
 |x::r=>insB le x (WJ le r)
def MD {α:Type} (cmp:α->α->Option Int) (l:List α):List α:=WJ (λx y=>!decide ((cmp y x).getD 0<0)) l
theorem insB_perm {α:Type} (le:α->α->Bool) (x:α):∀l,(insB le x l).Perm (x::l)
 |[]=>List.Perm.refl _
 |y::r=>by
  unfold insB;cases le x y with
  |true=>exact List.Perm.refl _
  |false=>exact((insB_perm le x r).cons y).trans (List.Perm.swap x y r)
theorem KN {α:Type} (le:α->α->Bool):∀l,(WJ le l).Perm l
 |[]=>List.Perm.refl _
 |x::r=>(insB_perm le x _).trans ((KN le r).cons x)
theorem qKE {α:Type} {le:α->α->Bool} (ht:∀x y z,le x y=true->le y z=true->le x z=true) (htot:∀x y,le x y=true\/le y x=true) (x:α):∀l,l.Pairwise (λa b=>le a b=true)->(insB le x l).Pairwise (λa b=>le a b=true)
 |[],_=>List.pairwise_singleton _ _
 |y::r,h=>by
  obtain⟨h1,h2⟩:=kK.1 h;unfold insB;cases hxy:le x y with
  |true=>
   refine kK.2 ⟨λz hz=>?_,h⟩;rcases kN.1 hz with rfl|hz
   ·exact hxy
   ·exact ht _ _ _ hxy (h1 z hz)
  |false=>
   refine kK.2 ⟨λz hz=>?_,qKE ht htot x r h2⟩;rcases kN.1 ((insB_perm le x r).mem_iff.1 hz) with rfl|hz
   ·exact(htot z y).resolve_left (by simp[hxy])
   ·exact h1 z hz
theorem EC {α:Type} {le:α->α->Bool} (ht:∀x y z,le x y=true->le y z=true->le x z=true) (htot:∀x y,le x y=true\/le y x=true):∀l,(WJ le l).Pairwise (λa b=>le a b=true)
 |[]=>List.Pairwise.nil
 |x::r=>qKE ht htot x _ (EC ht htot r)
def vi (n:Int):V:= .v (.one (.val (.int .i64 n)))
def vb (b:Bool):V:= .v (.one (.val (.bool b)))
def vp (id j:Nat):V:= .v (.one (.bptr id 0 j))
def vo (id k sz n:Nat):V:= .v (.one (.own id k sz n))
def vc (c:C):V:= .v (.one c)
def va (cs:List C):V:= .v (.agg cs)
def ci (n:Int):C:= .val (.int .i64 n)
def cb (b:Bool):C:= .val (.bool b)
def cs (s:ByteArray):C:= .val (.string s)
def rf {α:Type} [Inhabited α] (e:α->List C) (l:List α):Nat->List C:=rowf e daa l
def bx (e:Nat) (cs:List C):Nat×O:=(0,.box e cs)
def ro (k e sz n:Nat) (f:Nat->List C):Nat×O:=(k,.row e sz n f)
def dfx (b:Bool):Dir:=⟨[],some b,none,none⟩
def drw (id k:Nat) (f:Nat->List C):Dir:=⟨[],none,none,some (id,k,f)⟩
def dex (e:Ent):Dir:=⟨[],none,some e,none⟩
def dpr (p:List Fin) (d:Dir):Dir:={d with pre:=p}
def cen (ren:List (Nat×Nat)) (outs:List Nat) (c m:Nat) (x:V) (ob:List (Nat×(Nat×O))) (rs ro:List Nat):Ent:=⟨true,x.out ⟨ren,outs,c⟩,FM ⟨ren,outs,c⟩ m ob,PU ⟨ren,outs,c⟩ ob,rs,ro⟩
theorem callS {K:Ctx} (st:St) (op:Oper) (ren:List (Nat×Nat)) (outs:List Nat) (c:Nat) {f:FuncId} {m:Nat} {xs' xs:List V1} {p:Option Prop} {b:Bool} {oi:List (Nat×(Nat×O))} {x:V} {ob:List (Nat×(Nat×O))} (hp:oP p) (hxs:xs'=xs) (hct:CtX K.P K.globs f ren.length m xs oi x ob) (hb:b=true\/(x.noLst=true/\SK ob))
  (hin:(BS K.globs st ren op.op,fnOk K.P f,Out.ok ⟨ren,outs,c⟩ m ob&&(x.closed ob&&ob.all (λq=>q.2.2.closed ob)))=(some (f,xs',p,b,oi),true,true)):
  Step K st op (FM ⟨ren,outs,c⟩ m ob) (PU ⟨ren,outs,c⟩ ob) (x.out ⟨ren,outs,c⟩):=by
 simp only[Prod.mk.injEq] at hin;exact qMt hin.1 hp hxs hct hin.2.1 hin.2.2 hb
def cLe :C->C->Prop
 | .emp,.lst n _=>n=0
 |c,d=>c=d
def csLe :List C->List C->Prop
 |[],[]=>True
 |c::r,d::s=>cLe c d/\csLe r s
 |_,_=>False
def v1Le :V1->V1->Prop
 | .one c,.one d=>cLe c d
 | .agg cs,.agg ds=>csLe cs ds
 |_,_=>False
def vsLe :List V1->List V1->Prop
 |[],[]=>True
 |c::r,d::s=>v1Le c d/\vsLe r s
 |_,_=>False
theorem qTP {w:World} {M:Mem} {c d:C} {v:Value} (h:cLe c d) (hr:CRep w M c v):CRep w M d v:=by
 unfold cLe at h;split at h
 ·subst h;cases hr with
  |emp a=>exact IRep.lst0 a _
 ·subst h;exact hr
theorem qQ0 :∀{cs ds:List C},csLe cs ds->cs.length=ds.length
 |[],[],_=>rfl
 |_::r,_::s,h=>by simp[qQ0 h.2]
 |[],_::_,h=>h.elim
 |_::_,[],h=>h.elim
theorem qRZ :∀{cs ds:List C},csLe cs ds->∀j,j<cs.length->cLe (cs.getD j .unk) (ds.getD j .unk)
 |_::r,_::s,h,0,_=>h.1
 |_::r,_::s,h,j+1,hj=>by
  have:=qRZ h.2 j (by simpa using hj);simpa using this
 |[],[],_,j,hj=>by simp at hj
 |[],_::_,h,_,_=>h.elim
 |_::_,[],h,_,_=>h.elim
theorem qYr {w:World} {M:Mem} {c d:V1} {v:Value} (h:v1Le c d) (hr:zC w M c v):zC w M d v:=by
 cases c with
 |one c=>cases d with
  |one d=>exact qTP h hr
  |agg ds=>exact h.elim
 |agg cs=>cases d with
  |one d=>exact h.elim
  |agg ds=>
   obtain⟨vs,hv,hl,hh⟩:=hr;have e:=qQ0 h;exact⟨vs,hv,by omega,λj hj=>qTP (qRZ h j (by omega)) (hh j (by omega))⟩
theorem qTa :∀{cs ds:List V1},vsLe cs ds->cs.length=ds.length
 |[],[],_=>rfl
 |_::r,_::s,h=>by simp[qTa h.2]
 |[],_::_,h=>h.elim
 |_::_,[],h=>h.elim
theorem qSB :∀{cs ds:List V1},vsLe cs ds->∀j,j<cs.length->v1Le (cs.getD j (.one .unk)) (ds.getD j (.one .unk))
 |_::r,_::s,h,0,_=>h.1
 |_::r,_::s,h,j+1,hj=>by
  have:=qSB h.2 j (by simpa using hj);simpa using this
 |[],[],_,j,hj=>by simp at hj
 |[],_::_,h,_,_=>h.elim
 |_::_,[],h,_,_=>h.elim
theorem CtX.emp {P:Program} {gl:List (Nat×C)} {f n m:Nat} {xs' xs:List V1} {oi:List (Nat×(Nat×O))} {x:V} {ob:List (Nat×(Nat×O))} (h:CtX P gl f n m xs oi x ob) (hl:vsLe xs' xs):CtX P gl f n m xs' oi x ob:=by
 intro w M vs hg hin ha;refine h w M vs hg hin ?_;have e:=qTa hl;exact⟨by have:=ha.1;omega,λj hj=>qYr (qSB hl j (by omega)) (ha.2 j (by omega))⟩
def St.up (st:St) (ds:List Nat) (als:List (Nat×V)) (dob:List Nat) (aob:List (Nat×(Nat×O))):St:=
 ⟨als++st.slots.filter (λp=>!(ds.any (Nat.beq p.1))),aob++st.objs.filter (λp=>!(dob.any (Nat.beq p.1)))⟩
def qQU :Code->Nat
 | .region id _ _=>id
 |_=>0
structure Ev (K:Ctx) (ops:Array Oper) where
 i:Nat
 d:Dir
 p:Option Prop
 h:oP p
def Ev.ds {K:Ctx} {ops:Array Oper}:List (Ev K ops)->List (Nat×Dir)
 |[]=>[]
 |e::l=>(e.i,e.d)::Ev.ds l
def Ev.ps {K:Ctx} {ops:Array Oper}:List (Ev K ops)->Option Prop
 |[]=>none
 |e::l=>an e.p (Ev.ps l)
theorem qL1 {p q:Option Prop} (h:oP p) (k:oP q):oP (an p q):=by
 cases p with
 |none=>exact k
 |some p=>cases q with
  |none=>exact h
  |some q=>exact⟨h,k⟩
theorem Ev.oP {K:Ctx} {ops:Array Oper}:∀l:List (Ev K ops),oP (Ev.ps l)
 |[]=>trivial
 |e::l=>qL1 e.h (Ev.oP l)
def qc {K:Ctx} {ops:Array Oper} (i:Nat) (rs:List Nat) (c:Nat) {f:FuncId} {m:Nat} {xs:List V1} {x:V} {ob:List (Nat×(Nat×O))} (hct:CtX K.P K.globs f 0 m xs [] x ob)
  (hin:(BS K.globs ⟨rs.zip (xs.map V.v),[]⟩ [] (opAt ops i).op,fnOk K.P f,Out.ok ⟨[],[],c⟩ m ob&&(x.closed ob&&ob.all (λq=>q.2.2.closed ob)))=(some (f,xs,none,true,[]),true,true):=by kernel_rfl):Ev K ops:=
 ⟨i,dex (cen [] [] c m x ob rs []),some (Step K ⟨rs.zip (xs.map V.v),[]⟩ (opAt ops i) (FM ⟨[],[],c⟩ m ob) (PU ⟨[],[],c⟩ ob) (x.out ⟨[],[],c⟩)),callS _ _ [] [] c o0 rfl hct (.inl rfl) hin⟩
def qd {K:Ctx} {ops:Array Oper} (i:Nat) (d:Dir) {p:Prop} (h:p):Ev K ops:=⟨i,d,some p,h⟩
def dN :Dir:=Dir.none
theorem oi {α:Type} {a b:α} (h:some a=some b):a=b:=kQ h
section
variable {K :Ctx} {st:St} {Q:Exit->St->Prop} {fn:Func} {n:Nat}
theorem q_vn (es:List (Ev K (rg fn n))) (nid:Nat) (want:St) (hk:Q .normal want) (hc:nd fn n= .region (qQU (nd fn n)) (rg fn n) false:=by kernel_rfl) (h:seen want (runF K (rg fn n) (Ev.ds es) [] st nid)=wish want (Ev.ps es):=by kernel_rfl):H K st (nd fn n) Q:=R_rn fn n _ (Ev.ds es) [] nid want (Ev.oP es) hc h hk
theorem q_vu (es:List (Ev K (rg fn n))) (nid:Nat) (ds:List Nat) (als:List (Nat×V)) (dob:List Nat) (aob:List (Nat×(Nat×O))) (hk:Q .normal (st.up ds als dob aob)) (hc:nd fn n= .region (qQU (nd fn n)) (rg fn n) false:=by kernel_rfl) (h:seen (st.up ds als dob aob) (runF K (rg fn n) (Ev.ds es) [] st nid)=wish (st.up ds als dob aob) (Ev.ps es):=by kernel_rfl):H K st (nd fn n) Q:=R_rn fn n _ (Ev.ds es) [] nid _ (Ev.oP es) hc h hk
end
structure RI (nt:Nat) where
 fn:FuncId
 T:Array Value
 D:Nat
 b:Nat
 hT:T.size=nt
end Go.SL
namespace Go.SL
open Go.RowKit
theorem GR.later {gl:List (Nat×C)} {w w':World} {A:Nat->Prop} (h:GR gl w A) (hb:Below w.heap.size w w'):GR gl w' A:=λg c hg=>(h g c hg).move (λb _ hlt=>hb.block b hlt) λ_ hb _=>hb
def HW (K:Ctx) (st:St) (c:Code) (R:Exit->Act->World->Prop):Prop:=∀M a w,Sim1 K M st a w->c.wpIn K.F 0 K.P R a w
theorem HW_seq {K:Ctx} {st:St} {x y:Code} {R:Exit->Act->World->Prop} (h:H K st x (λe st'=>e= .normal/\HW K st' y R)):HW K st (.seq x y) R:=by
 intro M a w hs;refine wpIn_seq (wpIn_mono (h M a w hs) ?_);rintro e a' w' ⟨M',st',⟨rfl,hq⟩,hs'⟩;exact hq M' a' w' hs'
end Go.SL
namespace Go.SL
open Go.RowKit Go.ChangeShapes Go.WideShapes
end Go.SL
namespace Go.SL
open Go.RowKit
end Go.SL

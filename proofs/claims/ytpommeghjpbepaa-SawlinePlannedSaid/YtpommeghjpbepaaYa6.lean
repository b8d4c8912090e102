/- Results that are not turned any more; 's == nil'; short names. -/
import Derived.Test.YtpommeghjpbepaaYa5
import Derived.ChangeArms
set_option linter.unusedVariables false
set_option linter.unusedSimpArgs false
namespace Go.SL
open Go.RowKit
def qM7 (id:Nat) (x:V) (ob:List (Nat×(Nat×O))):Option (V×List (Nat×(Nat×O))×Option Prop):=
 match look id ob with
 |some (k,.row _ sz n f)=>bif Nat.blt 0 sz then some ((phV (frzC id k sz n f) x).1,(phB (frzC id k sz n f) id ob).1,an (phV (frzC id k sz n f) x).2 (phB (frzC id k sz n f) id ob).2) else none
 |_=>none
theorem CtX.frz {P:Program} {gl:List (Nat×C)} {f n m:Nat} {xs:List V1} {oi:List (Nat×(Nat×O))} {x x':V} {ob ob':List (Nat×(Nat×O))} (h:CtX P gl f n m xs oi x ob) (id:Nat) {q:Option Prop} (hq:oP q) (hf:(Nat.ble n id&&Nat.ble m id,qM7 id x ob)=(true,some (x',ob',q))):CtX P gl f n m xs oi x' ob':=by
 simp only[Prod.mk.injEq,ko,Nat.ble_eq] at hf;obtain⟨⟨hn,hm⟩,hf⟩:=hf;intro w M vs hg hin ha;refine(h w M vs hg hin ha).mono ?_;rintro e w' ⟨v,R,he,hb,hsh,hr⟩;unfold qM7 at hf;split at hf
 ·rename_i k e' sz nn ff hl;cases hp:Nat.blt 0 sz with
  |false=>rw[hp] at hf;cases hf
  |true=>
   rw[hp] at hf;cases hf;obtain⟨q1,q2⟩:=WP hq;have hpos:0<sz:=by simpa[kK] using hp
   have hor:=hr.objs id k _ hl;have hver:=hor.ver;have hown:∀b,R.blk id=some b->(R.drop id).imm b:=λb hbk=>by
    refine⟨?_,fun⟨i,k',hv,hbi⟩=>?_⟩
    ·refine(hr.area b).2 (.inr ?_);rcases(hr.rng id k b hver hbk).1 with h1|⟨⟨k',h1⟩,h2⟩
     ·exact h1
     ·have:=(hin.rng id k' b h1 h2).1;omega
    ·obtain⟨h1,h2⟩:=jR hv;exact h1 (hr.inj i id k' k b h2 hver hbi hbk)
   have hφ:=qKc hor hpos hown;refine⟨v,R.drop id,he,hb,hsh,⟨λi hi=>?_,λi j k l b hi hj hbi hbj=>hr.inj i j k l b (jR hi).2 (jR hj).2 hbi hbj,λi k b hv hbk=>hr.rng i k b (jR hv).2 hbk,λi k k' him hk hv=>hr.fix i k k' him hk (jR hv).2,hr.area,qLq hφ q1 hr.val,λi k' o ho=>?_⟩⟩
   ·obtain⟨k',hk'⟩:=kR.1 hi;obtain⟨h1,h2⟩:=jR hk';exact phB_hits (hr.only i (by rw[h2];simp)) h1
   ·obtain⟨hne,o',h1,h2,rfl⟩:=qCq q2 ho;have hor':=hr.objs i k' o' h1;have hv:(R.drop id).ver i=some k':=by simp only[Mem.drop,hne,if_false];exact hor'.ver
    cases o' with
    |box e cs=>obtain⟨_,b,arr,e1,e2,e3⟩:=hor';exact⟨hv,b,arr,e1,e2,qCx hφ h2 e3⟩
    |row e sz n f=>
     refine⟨hv,?_⟩;rcases hor'.2 with h0|⟨b,arr,e1,e2,e3,e4⟩
     ·exact .inl h0
     ·exact .inr ⟨b,arr,e1,e2,e3,λi hi=>⟨(e4 i hi).1,λj hj=>KA ((e4 i hi).2 j hj)⟩⟩
    |lp R b s j=>exact⟨hv,hor'.2.1,hor'.2.2⟩
 ·cases hf
theorem eq_nil {P:Program} {w:World} {t e:TypeId} (ht:P.underlying t=some (.slice e)) (d:Nat) (a:Option Addr) (n c:Nat):(Op.equalIn (d+1) t (.slice a n c) (.slice none 0 0)).run P w= .ok a.isNone w:=by
 cases a<;>simp[Op.equalIn,run_underlying ht]
theorem qLw {P:Program} {w:World} {t e:TypeId} (ht:P.underlying t=some (.slice e)) (a:Option Addr) (n c:Nat) (x y:Operand):
  (do eqGuard .eql t x y (.slice a n c) (.slice none 0 0);binOp .eql t (.slice a n c) (.slice none 0 0):Sem Value).run P w= .ok (.bool a.isNone) w:=by
 have he:(Op.equal t (.slice a n c) (.slice none 0 0)).run P w= .ok a.isNone w:=eq_nil ht 9999 a n c;have hg:(eqGuard .eql t x y (.slice a n c) (.slice none 0 0)).run P w= .ok () w:=rfl;rw[Sem.run_bind,hg];show((do pure (.bool (<-Op.equal t (.slice a n c) (.slice none 0 0)))):Sem Value).run P w=_;rw[Sem.run_bind,he];rfl
theorem qFQ {K:Ctx} {st:St} {Q:Exit->St->Prop} (fn:Func) (nn id c:Nat) (want:St) (t t' e d:Nat) (x:Operand) (n:Nat) (f:Nat->List C) (hc:nd fn nn= .region id (rg fn nn) false)
  (h:(LI K.nt (rg fn nn),(rg fn nn).size,seen want (runO K (rg fn nn) [] c 0 st 0))=(true,c+1,wish want none))
  (hg:(gd (rg fn nn) want (opAt (rg fn nn) c),(opAt (rg fn nn) c).dst,(opAt (rg fn nn) c).op,op1 K.globs want x,K.P.underlying t)=(some true,some d,.binOp .eql t x (.const (.slice none 0 0)) t',some (.one (.lst n f)),some (.slice e)))
  (hk:∀b:Bool,(b=true->n=0)->Q .normal (want.app (some d) (qJq b) [])):H K st (nd fn nn) Q:=by
 rw[hc];generalize rg fn nn=ops at h hg;simp only[Prod.mk.injEq] at h hg;obtain⟨hok,hsz,hs⟩:=h;obtain⟨st',h1,hsub⟩:=qCv hs;obtain⟨g1,g2,g3,g4,g5⟩:=hg;refine qKl (MT hok h1 trivial (by omega) ?_);intro M a w hsim;have hs1:=hsim.sub hsub;have hi':c<ops.size:=by omega
 have hv:IRep w (M.keep want.objs).imm (.lst n f) (a.eval x):=op1_rep hs1.1 g4;have key:∃b:Bool,(b=true->n=0)/\(execOp a.eval (opAt ops c)).run K.P w= .ok (.value (.bool b)) w:=by
  have hgen:∀u,IRep w (M.keep want.objs).imm (.lst n f) u->∃b:Bool,(b=true->n=0)/\(do eqGuard .eql t x (.const (.slice none 0 0)) u (.slice none 0 0);binOp .eql t u (.slice none 0 0):Sem Value).run K.P w= .ok (.bool b) w:=by
   intro u hu;cases hu with
   |lst0 b=>exact⟨b.isNone,λ_=>rfl,qLw g5 b 0 0 _ _⟩
   |lst b o n cap sz f g hn hm hl hb hc hr=>exact⟨false,λhb=>(by cases hb),qLw g5 (some ⟨b,o,none⟩) n cap _ _⟩
  obtain⟨b,hb,hr⟩:=hgen _ hv;refine⟨b,hb,?_⟩;unfold execOp;rw[g3];exact ZW hr
 obtain⟨b,hb,hrun⟩:=key;rw[kv,qA1 hi'];simp only[wpOpsIn,RE hi',qBX hs1.1 g1 (EB hok hi') (RJ hok),if_true];refine Oper.wpIn_of_wp (by rw[g3];rfl) ?_;unfold Oper.wp;rw[hrun];have hst:=hs1.step (dst:=(opAt ops c).dst) (nv:=[]) (ob:=[]) (x:=qJq b) (v:= .bool b) (Ext.same hs1.1 rfl rfl rfl rfl) (jJ _ rfl) (λi k o h=>by cases h) (λi hi=> .inl hi) rfl (qBo want) rfl (RJ hok c);rw[show ops.size-(c+1)=0 by omega];rw[g2] at hst;refine⟨M.keep want.objs,want.app (some d) (qJq b) [],hk b hb,?_⟩;rw[g2];exact hst
def vi (n:Int):V:= .v (.one (.val (.int .i64 n)))
def vb (b:Bool):V:= .v (.one (.val (.bool b)))
def vp (id j:Nat):V:= .v (.one (.bptr id 0 j))
def vo (id k sz n:Nat):V:= .v (.one (.own id k sz n))
def vc (c:C):V:= .v (.one c)
def va (cs:List C):V:= .v (.agg cs)
def ci (n:Int):C:= .val (.int .i64 n)
def cb (b:Bool):C:= .val (.bool b)
def cs (s:ByteArray):C:= .val (.string s)
def rf {α:Type} [Inhabited α] (e:α->List C) (l:List α):Nat->List C:=rowf e du l
def bx (e:Nat) (cs:List C):Nat×O:=(0,.box e cs)
def ro (k e sz n:Nat) (f:Nat->List C):Nat×O:=(k,.row e sz n f)
def dfx (b:Bool):Dir:=⟨[],some b,none,none⟩
def drw (id k:Nat) (f:Nat->List C):Dir:=⟨[],none,none,some (id,k,f)⟩
def dex (e:Ent):Dir:=⟨[],none,some e,none⟩
def dpr (p:List Fin) (d:Dir):Dir:={d with pre:=p}
def cen (ren:List (Nat×Nat)) (outs:List Nat) (c m:Nat) (x:V) (ob:List (Nat×(Nat×O))) (rs ro:List Nat):Ent:=⟨true,x.out ⟨ren,outs,c⟩,PH ⟨ren,outs,c⟩ m ob,ZM ⟨ren,outs,c⟩ ob,rs,ro⟩
theorem zA {K:Ctx} (st:St) (op:Oper) (ren:List (Nat×Nat)) (outs:List Nat) (c:Nat) {f:FuncId} {m:Nat} {xs' xs:List V1} {p:Option Prop} {b:Bool} {oi:List (Nat×(Nat×O))} {x:V} {ob:List (Nat×(Nat×O))} (hp:oP p) (hxs:xs'=xs) (hct:CtX K.P K.globs f ren.length m xs oi x ob) (hb:b=true\/(x.noLst=true/\US ob))
  (hin:(qBH K.globs st ren op.op,fnOk K.P f,Out.ok ⟨ren,outs,c⟩ m ob&&(x.closed ob&&ob.all (λq=>q.2.2.closed ob)))=(some (f,xs',p,b,oi),true,true)):
  Step K st op (PH ⟨ren,outs,c⟩ m ob) (ZM ⟨ren,outs,c⟩ ob) (x.out ⟨ren,outs,c⟩):=by
 simp only[Prod.mk.injEq] at hin;exact qMg hin.1 hp hxs hct hin.2.1 hin.2.2 hb
end Go.SL

namespace Go.SL
open Go.RowKit
def cLe :C->C->Prop
 | .emp,.lst n _=>n=0
 |c,d=>c=d
def csLe :List C->List C->Prop
 |[],[]=>True
 |c::r,d::s=>cLe c d/\csLe r s
 |_,_=>False
def v1Le :V1->V1->Prop
 | .one c,.one d=>cLe c d
 | .agg cs,.agg ds=>csLe cs ds
 |_,_=>False
def vsLe :List V1->List V1->Prop
 |[],[]=>True
 |c::r,d::s=>v1Le c d/\vsLe r s
 |_,_=>False
theorem qLX {w:World} {M:Mem} {c d:C} {v:Value} (h:cLe c d) (hr:CRep w M c v):CRep w M d v:=by
 unfold cLe at h;split at h
 ·subst h;cases hr with
  |emp a=>exact IRep.lst0 a _
 ·subst h;exact hr
theorem qJT :∀{cs ds:List C},csLe cs ds->cs.length=ds.length
 |[],[],_=>rfl
 |_::r,_::s,h=>by simp[qJT h.2]
 |[],_::_,h=>h.elim
 |_::_,[],h=>h.elim
theorem qKU :∀{cs ds:List C},csLe cs ds->∀j,j<cs.length->cLe (cs.getD j .unk) (ds.getD j .unk)
 |_::r,_::s,h,0,_=>h.1
 |_::r,_::s,h,j+1,hj=>by
  have:=qKU h.2 j (by simpa using hj);simpa using this
 |[],[],_,j,hj=>by simp at hj
 |[],_::_,h,_,_=>h.elim
 |_::_,[],h,_,_=>h.elim
theorem qOD {w:World} {M:Mem} {c d:V1} {v:Value} (h:v1Le c d) (hr:zC w M c v):zC w M d v:=by
 cases c with
 |one c=>cases d with
  |one d=>exact qLX h hr
  |agg ds=>exact h.elim
 |agg cs=>cases d with
  |one d=>exact h.elim
  |agg ds=>
   obtain⟨vs,hv,hl,hh⟩:=hr;have e:=qJT h;exact⟨vs,hv,by omega,λj hj=>qLX (qKU h j (by omega)) (hh j (by omega))⟩
theorem qKo :∀{cs ds:List V1},vsLe cs ds->cs.length=ds.length
 |[],[],_=>rfl
 |_::r,_::s,h=>by simp[qKo h.2]
 |[],_::_,h=>h.elim
 |_::_,[],h=>h.elim
theorem qKN :∀{cs ds:List V1},vsLe cs ds->∀j,j<cs.length->v1Le (cs.getD j (.one .unk)) (ds.getD j (.one .unk))
 |_::r,_::s,h,0,_=>h.1
 |_::r,_::s,h,j+1,hj=>by
  have:=qKN h.2 j (by simpa using hj);simpa using this
 |[],[],_,j,hj=>by simp at hj
 |[],_::_,h,_,_=>h.elim
 |_::_,[],h,_,_=>h.elim
theorem CtX.emp {P:Program} {gl:List (Nat×C)} {f n m:Nat} {xs' xs:List V1} {oi:List (Nat×(Nat×O))} {x:V} {ob:List (Nat×(Nat×O))} (h:CtX P gl f n m xs oi x ob) (hl:vsLe xs' xs):CtX P gl f n m xs' oi x ob:=by
 intro w M vs hg hin ha;refine h w M vs hg hin ?_;have e:=qKo hl;exact⟨by have:=ha.1;omega,λj hj=>qOD (qKN hl j (by omega)) (ha.2 j (by omega))⟩
end Go.SL

namespace Go.SL
open Go.RowKit
def St.up (st:St) (ds:List Nat) (als:List (Nat×V)) (dob:List Nat) (aob:List (Nat×(Nat×O))):St:=
 ⟨als++st.slots.filter (λp=>!(ds.any (Nat.beq p.1))),aob++st.objs.filter (λp=>!(dob.any (Nat.beq p.1)))⟩
def qD1 :Code->Operand
 | .cond o _ _=>o
 |_=> .tmp 0
def TT :Code->Nat
 | .region id _ _=>id
 |_=>0
structure Ev (K:Ctx) (ops:Array Oper) where
 i:Nat
 d:Dir
 p:Option Prop
 h:oP p
def Ev.ds {K:Ctx} {ops:Array Oper}:List (Ev K ops)->List (Nat×Dir)
 |[]=>[]
 |e::l=>(e.i,e.d)::Ev.ds l
def Ev.ps {K:Ctx} {ops:Array Oper}:List (Ev K ops)->Option Prop
 |[]=>none
 |e::l=>an e.p (Ev.ps l)
theorem qD6 {p q:Option Prop} (h:oP p) (k:oP q):oP (an p q):=by
 cases p with
 |none=>exact k
 |some p=>cases q with
  |none=>exact h
  |some q=>exact⟨h,k⟩
theorem Ev.oP {K:Ctx} {ops:Array Oper}:∀l:List (Ev K ops),oP (Ev.ps l)
 |[]=>trivial
 |e::l=>qD6 e.h (Ev.oP l)
def qc {K:Ctx} {ops:Array Oper} (i:Nat) (rs:List Nat) (c:Nat) {f:FuncId} {m:Nat} {xs:List V1} {x:V} {ob:List (Nat×(Nat×O))} (hct:CtX K.P K.globs f 0 m xs [] x ob)
  (hin:(qBH K.globs ⟨rs.zip (xs.map V.v),[]⟩ [] (opAt ops i).op,fnOk K.P f,Out.ok ⟨[],[],c⟩ m ob&&(x.closed ob&&ob.all (λq=>q.2.2.closed ob)))=(some (f,xs,none,true,[]),true,true):=by kernel_rfl):Ev K ops:=
 ⟨i,dex (cen [] [] c m x ob rs []),some (Step K ⟨rs.zip (xs.map V.v),[]⟩ (opAt ops i) (PH ⟨[],[],c⟩ m ob) (ZM ⟨[],[],c⟩ ob) (x.out ⟨[],[],c⟩)),zA _ _ [] [] c o0 rfl hct (.inl rfl) hin⟩
def qk {K:Ctx} {ops:Array Oper} (i:Nat) (rs:List Nat) (c:Nat) (st:St) {f:FuncId} {m:Nat} {xs:List V1} {x:V} {ob:List (Nat×(Nat×O))} (hct:CtX K.P K.globs f 0 m xs [] x ob)
  (hin:(qBH K.globs st [] (opAt ops i).op,fnOk K.P f,Out.ok ⟨[],[],c⟩ m ob&&(x.closed ob&&ob.all (λq=>q.2.2.closed ob)))=(some (f,xs,none,true,[]),true,true):=by kernel_rfl):Ev K ops:=
 ⟨i,dex (cen [] [] c m x ob rs []),some (Step K st (opAt ops i) (PH ⟨[],[],c⟩ m ob) (ZM ⟨[],[],c⟩ ob) (x.out ⟨[],[],c⟩)),zA _ _ [] [] c o0 rfl hct (.inl rfl) hin⟩
def qd {K:Ctx} {ops:Array Oper} (i:Nat) (d:Dir) {p:Prop} (h:p):Ev K ops:=⟨i,d,some p,h⟩
def dN :Dir:=Dir.none
def qi {K:Ctx} {ops:Array Oper} (i:Nat) {z:Int} {m:Nat} (h:inb z m=true):Ev K ops:=qd i Dir.none (zG h)
def qf {K:Ctx} {ops:Array Oper} (i:Nat) {x b:Bool} (h:x=b):Ev K ops:=⟨i,dfx b,some (x=b),h⟩
theorem bif_c {α:Type} {c:Bool} {A B:Option α} {r:α} (h:(bif c then A else B)=some r):(c=true/\A=some r)\/(c=false/\B=some r):=by cases c;exact .inr ⟨rfl,h⟩;exact .inl ⟨rfl,h⟩
theorem oi {α:Type} {a b:α} (h:some a=some b):a=b:=kF h
section
variable {K :Ctx} {st:St} {Q:Exit->St->Prop} {fn:Func} {n:Nat}
theorem q_sq (h:H K st (nd fn (2*n)) (IH Q λst'=>H K st' (nd fn (2*n+1)) Q)) (hc:nd fn n= .seq (nd fn (2*n)) (nd fn (2*n+1)):=by kernel_rfl):H K st (nd fn n) Q:=R_sq fn _ _ hc h
theorem q_cn (x:Bool) (ht:x=true->H K st (nd fn (2*n)) Q) (hf:x=false->H K st (nd fn (2*n+1)) Q) (hc:nd fn n= .cond (qD1 (nd fn n)) (nd fn (2*n)) (nd fn (2*n+1)):=by kernel_rfl) (ho:opB st (qD1 (nd fn n))=some x:=by kernel_rfl):H K st (nd fn n) Q:=R_cn fn _ _ _ hc x ho ht hf
theorem q_bk (id:Nat) (h:H K st (nd fn (2*n)) (EG id Q)) (hc:nd fn n= .block id (nd fn (2*n)):=by kernel_rfl):H K st (nd fn n) Q:=R_bk fn id _ hc h
theorem q_sk {c:Code} (h:Q .normal st) (hc:c= .skip:=by kernel_rfl):H K st c Q:=qBk hc h
theorem q_rt {c:Code} (h:Q .ret st) (hc:c= .ret:=by kernel_rfl):H K st c Q:=MS hc h
theorem q_ex {c:Code} (id:Nat) (h:Q (.exit id) st) (hc:c= .exit id:=by kernel_rfl):H K st c Q:=R_exit id hc h
theorem q_vn (es:List (Ev K (rg fn n))) (nid:Nat) (want:St) (hk:Q .normal want) (hc:nd fn n= .region (TT (nd fn n)) (rg fn n) false:=by kernel_rfl) (h:seen want (runF K (rg fn n) (Ev.ds es) [] st nid)=wish want (Ev.ps es):=by kernel_rfl):H K st (nd fn n) Q:=R_rn fn n _ (Ev.ds es) [] nid want (Ev.oP es) hc h hk
theorem q_dn (es:List (Ev K (rg fn n))) (bm:List Nat) (nid:Nat) (want:St) (hk:Q .normal want) (hc:nd fn n= .region (TT (nd fn n)) (rg fn n) true:=by kernel_rfl) (h:seen want (qAL K (rg fn n) [] (Ev.ds es) [] bm st nid)=wish want (Ev.ps es):=by kernel_rfl):H K st (nd fn n) Q:=R_dr fn n _ [] (Ev.ds es) [] bm nid want (Ev.oP es) hc h hk
theorem q_xn (pre:List Fin) {po:Option Prop} (hp:oP po) (es:List (Ev K (rg fn n))) (fin:List Fin) {fo:Option Prop} (hf:oP fo) (bm:List Nat) (nid:Nat) (want:St) (hk:Q .normal want) (hc:nd fn n= .region (TT (nd fn n)) (rg fn n) true:=by kernel_rfl) (h:seen want (qAL K (rg fn n) pre (Ev.ds es) fin bm st nid)=wish want (an po (an (Ev.ps es) fo)):=by kernel_rfl):H K st (nd fn n) Q:=R_dr fn n _ pre (Ev.ds es) fin bm nid want (qD6 hp (qD6 (Ev.oP es) hf)) hc h hk
theorem q_vu (es:List (Ev K (rg fn n))) (nid:Nat) (ds:List Nat) (als:List (Nat×V)) (dob:List Nat) (aob:List (Nat×(Nat×O))) (hk:Q .normal (st.up ds als dob aob)) (hc:nd fn n= .region (TT (nd fn n)) (rg fn n) false:=by kernel_rfl) (h:seen (st.up ds als dob aob) (runF K (rg fn n) (Ev.ds es) [] st nid)=wish (st.up ds als dob aob) (Ev.ps es):=by kernel_rfl):H K st (nd fn n) Q:=R_rn fn n _ (Ev.ds es) [] nid _ (Ev.oP es) hc h hk
theorem q_wu (es:List (Ev K (rg fn n))) (fin:List Fin) {fo:Option Prop} (hf:oP fo) (nid:Nat) (ds:List Nat) (als:List (Nat×V)) (dob:List Nat) (aob:List (Nat×(Nat×O))) (hk:Q .normal (st.up ds als dob aob)) (hc:nd fn n= .region (TT (nd fn n)) (rg fn n) false:=by kernel_rfl) (h:seen (st.up ds als dob aob) (runF K (rg fn n) (Ev.ds es) fin st nid)=wish (st.up ds als dob aob) (an (Ev.ps es) fo):=by kernel_rfl):H K st (nd fn n) Q:=R_rn fn n _ (Ev.ds es) fin nid _ (qD6 (Ev.oP es) hf) hc h hk
theorem q_du (es:List (Ev K (rg fn n))) (bm:List Nat) (nid:Nat) (ds:List Nat) (als:List (Nat×V)) (dob:List Nat) (aob:List (Nat×(Nat×O))) (hk:Q .normal (st.up ds als dob aob)) (hc:nd fn n= .region (TT (nd fn n)) (rg fn n) true:=by kernel_rfl) (h:seen (st.up ds als dob aob) (qAL K (rg fn n) [] (Ev.ds es) [] bm st nid)=wish (st.up ds als dob aob) (Ev.ps es):=by kernel_rfl):H K st (nd fn n) Q:=R_dr fn n _ [] (Ev.ds es) [] bm nid _ (Ev.oP es) hc h hk
theorem q_xu (pre:List Fin) {po:Option Prop} (hp:oP po) (es:List (Ev K (rg fn n))) (fin:List Fin) {fo:Option Prop} (hf:oP fo) (bm:List Nat) (nid:Nat) (ds:List Nat) (als:List (Nat×V)) (dob:List Nat) (aob:List (Nat×(Nat×O))) (hk:Q .normal (st.up ds als dob aob)) (hc:nd fn n= .region (TT (nd fn n)) (rg fn n) true:=by kernel_rfl) (h:seen (st.up ds als dob aob) (qAL K (rg fn n) pre (Ev.ds es) fin bm st nid)=wish (st.up ds als dob aob) (an po (an (Ev.ps es) fo)):=by kernel_rfl):H K st (nd fn n) Q:=R_dr fn n _ pre (Ev.ds es) fin bm nid _ (qD6 hp (qD6 (Ev.oP es) hf)) hc h hk
theorem q_cm {ρ:Type} {x:Bool} {A B:Option ρ} {r:ρ} (hm:(bif x then A else B)=some r) (ht:x=true->A=some r->H K st (nd fn (2*n)) Q) (hf:x=false->B=some r->H K st (nd fn (2*n+1)) Q) (hc:nd fn n= .cond (qD1 (nd fn n)) (nd fn (2*n)) (nd fn (2*n+1)):=by kernel_rfl) (ho:opB st (qD1 (nd fn n))=some x:=by kernel_rfl):H K st (nd fn n) Q:=q_cn x (λh=>ht h (bif_t h hm)) (λh=>hf h (bif_f h hm)) hc ho
theorem s_vn (es:List (Ev K (rg fn (2*n)))) (nid:Nat) (want:St) (hk:H K want (nd fn (2*n+1)) Q) (hs:nd fn n= .seq (nd fn (2*n)) (nd fn (2*n+1)):=by kernel_rfl) (hc:nd fn (2*n)= .region (TT (nd fn (2*n))) (rg fn (2*n)) false:=by kernel_rfl) (h:seen want (runF K (rg fn (2*n)) (Ev.ds es) [] st nid)=wish want (Ev.ps es):=by kernel_rfl):H K st (nd fn n) Q:=q_sq (q_vn es nid want hk hc h) hs
theorem s_dn (es:List (Ev K (rg fn (2*n)))) (bm:List Nat) (nid:Nat) (want:St) (hk:H K want (nd fn (2*n+1)) Q) (hs:nd fn n= .seq (nd fn (2*n)) (nd fn (2*n+1)):=by kernel_rfl) (hc:nd fn (2*n)= .region (TT (nd fn (2*n))) (rg fn (2*n)) true:=by kernel_rfl) (h:seen want (qAL K (rg fn (2*n)) [] (Ev.ds es) [] bm st nid)=wish want (Ev.ps es):=by kernel_rfl):H K st (nd fn n) Q:=q_sq (q_dn es bm nid want hk hc h) hs
theorem s_vu (es:List (Ev K (rg fn (2*n)))) (nid:Nat) (ds:List Nat) (als:List (Nat×V)) (dob:List Nat) (aob:List (Nat×(Nat×O))) (hk:H K (st.up ds als dob aob) (nd fn (2*n+1)) Q) (hs:nd fn n= .seq (nd fn (2*n)) (nd fn (2*n+1)):=by kernel_rfl) (hc:nd fn (2*n)= .region (TT (nd fn (2*n))) (rg fn (2*n)) false:=by kernel_rfl) (h:seen (st.up ds als dob aob) (runF K (rg fn (2*n)) (Ev.ds es) [] st nid)=wish (st.up ds als dob aob) (Ev.ps es):=by kernel_rfl):H K st (nd fn n) Q:=q_sq (q_vu es nid ds als dob aob hk hc h) hs
theorem s_wu (es:List (Ev K (rg fn (2*n)))) (fin:List Fin) {fo:Option Prop} (hf:oP fo) (nid:Nat) (ds:List Nat) (als:List (Nat×V)) (dob:List Nat) (aob:List (Nat×(Nat×O))) (hk:H K (st.up ds als dob aob) (nd fn (2*n+1)) Q) (hs:nd fn n= .seq (nd fn (2*n)) (nd fn (2*n+1)):=by kernel_rfl) (hc:nd fn (2*n)= .region (TT (nd fn (2*n))) (rg fn (2*n)) false:=by kernel_rfl) (h:seen (st.up ds als dob aob) (runF K (rg fn (2*n)) (Ev.ds es) fin st nid)=wish (st.up ds als dob aob) (an (Ev.ps es) fo):=by kernel_rfl):H K st (nd fn n) Q:=q_sq (q_wu es fin hf nid ds als dob aob hk hc h) hs
theorem s_du (es:List (Ev K (rg fn (2*n)))) (bm:List Nat) (nid:Nat) (ds:List Nat) (als:List (Nat×V)) (dob:List Nat) (aob:List (Nat×(Nat×O))) (hk:H K (st.up ds als dob aob) (nd fn (2*n+1)) Q) (hs:nd fn n= .seq (nd fn (2*n)) (nd fn (2*n+1)):=by kernel_rfl) (hc:nd fn (2*n)= .region (TT (nd fn (2*n))) (rg fn (2*n)) true:=by kernel_rfl) (h:seen (st.up ds als dob aob) (qAL K (rg fn (2*n)) [] (Ev.ds es) [] bm st nid)=wish (st.up ds als dob aob) (Ev.ps es):=by kernel_rfl):H K st (nd fn n) Q:=q_sq (q_du es bm nid ds als dob aob hk hc h) hs
theorem q_jn {ι:Type} (S:ι->St) (J:ι->Prop) (hk:∀i,J i->H K (S i) (nd fn (2*n+1)) Q) (h:H K st (nd fn (2*n)) (IH Q λst'=>∃i,J i/\Sub (S i) st'.rev)) (hc:nd fn n= .seq (nd fn (2*n)) (nd fn (2*n+1)):=by kernel_rfl):H K st (nd fn n) Q:=R_join _ _ hc S J hk h
theorem q_vv (es:List (Ev K (rg fn n))) (nid:Nat) (ds:List Nat) (als:List (Nat×V)) (hk:Q .normal (st.up ds als [] [])) (hc:nd fn n= .region (TT (nd fn n)) (rg fn n) false:=by kernel_rfl) (h:seen (st.up ds als [] []) (runF K (rg fn n) (Ev.ds es) [] st nid)=wish (st.up ds als [] []) (Ev.ps es):=by kernel_rfl):H K st (nd fn n) Q:=q_vu es nid ds als [] [] hk hc h
theorem q_va (nid:Nat) (als:List (Nat×V)) (hk:Q .normal (st.up [] als [] [])) (hc:nd fn n= .region (TT (nd fn n)) (rg fn n) false:=by kernel_rfl) (h:seen (st.up [] als [] []) (runF K (rg fn n) (Ev.ds ([]:List (Ev K (rg fn n)))) [] st nid)=wish (st.up [] als [] []) (Ev.ps ([]:List (Ev K (rg fn n)))):=by kernel_rfl):H K st (nd fn n) Q:=q_vu [] nid [] als [] [] hk hc h
theorem s_vv (es:List (Ev K (rg fn (2*n)))) (nid:Nat) (ds:List Nat) (als:List (Nat×V)) (hk:H K (st.up ds als [] []) (nd fn (2*n+1)) Q) (hs:nd fn n= .seq (nd fn (2*n)) (nd fn (2*n+1)):=by kernel_rfl) (hc:nd fn (2*n)= .region (TT (nd fn (2*n))) (rg fn (2*n)) false:=by kernel_rfl) (h:seen (st.up ds als [] []) (runF K (rg fn (2*n)) (Ev.ds es) [] st nid)=wish (st.up ds als [] []) (Ev.ps es):=by kernel_rfl):H K st (nd fn n) Q:=s_vu es nid ds als [] [] hk hs hc h
theorem s_va (nid:Nat) (als:List (Nat×V)) (hk:H K (st.up [] als [] []) (nd fn (2*n+1)) Q) (hs:nd fn n= .seq (nd fn (2*n)) (nd fn (2*n+1)):=by kernel_rfl) (hc:nd fn (2*n)= .region (TT (nd fn (2*n))) (rg fn (2*n)) false:=by kernel_rfl) (h:seen (st.up [] als [] []) (runF K (rg fn (2*n)) (Ev.ds ([]:List (Ev K (rg fn (2*n))))) [] st nid)=wish (st.up [] als [] []) (Ev.ps ([]:List (Ev K (rg fn (2*n))))):=by kernel_rfl):H K st (nd fn n) Q:=s_vu [] nid [] als [] [] hk hs hc h
theorem q_fu {c:Code} (fins:List Fin) (ds:List Nat) (als:List (Nat×V)) (dob:List Nat) (aob:List (Nat×(Nat×O))) {q:Option Prop} (hq:oP q) (h:H K (st.up ds als dob aob) c Q) (hf:seen (st.up ds als dob aob) (UF K fins st)=wish (st.up ds als dob aob) q:=by kernel_rfl):H K st c Q:=H_fin fins _ hq hf h
theorem q_cq {ρ:Type} {x:Bool} {A B:Option ρ} {r:ρ} (hm:(bif x then A else B)=some r) (ht:A=some r->H K st (nd fn (2*n)) Q) (hf:B=some r->H K st (nd fn (2*n+1)) Q) (hc:nd fn n= .cond (qD1 (nd fn n)) (nd fn (2*n)) (nd fn (2*n+1)):=by kernel_rfl) (ho:opB st (qD1 (nd fn n))=some x:=by kernel_rfl):H K st (nd fn n) Q:=q_cm hm (λ_=>ht) (λ_=>hf) hc ho
theorem q_sw {c:Code} (i j:Nat) (h:H K (st.swp i j) c Q) (hij:(Nat.ble K.n i&&(Nat.ble K.m i&&(Nat.ble K.n j&&Nat.ble K.m j)))=true:=by kernel_rfl):H K st c Q:=H_swap i j hij h
theorem q_fn {c:Code} (fins:List Fin) (want:St) {q:Option Prop} (hq:oP q) (h:H K want c Q) (hf:seen want (UF K fins st)=wish want q:=by kernel_rfl):H K st c Q:=H_fin fins want hq hf h
theorem q_fo {α:Type} [Inhabited α] {c:Code} (s i t k:Nat) (e:α->List C) (h:H K (st.up [s] [(s,vo i 0 k 0)] [] [(i,ro 0 t k 0 (rf e ([]:List α)))]) c Q) (hf:seen (st.up [s] [(s,vo i 0 k 0)] [] [(i,ro 0 t k 0 (rf e ([]:List α)))]) (UF K [.own s i t k (rf e ([]:List α))] st)=wish (st.up [s] [(s,vo i 0 k 0)] [] [(i,ro 0 t k 0 (rf e ([]:List α)))]) none:=by kernel_rfl):H K st c Q:=q_fu [.own s i t k (rf e ([]:List α))] [s] [(s,vo i 0 k 0)] [] [(i,ro 0 t k 0 (rf e ([]:List α)))] o0 h hf
theorem q_fl {α:Type} [Inhabited α] {c:Code} (s i t k:Nat) (e:α->List C) (h:H K (st.up [s] [(s,vo i 0 k (([]:List α).length))] [i] [(i,ro 0 t k (([]:List α).length) (rf e ([]:List α)))]) c Q) (hf:seen (st.up [s] [(s,vo i 0 k (([]:List α).length))] [i] [(i,ro 0 t k (([]:List α).length) (rf e ([]:List α)))]) (UF K [.len i (([]:List α).length)] st)=wish (st.up [s] [(s,vo i 0 k (([]:List α).length))] [i] [(i,ro 0 t k (([]:List α).length) (rf e ([]:List α)))]) (some (0=([]:List α).length/\0=([]:List α).length)):=by kernel_rfl):H K st c Q:=q_fu [.len i (([]:List α).length)] [s] [(s,vo i 0 k (([]:List α).length))] [i] [(i,ro 0 t k (([]:List α).length) (rf e ([]:List α)))] (o1 (And.intro (show 0=([]:List α).length from rfl) (show 0=([]:List α).length from rfl))) h hf
end
theorem q_J {ι:Type} {S:ι->St} {J:ι->Prop} {st:St} (i:ι) (hj:J i) (h1:(S i).slots.map (λp=>look p.1 st.rev.slots)=(S i).slots.map λp=>some p.2:=by kernel_rfl) (h2:(S i).objs.map (λp=>look p.1 st.rev.objs)=(S i).objs.map λp=>some p.2:=by kernel_rfl):∃i,J i/\Sub (S i) st.rev:=J_mk i hj h1 h2
theorem q_rm {P:Program} {fn:Func} {x:V} {ob:List (Nat×(Nat×O))} {st:St} (h1:retV P st.rev fn.results.toList=some x:=by kernel_rfl) (h2:ob.map (λp=>look p.1 st.rev.objs)=ob.map λp=>some p.2:=by kernel_rfl):RetQ P fn x ob .ret st:=BH h1 h2
theorem q_l0 {ω:Type} {b:Nat} {S:ω->St} {res:ω} {st:St} (h1:(S res).slots.map (λp=>look p.1 st.rev.slots)=(S res).slots.map λp=>some p.2:=by kernel_rfl) (h2:(S res).objs.map (λp=>look p.1 st.rev.objs)=(S res).objs.map λp=>some p.2:=by kernel_rfl):jL b S res (.exit b) st:=L0_mk h1 h2
theorem q_l1 {ω ρ:Type} {b:Nat} {S:ω->St} (o:ω) {st:St} (h1:(S o).slots.map (λp=>look p.1 st.rev.slots)=(S o).slots.map λp=>some p.2:=by kernel_rfl) (h2:(S o).objs.map (λp=>look p.1 st.rev.objs)=(S o).objs.map λp=>some p.2:=by kernel_rfl):Nat.beq b b=true/\∃o',(Sum.inr o:ρ⊕ω)= .inr o'/\Sub (S o') st.rev:=qJr o h1 h2
theorem q_hl {K:Ctx} {st:St} {c:Code} {Q:Exit->St->Prop} {n:Nat} (st':St) (h:HL K c Q n st') (h1:st'.slots.map (λp=>look p.1 st.rev.slots)=st'.slots.map λp=>some p.2:=by kernel_rfl) (h2:st'.objs.map (λp=>look p.1 st.rev.objs)=st'.objs.map λp=>some p.2:=by kernel_rfl):HL K c Q n st:=qOu st' h1 h2 h
end Go.SL

namespace Go.SL
open Go.RowKit
def lpS (c:Nat):LoopState:=bif Nat.beq c 0 then .ready else .done
def lpJ (js:List Code) (c:Nat):Option Code:=bif Nat.beq c 0 then none else js[c-1]?
theorem qMu {K:Ctx} {M0 M:Mem} {st:St} {a:Act} {w':World} {x:V} {ob:List (Nat×(Nat×O))} {v:Value} (hA:∀b,K.A b↔M0.A b) (hIn:∀i b,K.In i=some b->(∃k',M0.ver i=some k')/\M0.blk i=some b) (hIn2:∀i k,M0.ver i=some k->K.In i=M0.blk i)
  (hsim:Sim1 K M st a w') (hv:VRep w' M x v) (hob:ob.map (λp=>look p.1 st.objs)=ob.map λp=>some p.2):GH (drOf K.globs) M0.owns K.w0 w'/\GY K.w0 w'/\qB3 K.w0 w' M0 (M.keep ob) K.m x ob v:=by
 refine⟨⟨hsim.1.below.os,hsim.1.below.tape,hsim.1.below.output,hsim.1.below.size,λb hb hnb=>hsim.1.below.block b hb fun⟨i,hi⟩=>?_,hsim.1.below.drawn⟩,hsim.1.shape,
  ⟨λi hi=>?_,λi j k l b hi hj hbi hbj=>hsim.1.inj i j k l b (yO hi) (yO hj) hbi hbj,λi k b hvi hbi=>?_,λi k k' him hk hv'=>?_,λb=>?_,qDV hv,λi k o ho=>?_⟩⟩
 ·obtain⟨⟨k',hk'⟩,hbk⟩:=hIn i b hi;exact hnb ⟨i,k',hk',hbk⟩
 ·simp only[Mem.keep] at hi;split at hi
  ·assumption
  ·exact absurd rfl hi
 ·obtain⟨h1,h2⟩:=hsim.1.rng i k b (yO hvi) hbi;exact⟨h1.imp id (hIn i b),h2⟩
 ·have:=hsim.1.fix i k' him (yO hv');rw[hIn2 i k hk] at this;exact this
 ·show M.A b↔_;rw[hsim.1.area b,hA b]
 ·exact qDt (by rw[ho];rfl) (hsim.1.objs i k o (qAe (g:=λs=>look s st.objs) hob ho))
def GO (l:List (Nat×Value)) (tmps:Array Value):Array Value:=l.foldl (λt p=>t.setIfInBounds p.1 p.2) tmps
theorem qES :∀(l:List (Nat×Value)) (tmps:Array Value),(GO l tmps).size=tmps.size
 |[],_=>rfl
 |p::r,tmps=>by
  show(GO r _).size=_;rw[qES];simp
theorem qB4 :∀(l:List (Nat×Value)) (tmps:Array Value) (s:Nat),(∀p∈l,p.1≠s)->(GO l tmps).getD s undef=tmps.getD s undef
 |[],_,_,_=>rfl
 |p::r,tmps,s,h=>by
  show(GO r _).getD s undef=_;rw[qB4 r _ s λq hq=>h q (kH _ hq)];simp only[kq];rw[uL (h p kI)]
theorem qIa :∀(l:List (Nat×Value)) (tmps:Array Value) (s:Nat) (v:Value),(l.map Prod.fst).Nodup->(s,v)∈l->s<tmps.size->(GO l tmps).getD s undef=v
 |[],_,_,_,_,h,_=>by cases h
 |p::r,tmps,s,v,hn,h,hlt=>by
  rw[ui,List.nodup_cons] at hn;show(GO r _).getD s undef=_;rcases ud.1 h with e|h
  ·subst e;rw[qB4 r _ s λq hq e=>hn.1 (ge.2 ⟨q,hq,e⟩)];simp[kq,hlt]
  ·exact qIa r _ s v hn.2 h (by simpa using hlt)
def qC2 :List Nat->List V1->List (Nat×V)
 |t::ts,x::xs=>(t,.v x)::qC2 ts xs
 |_,_=>[]
theorem qEG :∀{ts:List Nat} {xs:List V1} {s:Nat} {x:V},look s (qC2 ts xs)=some x->∃j,j<xs.length/\ts[j]? =some s/\x= .v (xs.getD j (.one .unk))
 |[],_,_,_,h=>by cases h
 |_::_,[],_,_,h=>by cases h
 |t::ts,y::xs,s,x,h=>by
  simp only[qC2,look_cons] at h;split at h
  ·rename_i hk;subst hk;cases h;exact⟨0,by simp,rfl,rfl⟩
  ·obtain⟨j,h1,h2,h3⟩:=qEG h;exact⟨j+1,by simpa using h1,by simpa using h2,by simpa using h3⟩
def qDk :List Nat->Bool
 |[]=>true
 |x::r=>!(r.any (Nat.beq x))&&qDk r
theorem qDE :∀{l:List Nat},qDk l=true->l.Nodup
 |[],_=> .nil
 |x::r,h=>by
  simp only[qDk,ko,uk,List.any_eq_false] at h;refine List.nodup_cons.2 ⟨λhx=>h.1 x hx (uQ x),qDE h.2⟩
def CtR (P:Program) (gl:List (Nat×C)) (R:JB) (b:Nat) (ts:List Nat) (n m:Nat) (xs:List V1) (oi:List (Nat×(Nat×O))) (x:V) (ob:List (Nat×(Nat×O))):Prop:=
 ∀(w:World) (M:Mem) (args:Array Value) (cap:Array Value),args.size=R.params.size->cap.size=ts.length->(∀j,j<ts.length->cap.getD j undef=R.tmps.getD (ts.getD j 0) undef)->NF gl w M.A->InOk w M n oi->qDe w M xs (args++cap)->
  RoundIn Fence.wide 0 P b R.fn (GO (R.params.toList.zip args.toList) R.tmps) R.assign R.body w λe w'=>∃v M',e= .returned v/\GH (drOf gl) M.owns w w'/\GY w w'/\qB3 w w' M M' m x ob v
def qM1 :Exit->Option (Option Code)
 | .normal=>some none
 | .ret=>some (some .ret)
 | .exit id=>some (some (.exit id))
 |_=>none
def qJB (R:JB) (b:Nat) (js:List Code) (c:Nat) (ob2:List (Nat×(Nat×O))) (e:Exit) (st:St):Prop:=
 qM1 e=some (lpJ js c)/\Nat.beq c 0=(lpJ js c).isNone/\look 0 st.rev.objs=some (0,.lp R b .busy none)/\ob2.map (λp=>look p.1 ((0,(0,.lp R b (lpS c) (lpJ js c)))::st.rev.objs))=ob2.map λp=>some p.2
def RdH (K:Ctx) (R:JB) (b:Nat) (js:List Code) (c:Nat) (ob2:List (Nat×(Nat×O))) (st:St):Prop:=
 ∃k,look 0 st.objs=some (k,.lp R b .ready none)/\H K ⟨st.slots,(0,(k,.lp R b .busy none))::st.objs⟩ R.body (qJB R b js c ob2)
theorem qNR {P:Program} {gl:List (Nat×C)} {R:JB} {b:Nat} {ts:List Nat} {n m nt:Nat} {xs:List V1} {oi ob2:List (Nat×(Nat×O))} {js:List Code} {c:Nat} (hm:P.follows .mixedOrders=true) (hT:R.tmps.size=nt)
  (hps:(qDk (R.params.toList++ts)&&(R.params.toList.all (λt=>Nat.blt t nt)&&Nat.beq xs.length (R.params.toList++ts).length))=true)
  (h:∀(w:World) (A:Nat->Prop) (In:Nat->Option Nat) (hI:∀i b,In i=some b->i<n/\b<w.heap.size/\¬A b) (hg:NF gl w A),
   H {P:=P,w0:=w,nt:=nt,A:=A,globs:=gl,mixed:=hm,glob:=hg,n:=n,m:=m,In:=In,hIn:=hI,rnd:=some b} {slots:=qC2 (R.params.toList++ts) xs,objs:=oi} R.assign
    (IH (λ_ _=>False) (RdH {P:=P,w0:=w,nt:=nt,A:=A,globs:=gl,mixed:=hm,glob:=hg,n:=n,m:=m,In:=In,hIn:=hI,rnd:=some b} R b js c ob2))):
  CtR P gl R b ts n m xs oi (.v (.one (.val (.bool (Nat.beq c 0))))) ((0,(0,.lp R b (lpS c) (lpJ js c)))::ob2):=by
 intro w M args cap has hcs hcap hg hin ha;subst hT;simp only[ko] at hps;obtain⟨hnd,hlt,hxl⟩:=hps;have hnd:=qDE hnd;have hxl:=ki hxl;have hI:∀i b,(λi=>if M.ver i=none then none else M.blk i) i=some b->i<n/\b<w.heap.size/\¬M.A b:=λi b hi=>by
  simp only at hi;split at hi
  ·cases hi
  ·rename_i hv;obtain⟨k,hk⟩:=kR.1 hv;exact hin.rng i k b hk hi
 have himm:∀b,M.imm b->b<w.heap.size->Mem.imm {M with A:=λb=>M.A b\/w.heap.size<=b} b:=λb hb _=>⟨.inl hb.1,hb.2⟩
 have hir:∀{c:C} {v:Value},IRep w M.imm c v->IRep w (Mem.imm {M with A:=λb=>M.A b\/w.heap.size<=b}) c v:=λhr=>hr.move (λ_ _ _=>rfl) himm;have hcr:∀{c:C} {v:Value},CRep w M c v->CRep w {M with A:=λb=>M.A b\/w.heap.size<=b} c v:=fun{c v} hr=>by
  cases c with
  |own id k sz len=>exact hr
  |sub id k sz off len=>exact hr
  |bptr id k j=>exact hr
  |rptr id k sz i j=>exact hr
  |fn g caps=>
   obtain⟨vs,h1,h2,h3⟩:=hr;refine⟨vs,h1,h2,λj hj=>?_⟩;have:=h3 j hj;generalize caps.getD j .unk=c at this;cases c with
   |bptr id k j=>exact this
   |_=>exact hir this
  |yl R b ts caps=>
   refine⟨hr.1,λj hj=>?_⟩;have:=hr.2 j hj;generalize caps.getD j .unk=c at this;cases c with
   |bptr id k j=>exact this
   |_=>exact hir this
  |unk=>exact hr
  |val v=>exact hir hr
  |emp=>exact hir hr
  |lst n f=>exact hir hr
  |lptr cs=>exact hir hr
  |aptr n sz f=>exact hir hr
 have hfst:(R.params.toList.zip args.toList).map Prod.fst=R.params.toList:=by
  rw[List.map_fst_zip];simp[has]
 have hIn:∀i b,(if M.ver i=none then none else M.blk i)=some b->(∃k',M.ver i=some k')/\M.blk i=some b:=λi b hi=>by
  split at hi
  ·cases hi
  ·rename_i hne;exact⟨kR.1 hne,hi⟩
 have hIn2:∀i k,M.ver i=some k->(if M.ver i=none then none else M.blk i)=M.blk i:=λi k hk=>by simp[hk]
 refine roundIn_of_wpIn trivial (wpIn_mono (h w M.A _ hI hg {M with A:=λb=>M.A b\/w.heap.size<=b} _ w ⟨⟨hin.inj,λi k b hv hb=>?_,λi k _ hv=>?_,GH.refl _ _,GY.refl _,λb=>Iff.rfl,?_,IP.nil,?_,?_⟩,?_⟩) ?_)
 ·refine⟨.inr ?_,(hin.rng i k b hv hb).2.1⟩;have hv':M.ver i=some k:=hv;simp only[hv',reduceCtorEq,if_false];exact hb
 ·have hv':M.ver i=some k:=hv;simp only[hv',reduceCtorEq,if_false]
 ·exact qES _ _
 ·intro s y hy;obtain⟨j,hj,hts,rfl⟩:=qEG hy;have h1:=ha.2 j hj;have hval:(GO (R.params.toList.zip args.toList) R.tmps).getD s undef=(args++cap).getD j undef:=by
   by_cases hjp:j<R.params.size
   ·rw[kz (by simpa using hjp)] at hts;have hja:j<args.size:=by omega
    have e2:(args++cap).getD j undef=args[j]:=by
     simp only[kq,uz hja,kC hja,kA]
    rw[e2];have hpj:R.params.toList[j]'(by simpa using hjp)=s:=(ug.1 hts).2;refine qIa _ _ _ _ (by rw[hfst];exact(List.nodup_append.1 hnd).1) ?_ ?_
    ·have:(R.params.toList.zip args.toList)[j]'(by simp[List.length_zip];omega)=(s,args[j]):=by
      rw[List.getElem_zip];exact Prod.ext hpj (by simp)
     rw[<-this];exact uE _
    ·have:=kw.1 hlt s (uA hts);simpa[kK] using this
   ·have hj2:j-R.params.size<ts.length:=by
     simp only[kD,uK] at hxl;omega
    rw[ky (by simp;omega)] at hts;simp only[uK] at hts;have e2:(args++cap).getD j undef=cap.getD (j-R.params.size) undef:=by
     simp only[kq];rw[uT (by omega),has]
    rw[e2,hcap _ hj2,qB4]
    ·rw[kd,hts];rfl
    ·rintro p hp rfl;have hm1:p.1∈R.params.toList:=by rw[<-hfst];exact ge.2 ⟨p,hp,rfl⟩
     have hm2:p.1∈ts:=uA hts;exact(List.nodup_append.1 hnd).2.2 _ hm1 _ hm2 rfl
  rw[hval];show zC _ _ _ _;generalize xs.getD j (.one .unk)=y at h1;cases y with
  |one c=>exact hcr h1
  |agg cs=>obtain⟨us,hu,hc⟩:=h1;exact⟨us,hu,hc.1,λj hj=>hcr (hc.2 j hj)⟩
 ·intro i k o ho;have:=hin.objs i k o ho;cases o with
  |box e cs=>obtain⟨h1,b,arr,h2,h3,h4⟩:=this;exact⟨h1,b,arr,h2,h3,h4.1,λj hj=>hcr (h4.2 j hj)⟩
  |row e sz n f=>
   refine⟨this.1,?_⟩;rcases this.2 with h0|⟨b,arr,h2,h3,h4,h5⟩
   ·exact .inl h0
   ·exact .inr ⟨b,arr,h2,h3,h4,λi hi=>⟨(h5 i hi).1,λj hj=>hir ((h5 i hi).2 j hj)⟩⟩
  |lp R b s j=>exact this
 ·intro i hi;exact hin.only i hi
 ·rintro e a1 w1 ⟨M1,st1,hq,hsim⟩;cases e with
  |normal=>
   obtain⟨k,hl,hbody⟩:=hq;obtain⟨_,_,hh⟩:=hsim.1.objs 0 k _ hl;refine⟨_,run_beginRound hh rfl,wpIn_mono (hbody M1 a1 _ (hsim.setLp hl .busy none)) ?_⟩;rintro e a2 w2 ⟨M2,st2,⟨hj,hc0,hl2,hob⟩,hsim2⟩;have hrev:=hsim2.rev;obtain⟨_,_,hh2⟩:=hrev.1.objs 0 0 _ hl2;have hset:=hrev.setLp hl2 (lpS c) (lpJ js c);have hend:∀jj,jj=lpJ js c->(Instr.endRound b jj).run P w2= .ok (.bool (Nat.beq c 0)) (w2.putObj b (.loop (R.at (lpS c) (lpJ js c)))):=λjj e=>by
    subst e;rw[run_endRound _ hh2,<-hc0];have:(if Nat.beq c 0=true then LoopState.ready else .done)=lpS c:=by unfold lpS;cases Nat.beq c 0<;>rfl
    rw[this];rfl
   obtain⟨r1,r2,r3⟩:=qMu (M0:=M) (x:= .v (.one (.val (.bool (Nat.beq c 0))))) (v:= .bool (Nat.beq c 0)) (ob:=(0,(0,.lp R b (lpS c) (lpJ js c)))::ob2) (λ_=>Iff.rfl) hIn hIn2 hset (jJ _ rfl) (by
    rw[ui,ui,hob]
    congr 1)
   cases e with
   |normal=>exact⟨_,_,hend _ (kF hj),_,_,rfl,r1,r2,r3⟩
   |ret=>exact⟨_,_,hend _ (kF hj),_,_,rfl,r1,r2,r3⟩
   |exit id=>exact⟨_,_,hend _ (kF hj),_,_,rfl,r1,r2,r3⟩
   |goto l=>cases hj
   |panic c=>cases hj
   |outgrown=>cases hj
  |_=>exact hq.elim
end Go.SL

namespace Go.SL
open Go.RowKit
def ylOf (gl:List (Nat×C)) (st:St) (f:Operand):Option (JB×Nat×List Nat×List C):=
 match op1 gl st f with
 |some (.one (.yl R b ts caps))=>some (R,b,ts,caps)
 |_=>none
def ylIn (gl:List (Nat×C)) (st:St) (ren:List (Nat×Nat)) (lid:Nat) (op:Op):Option (JB×Nat×List Nat×List V1×Option Prop×Bool×List (Nat×(Nat×O))):=
 match GG op with
 |some (fo,args)=>(match ylOf gl st fo,opsV gl st args,PY st ren 0 ren,look lid st.objs with
  |some (R,b,ts,caps),some ys,some oi,some (_,.lp _ _ _ _)=>bif Nat.beq ys.length R.params.size&&Nat.beq caps.length ts.length then(match UC st ren (ys++caps.map V1.one) with|some (xs,p,bb)=>some (R,b,ts,xs,p,bb,oi)|none=>none) else none
  |_,_,_,_=>none)
 |none=>none
theorem qNn {gl:List (Nat×C)} {st:St} {ren:List (Nat×Nat)} {lid:Nat} {op:Op} {R:JB} {b:Nat} {ts:List Nat} {xs:List V1} {p:Option Prop} {bb:Bool} {oi:List (Nat×(Nat×O))} (h:ylIn gl st ren lid op=some (R,b,ts,xs,p,bb,oi)):
  ∃fo args caps ys,GG op=some (fo,args)/\op1 gl st fo=some (.one (.yl R b ts caps))/\opsV gl st args=some ys/\PY st ren 0 ren=some oi/\ys.length=R.params.size/\caps.length=ts.length/\UC st ren (ys++caps.map V1.one)=some (xs,p,bb):=by
 unfold ylIn at h;split at h
 ·rename_i fo args hco;split at h
  ·rename_i R' b' ts' caps ys oi' _ _ _ _ _ hce hys hoi hl;cases hbb:Nat.beq ys.length R'.params.size&&Nat.beq caps.length ts'.length with
   |false=>rw[hbb] at h;cases h
   |true=>
    rw[hbb] at h;simp only[kn] at h;split at h
    ·rename_i xs2 p2 b2 hia;cases h;unfold ylOf at hce;split at hce
     ·rename_i R2 b2 ts2 caps2 hfo;cases hce;rw[ko] at hbb;exact⟨fo,args,caps,ys,hco,hfo,hys,hoi,ki hbb.1,ki hbb.2,hia⟩
     ·cases hce
    ·cases h
  ·cases h
 ·cases h
theorem qNF (ps:Array Tmp) (vs:Array Value) (tmps:Array Value):(ps.zip vs).foldl (λt (x:Tmp×Value)=>t.setIfInBounds x.1 x.2) tmps=GO (ps.toList.zip vs.toList) tmps:=by
 unfold GO;rw[<-Array.foldl_toList,Array.toList_zip]
theorem qMe {K:Ctx} {st:St} {op:Oper} {R:JB} {b:Nat} {ts:List Nat} {ren:List (Nat×Nat)} {outs:List Nat} {c m lid kl:Nat} {s:LoopState} {jj:Option Code} {xs' xs:List V1} {p:Option Prop} {bb:Bool} {oi:List (Nat×(Nat×O))} {x:V} {ob:List (Nat×(Nat×O))}
  (hin:ylIn K.globs st ren lid op.op=some (R,b,ts,xs',p,bb,oi)) (hl:look lid st.objs=some (kl,.lp R b s jj)) (hp:oP p) (hxs:xs'=xs) (hct:CtR K.P K.globs R b ts ren.length m xs oi x ob)
  (hok:(Out.ok ⟨ren,outs,c⟩ m ob&&(x.closed ob&&ob.all (λq=>q.2.2.closed ob)))=true) (hb:bb=true\/(x.noLst=true/\US ob)):
  Step K st op (PH ⟨ren,outs,c⟩ m ob) (ZM ⟨ren,outs,c⟩ ob) (x.out ⟨ren,outs,c⟩):=by
 subst hxs;obtain⟨fo,args,caps0,ys,hco,hfo,hys,hoi,hyp,hct2,hia⟩:=qNn hin;intro M a w h _;obtain⟨hcv,hcr⟩:=op1_rep h hfo;obtain⟨hyl,hyr⟩:=TL h hys;obtain⟨_,_,hh⟩:=h.objs lid kl _ hl;have hcapg:∀j,j<ts.length->((ts.map λt=>R.tmps.getD t undef).toArray).getD j undef=R.tmps.getD (ts.getD j 0) undef:=λj hj=>by
  simp[kq,kd,hj]
 obtain⟨Mi,hgl,hinok,hargs,hfin⟩:=qAE (c:=c) h hoi hia hp (vals:=(args.map a.eval).toArray++(ts.map λt=>R.tmps.getD t undef).toArray) (by simp[hyl,hct2]) (qE5 (by simp[hyl]) hyr (λj hj=>by rw[hcapg j (by omega)];exact hcr j hj)) hok hb;have hnd:=AF hco;refine⟨λ_ _=>trivial,?_⟩;rw[Oper.semAt_eq _ _ _ (qEM hnd)];have hrun:(execOp a.eval op).run K.P w= .ok (.round b R.fn (GO (R.params.toList.zip (args.map a.eval)) R.tmps) R.assign R.body) w:=by
  unfold GG at hco;split at hco
  ·rename_i f' args' ats heq;cases hco;have hsz:(args'.map a.eval).size=(R.at s jj).params.size:=by
    show _=R.params.size;rw[<-hyp,hyl];simp
   have hy:=run_yield (P:=K.P) hh hsz;unfold execOp;rw[heq];simp only[resolve,hcv,Deferred.ofValue,Sem.run_bind,Sem.run_pure,Result.andThen_ok,invoke];have e0:(#[]:Array Value)++args'.map a.eval=args'.map a.eval:=by simp
   first|rw[e0]|skip
   rw[hy]
   congr 2
   rw[qNF];simp[JB.at]
  ·cases hco
 rw[hrun,Oper.uponIn_round];refine⟨qCo,?_⟩;have hr:=hct w Mi (args.map a.eval).toArray (ts.map λt=>R.tmps.getD t undef).toArray (by rw[<-hyp,hyl];simp) (by simp) hcapg hgl hinok hargs;have hr2:RoundIn K.F (0-1) K.P b R.fn (GO (R.params.toList.zip (args.map a.eval)) R.tmps) R.assign R.body w _:=hr;refine RoundIn.mono hr2 ?_;rintro e w' ⟨v,R',rfl,hbel,hshape,hret⟩;obtain⟨M',h1,h2,h3,h4⟩:=hfin v R' w' hbel hshape hret;exact⟨v,M',rfl,h1,h2,h3,h4⟩
end Go.SL

namespace Go.SL
open Go.RowKit
structure RI (nt:Nat) where
 fn:FuncId
 T:Array Value
 D:Nat
 b:Nat
 hT:T.size=nt
def psOf :Code->Array Tmp
 | .rangeFunc _ ps _ _=>ps
 |_=> #[]
def rc {nt:Nat} (f:Func) (nn:Nat) (ri:RI nt):JB:=⟨ri.fn,ri.T,psOf (nd f nn),nd f (2*nn),nd f (2*nn+1),ri.D⟩
def AA (st:St):List Nat->Option (List V1)
 |[]=>some []
 |t::r=>match look t st.slots,AA st r with|some (.v x),some xs=>some (x::xs)|_,_=>none
theorem qNv {st:St} (ts:List Nat) (o:List (Nat×(Nat×O))):AA ⟨st.slots,o⟩ ts=AA st ts:=by
 induction ts with
 |nil=>rfl
 |cons t r ih=>simp only[AA,ih]
theorem qGR {K:Ctx} {M:Mem} {st:St} {a:Act} {w:World} (h:Sim K M st a w):∀{ts:List Nat} {xs:List V1},AA st ts=some xs->xs.length=ts.length/\∀j,j<xs.length->zC w M (xs.getD j (.one .unk)) (a.tmps.getD (ts.getD j 0) undef)
 |[],_,hr=>by cases hr;exact⟨rfl,λj hj=>absurd hj (uc j)⟩
 |t::r,xs,hr=>by
  simp only[AA] at hr;split at hr
  ·rename_i x xs' h1 h2;cases hr;obtain⟨i1,i2⟩:=qGR h h2;refine⟨by simp[i1],λj hj=>?_⟩;cases j with
   |zero=>exact h.slots t _ h1
   |succ j=>simpa using i2 j (by simpa using hj)
  ·cases hr
def rfIn (gl:List (Nat×C)) (st:St) (R:JB) (b:Nat) (g:Operand) (ts:List Nat) (lid:Nat) (ren:List (Nat×Nat)):Option (FuncId×List V1×Option Prop×Bool×List (Nat×(Nat×O))):=
 match op1 gl st g,AA st ts with
 |some (.one (.fn f caps)),some ys=>(match qBW ys with
  |some tcs=>(match PY ⟨st.slots,(lid,(0,.lp R b .ready none))::st.objs⟩ ren 0 ren,UC ⟨st.slots,(lid,(0,.lp R b .ready none))::st.objs⟩ ren (.one (.yl R b ts tcs)::caps.map V1.one) with
   |some oi,some (xs,p,bb)=>some (f,xs,p,bb,oi)
   |_,_=>none)
  |none=>none)
 |_,_=>none
theorem qNa {gl:List (Nat×C)} {st:St} {R:JB} {b:Nat} {g:Operand} {ts:List Nat} {lid:Nat} {ren:List (Nat×Nat)} {f:FuncId} {xs:List V1} {p:Option Prop} {bb:Bool} {oi:List (Nat×(Nat×O))} (h:rfIn gl st R b g ts lid ren=some (f,xs,p,bb,oi)):
  ∃caps ys tcs,op1 gl st g=some (.one (.fn f caps))/\AA st ts=some ys/\qBW ys=some tcs/\PY ⟨st.slots,(lid,(0,.lp R b .ready none))::st.objs⟩ ren 0 ren=some oi/\UC ⟨st.slots,(lid,(0,.lp R b .ready none))::st.objs⟩ ren (.one (.yl R b ts tcs)::caps.map V1.one)=some (xs,p,bb):=by
 unfold rfIn at h;split at h
 ·rename_i f' caps ys h1 h2;split at h
  ·rename_i tcs h3;split at h
   ·rename_i oi' xs' p' bb' h4 h5;cases h;exact⟨caps,ys,tcs,h1,h2,h3,h4,h5⟩
   ·cases h
  ·cases h
 ·cases h
def JQ (K:Ctx) (js:List Code) (cd:Nat) (want:St) (Q:Exit->St->Prop):Prop:=match lpJ js cd with|none=>Q .normal want|some j=>H K want j Q
theorem JQ_n {K:Ctx} {js:List Code} {cd:Nat} {want:St} {Q:Exit->St->Prop} (h:Nat.beq cd 0=true) (hq:Q .normal want):JQ K js cd want Q:=by
 unfold JQ lpJ;rw[h];exact hq
theorem JQ_j {K:Ctx} {js:List Code} {cd:Nat} {want:St} {Q:Exit->St->Prop} (i:Nat) (j:Code) (h:Nat.beq cd (i+1)=true) (hj:js[i]? =some j) (hq:H K want j Q):JQ K js cd want Q:=by
 have:=ki h;subst this;unfold JQ lpJ;have e:Nat.beq (i+1) 0=false:=rfl;rw[e];simp only[kp,Nat.add_sub_cancel,hj];exact hq
theorem qLh {K:Ctx} {st:St} {Q:Exit->St->Prop} {c:Code} (fn0:Func) (nn:Nat) (g:Operand) (hc:c= .rangeFunc g (psOf (nd fn0 nn)) (nd fn0 (2*nn)) (nd fn0 (2*nn+1))) (hr:K.rnd=none) (hnod:nodOf K.globs=false)
  {f:FuncId} (ts:List Nat) (lid:Nat) (ren:List (Nat×Nat)) (outs:List Nat) (c0 m:Nat) (js:List Code) (cd kl:Nat) {x:V} (want:St) {xs:RI K.nt->List V1} {oi ob:RI K.nt->List (Nat×(Nat×O))}
  (hin:∀ri,rfIn K.globs st (rc fn0 nn ri) ri.b g ts lid ren=some (f,xs ri,none,true,oi ri))
  (hfree:(st.freeB [(lid,0)]&&Nat.ble K.m lid)=true) (hct:∀ri,CtX K.P K.globs f ren.length m (xs ri) (oi ri) x (ob ri)) (hfn:fnOk K.P f=true)
  (hok:∀ri,(Out.ok ⟨ren,outs,c0⟩ m (ob ri)&&(x.closed (ob ri)&&(ob ri).all (λq=>q.2.2.closed (ob ri))))=true)
  (hnv:∀ri,(nvOk (PH ⟨ren,outs,c0⟩ m (ob ri)) (ZM ⟨ren,outs,c0⟩ (ob ri))&&(RG K.m (PH ⟨ren,outs,c0⟩ m (ob ri))&&(St.mk st.slots ((lid,(0,.lp (rc fn0 nn ri) ri.b .ready none))::st.objs)).freeB (PH ⟨ren,outs,c0⟩ m (ob ri))))=true)
  (hlp:∀ri,look lid (ZM ⟨ren,outs,c0⟩ (ob ri))=some (kl,.lp (rc fn0 nn ri) ri.b (lpS cd) (lpJ js cd)))
  (hw:∀ri,Sub want (St.rev ⟨st.slots,(lid,(kl,.lp (rc fn0 nn ri) ri.b .exhausted (lpJ js cd)))::(ZM ⟨ren,outs,c0⟩ (ob ri)++(lid,(0,.lp (rc fn0 nn ri) ri.b .ready none))::st.objs)⟩))
  (hk:JQ K js cd want Q):H K st c Q:=by
 subst hc;intro M a w hs;refine wpIn_rangeFunc λfid _=>?_
 let ri:RI K.nt:=⟨fid,a.tmps,w.heap.size,w.heap.size+1,hs.1.size⟩
 obtain⟨caps,ys,tcs,hg,hys,htc,hoi,hia⟩:=qNa (hin ri);obtain⟨capv,hcv,hcs,hcr⟩:=op1_rep hs.1 hg;rw[ko] at hfree
 -- the record is laid
 let w1:=(w.alloc (.deferred (some []))).alloc (.loop ((rc fn0 nn ri).at .ready none))
 have hw1s:w1.heap.size=w.heap.size+2:=by simp[w1,World.size_alloc]
 have hold:∀b,b<w.heap.size->w1.heap[b]? =w.heap[b]? :=λb hb=>by
  simp only[w1,World.alloc];rw[Array.getElem?_push_lt (by simp;omega),Array.getElem_push_lt hb,kC hb]
 have hD:w1.heap[w.heap.size]? =some (.deferred (some [])):=by
  simp only[w1,World.alloc];rw[Array.getElem?_push_lt (by simp),Array.getElem_push_eq]
 have hB:w1.heap[w.heap.size+1]? =some (.loop ((rc fn0 nn ri).at .ready none)):=by
  have:=World.alloc_heap_new (w.alloc (.deferred (some []))) (.loop ((rc fn0 nn ri).at .ready none));rw[World.size_alloc] at this;exact this
 have hext:Ext (drOf K.globs) M w (M.put lid 0 (some (w.heap.size+1))) w1 (hits [(lid,(0,.lp (rc fn0 nn ri) (w.heap.size+1) .ready none))]) (zL [(lid,0)]):=
  Ext.put hs.1 (λb' e=>by cases e;exact⟨by omega,.inl (by omega)⟩) (λb hb _=>hold b hb) (λb arr e hb=>⟨arr,by rw[hold b (kZ.1 hb).1];exact hb,rfl⟩) (by omega) rfl rfl rfl
 have hsim1:=hs.step (dst:=none) (x:= .any) (v:=undef) hext trivial (λi k o hl=>by
   obtain⟨rfl,rfl,rfl⟩:=ZC hl;exact⟨by simp[Mem.put],by simp[Mem.put],hB⟩) (λi hi=>by
   simp only[Mem.put] at hi;split at hi
   ·rename_i e;exact .inr (hits_one.2 e)
   ·exact .inl hi) (by simp[nvOk,hits,look]) (St.free_of hfree.1) (by simpa[RG] using hfree.2) (λd hd=>by cases hd)
 have hdef:qAN w1 (M.put lid 0 (some (w.heap.size+1))) K.w0.heap.size ({target:= .collected w.heap.size,args:= #[]}::a.defers):=by
  refine⟨λd hd=>?_,uN.2 ⟨λd hd=>?_,hsim1.1.defers.1.2⟩⟩
  ·rcases ud.1 hd with rfl|hd
   ·refine⟨w.heap.size,rfl,hs.1.below.size,hD,fun⟨i,k,hv,hb⟩=>?_⟩;simp only[Mem.put] at hv hb;split at hb
    ·have:=kF hb;omega
    ·rename_i hne;rw[if_neg hne] at hv;have:=(hs.1.rng i k _ hv hb).2;omega
   ·exact hsim1.1.defers.1.1 d hd
  ·rintro rfl;obtain⟨E,he,_,h3,_⟩:=hs.1.defers.1.1 _ hd;cases he;have:=(kZ.1 h3).1;omega
 have hsim2:Sim1 K (M.put lid 0 (some (w.heap.size+1))) ⟨st.slots,(lid,(0,.lp (rc fn0 nn ri) ri.b .ready none))::st.objs⟩ {a with defers:={target:= .collected w.heap.size,args:= #[]}::a.defers} w1:=
  ⟨⟨hsim1.1.inj,hsim1.1.rng,hsim1.1.fix,hsim1.1.below,hsim1.1.shape,hsim1.1.area,hsim1.1.size,⟨hdef,λq=>by rw[hnod] at q;cases q⟩,hsim1.1.slots,hsim1.1.objs⟩,hsim1.2⟩
 obtain⟨capv2,hcv2,hcs2,hcr2⟩:=op1_rep hsim2.1 (show op1 K.globs ⟨st.slots,(lid,(0,.lp (rc fn0 nn ri) ri.b .ready none))::st.objs⟩ g=some (.one (.fn f caps)) from by rw[<-hg];rfl);have hcv3:capv2=capv:=by
  have e:a.eval g=({a with defers:={target:= .collected w.heap.size,args:= #[]}::a.defers}:Act).eval g:=rfl;rw[e,hcv2] at hcv;cases hcv;rfl
 subst hcv3;obtain⟨hyl,hyr⟩:=qGR hsim2.1 (ts:=ts) (xs:=ys) (by rw[<-hys];exact qNv _ _);obtain⟨htl,htr⟩:=qAJ (w:=w1) (M:=M.put lid 0 (some (w.heap.size+1))) htc;have hyv:CRep w1 (M.put lid 0 (some (w.heap.size+1))) (.yl (rc fn0 nn ri) ri.b ts tcs) (.func (.yield (w.heap.size+1)) #[] #[]):=⟨rfl,λj hj=>htr j _ (by omega) (hyr j (by omega))⟩
 have hvals:=qE5 (w:=w1) (M:=M.put lid 0 (some (w.heap.size+1))) (ys:=[.one (.yl (rc fn0 nn ri) ri.b ts tcs)]) (caps0:=caps) (l:=[.func (.yield (w.heap.size+1)) #[] #[]]) (cap:=capv2) rfl (λj hj=>by
  obtain rfl:j=0:=by simp at hj;omega
  exact hyv) hcr2
 obtain⟨Mi,hgl,hinok,hargs,hfin⟩:=qAE (c:=c0) (outs:=outs) (x:=x) (ob:=ob ri) (m:=m) hsim2.1 hoi (p:=none) (b:=true) (xs':=xs ri) hia o0 (ys:=[.one (.yl (rc fn0 nn ri) ri.b ts tcs)]++caps.map V1.one) (vals:=[Value.func (.yield (w.heap.size+1)) #[] #[]].toArray++capv2) (by simp[hcs2];omega) hvals (hok ri) (.inl rfl);obtain⟨fn,hff,hfn⟩:∃fn,K.P.funcs[f]? =some fn∧(fn.body.isSome&&!(fn.name== "runtime.NumGoroutine"))=true:=by
  unfold fnOk at hfn;split at hfn
  ·rename_i fn hff;exact⟨fn,hff,hfn⟩
  ·cases hfn
 rw[ko] at hfn;obtain⟨cbody,hcb⟩:=kM.1 hfn.1;have hnm:¬fn.name= "runtime.NumGoroutine" :=by simpa using hfn.2
 have hF:K.F.round=none:=by unfold Ctx.F SJ;exact hr
 refine⟨w.heap.size+1,[{target:= .collected w.heap.size,args:= #[]}],w1,{target:= .fn (.func f) capv2,args:= #[.func (.yield (w.heap.size+1)) #[] #[]]},w1,f, #[.func (.yield (w.heap.size+1)) #[] #[]]++capv2,w1,?_,?_,λ_ _=>trivial,?_,qCo,?_⟩
 ·rw[hF,run_enterLoop_outer];rfl
 ·have e1:(#[.const (.func (.yield (w.heap.size+1)) #[] #[])]:Array Operand).map a.eval= #[.func (.yield (w.heap.size+1)) #[] #[]]:=by simp[Act.eval]
  simp only[resolve,rangeCall,e1,hcv,Deferred.ofValue];rfl
 ·simp[invoke,callFunc,hff,hnm,hcb]
 ·refine qGI.2 (Calls.mono (hct ri w1 Mi _ hgl hinok hargs) ?_);rintro e w3 ⟨v,R',rfl,hbel,hshape,hret⟩;obtain⟨M',h1,h2,h3,h4⟩:=hfin v R' w3 hbel hshape hret;have hn:=hnv ri;rw[ko,ko] at hn;have hsim3:=hsim2.step (dst:=none) (x:= .any) (v:=undef) h1 trivial h3 h4 hn.1 (St.free_of hn.2.2) hn.2.1 (λd hd=>by cases hd);have hl3:look lid (ZM ⟨ren,outs,c0⟩ (ob ri)++(lid,(0,.lp (rc fn0 nn ri) ri.b .ready none))::st.objs)=some (kl,.lp (rc fn0 nn ri) ri.b (lpS cd) (lpJ js cd)):=by
   rw[SY,hlp ri];rfl
  obtain⟨_,_,hh⟩:=hsim3.1.objs lid kl _ hl3;have hset:=(hsim3.setLp hl3 .exhausted (lpJ js cd)).rev.sub (hw ri);refine⟨lpJ js cd,_,run_endLoop hh (by show lpS cd≠ .busy;unfold lpS;cases Nat.beq cd 0<;>simp),?_⟩;unfold JQ at hk;generalize hjj:lpJ js cd=jj at hk hset;cases jj with
  |none=>exact⟨_,want,hk,hset⟩
  |some j=>exact hk _ _ _ hset
end Go.SL

namespace Go.SL
theorem lpz_t {js:List Code} {c:Nat} (h:Nat.beq c 0=true):lpS c= .ready/\lpJ js c=none:=by
 unfold lpS lpJ;rw[h];exact⟨rfl,rfl⟩
theorem qG3 {js:List Code} {c:Nat} (h:(!(Nat.beq c 0))=false):lpS c= .ready/\lpJ js c=none:=lpz_t (by simpa using h)
def lq (R:JB) (b:Nat):Nat×O:=(0,.lp R b .ready none)
def ly (R:JB) (b:Nat):Nat×O:=(0,.lp R b .busy none)
def lz (R:JB) (b:Nat) (js:List Code) (c:Nat):Nat×O:=(0,.lp R b (lpS c) (lpJ js c))
theorem IT {K:Ctx} (st:St) (op:Oper) (ren:List (Nat×Nat)) (outs:List Nat) (c lid:Nat) {R:JB} {b:Nat} {ts:List Nat} {m:Nat} {xs' xs:List V1} {p:Option Prop} {bb:Bool} {oi:List (Nat×(Nat×O))} {x:V} {ob:List (Nat×(Nat×O))} (hp:oP p) (hxs:xs'=xs) (hct:CtR K.P K.globs R b ts ren.length m xs oi x ob) (hb:bb=true\/(x.noLst=true/\US ob))
  (hin:(ylIn K.globs st ren lid op.op,look lid st.objs,Out.ok ⟨ren,outs,c⟩ m ob&&(x.closed ob&&ob.all (λq=>q.2.2.closed ob)))=(some (R,b,ts,xs',p,bb,oi),some (0,.lp R b .ready none),true)):
  Step K st op (PH ⟨ren,outs,c⟩ m ob) (ZM ⟨ren,outs,c⟩ ob) (x.out ⟨ren,outs,c⟩):=by
 simp only[Prod.mk.injEq] at hin;exact qMe hin.1 hin.2.1 hp hxs hct hin.2.2 hb
theorem q_rf {K:Ctx} {st:St} {Q:Exit->St->Prop} {fn:Func} {n:Nat} (g:Operand) {f:FuncId} (ts:List Nat) (lid:Nat) (ren:List (Nat×Nat)) (outs:List Nat) (c0 m:Nat) (js:List Code) (cd kl:Nat) {x:V} (want:St) {xs:RI K.nt->List V1} {oi ob:RI K.nt->List (Nat×(Nat×O))}
  (hct:∀ri,CtX K.P K.globs f ren.length m (xs ri) (oi ri) x (ob ri)) (hk:JQ K js cd want Q)
  (hc:nd fn n= .rangeFunc g (psOf (nd fn n)) (nd fn (2*n)) (nd fn (2*n+1)):=by kernel_rfl) (hr:K.rnd=none:=by exact rfl) (hnod:nodOf K.globs=false:=by kernel_rfl)
  (hin:∀ri,rfIn K.globs st (rc fn n ri) ri.b g ts lid ren=some (f,xs ri,none,true,oi ri):=by intro ri;kernel_rfl)
  (hfree:(st.freeB [(lid,0)]&&Nat.ble K.m lid)=true:=by kernel_rfl) (hfn:fnOk K.P f=true:=by kernel_rfl)
  (hok:∀ri,(Out.ok ⟨ren,outs,c0⟩ m (ob ri)&&(x.closed (ob ri)&&(ob ri).all (λq=>q.2.2.closed (ob ri))))=true:=by intro ri;kernel_rfl)
  (hnv:∀ri,(nvOk (PH ⟨ren,outs,c0⟩ m (ob ri)) (ZM ⟨ren,outs,c0⟩ (ob ri))&&(RG K.m (PH ⟨ren,outs,c0⟩ m (ob ri))&&(St.mk st.slots ((lid,(0,.lp (rc fn n ri) ri.b .ready none))::st.objs)).freeB (PH ⟨ren,outs,c0⟩ m (ob ri))))=true:=by intro ri;kernel_rfl)
  (hlp:∀ri,look lid (ZM ⟨ren,outs,c0⟩ (ob ri))=some (kl,.lp (rc fn n ri) ri.b (lpS cd) (lpJ js cd)):=by intro ri;kernel_rfl)
  (hw1:∀ri,want.slots.map (λp=>look p.1 (St.rev ⟨st.slots,(lid,(kl,.lp (rc fn n ri) ri.b .exhausted (lpJ js cd)))::(ZM ⟨ren,outs,c0⟩ (ob ri)++(lid,(0,.lp (rc fn n ri) ri.b .ready none))::st.objs)⟩).slots)=want.slots.map λp=>some p.2:=by intro ri;kernel_rfl)
  (hw2:∀ri,want.objs.map (λp=>look p.1 (St.rev ⟨st.slots,(lid,(kl,.lp (rc fn n ri) ri.b .exhausted (lpJ js cd)))::(ZM ⟨ren,outs,c0⟩ (ob ri)++(lid,(0,.lp (rc fn n ri) ri.b .ready none))::st.objs)⟩).objs)=want.objs.map λp=>some p.2:=by intro ri;kernel_rfl):H K st (nd fn n) Q:=
 qLh fn n g hc hr hnod ts lid ren outs c0 m js cd kl want hin hfree hct hfn hok hnv hlp (λri=>⟨hw1 ri,hw2 ri⟩) hk
theorem q_rd {K:Ctx} {nt:Nat} {fn:Func} {nn:Nat} {ri:RI nt} {js:List Code} {c:Nat} {ob2:List (Nat×(Nat×O))} {st:St} (want:St) (h:H K want (nd fn (2*nn+1)) (qJB (rc fn nn ri) ri.b js c ob2)) (k:Nat:=0) (hl:look 0 st.objs=some (k,.lp (rc fn nn ri) ri.b .ready none):=by kernel_rfl)
  (h1:want.slots.map (λp=>look p.1 (St.rev ⟨st.slots,(0,(k,.lp (rc fn nn ri) ri.b .busy none))::st.objs⟩).slots)=want.slots.map λp=>some p.2:=by kernel_rfl)
  (h2:want.objs.map (λp=>look p.1 (St.rev ⟨st.slots,(0,(k,.lp (rc fn nn ri) ri.b .busy none))::st.objs⟩).objs)=want.objs.map λp=>some p.2:=by kernel_rfl):RdH K (rc fn nn ri) ri.b js c ob2 st:=
 ⟨k,hl,H_sub want ⟨h1,h2⟩ h⟩
theorem q_rq {R:JB} {b:Nat} {js:List Code} {c:Nat} {ob2:List (Nat×(Nat×O))} {e:Exit} {st:St} (h1:qM1 e=some (lpJ js c):=by kernel_rfl) (h2:Nat.beq c 0=(lpJ js c).isNone:=by kernel_rfl) (h3:look 0 st.rev.objs=some (0,.lp R b .busy none):=by kernel_rfl)
  (h4:ob2.map (λp=>look p.1 ((0,(0,.lp R b (lpS c) (lpJ js c)))::st.rev.objs))=ob2.map (λp=>some p.2):=by kernel_rfl):qJB R b js c ob2 e st:=⟨h1,h2,h3,h4⟩
end Go.SL

namespace Go.SL
open Go.RowKit
end Go.SL

namespace Go.SL
open Go.RowKit
end Go.SL

namespace Go.SL
open Go.RowKit Go.ChangeShapes Go.WideShapes
end Go.SL

namespace Go.SL
open Go.RowKit
theorem R_ul {K:Ctx} {st:St} {c:Code} {Q:Exit->St->Prop} (x:Code) (bid n:Nat) (h:HL K x (EG bid Q) n st) (hc:c= .block bid (.loop x):=by kernel_rfl):H K st c Q:=hc▸qEb (qKg n h)
theorem sum_c {α β γ:Type} {f:α->Option γ} {g:β->Option γ} {v:α⊕β} {r:γ} (h:Sum.elim f g v=some r):(∃a,v= .inl a/\f a=some r)\/(∃b,v= .inr b/\g b=some r):=by
 cases v with
 |inl a=>exact .inl ⟨a,rfl,h⟩
 |inr b=>exact .inr ⟨b,rfl,h⟩
def qGP :List Value->Option (List V1)
 |[]=>some []
 |v::r=>match qG1 v,qGP r with|some (.v x),some l=>some (x::l)|_,_=>none
theorem qGs {w:World} {M:Mem}:∀{vs:List Value} {l:List V1},qGP vs=some l->l.length=vs.length/\∀j,j<l.length->zC w M (l.getD j (.one .unk)) (vs.getD j undef)
 |[],l,h=>by cases h;exact⟨rfl,λj hj=>absurd hj (uc j)⟩
 |v::r,l,h=>by
  unfold qGP at h;split at h
  ·rename_i x l' hv hl;cases h;obtain⟨i1,i2⟩:=qGs (w:=w) (M:=M) hl;refine⟨by simp[i1],λj hj=>?_⟩;cases j with
   |zero=>exact qHa (w:=w) (M:=M) hv
   |succ j=>exact i2 j (by simpa using hj)
  ·cases h
def qHk (gl:List (Nat×C)) (st:St) (op:Op):Option (FuncId×List V1×Option Prop×Bool):=
 match GG op with
 |some (fo,args)=>(match op1 gl st fo,opsV gl st args with
  |some (.one (.val (.func (.func f) fs ⟨[]⟩))),some ys=>(match qGP fs.toList with
   |some zs=>(match UC st [] (zs++ys) with|some (xs,p,b)=>some (f,xs,p,b)|none=>none)
   |none=>none)
  |_,_=>none)
 |none=>none
theorem qOp {P:Program} {o:Oper} {fo:Operand} {args:List Operand} {a:Act} {w:World} {Kn:Act→World→Prop} {Q:Exit→Act→World→Prop} (ho:GG o.op=some (fo,args)) {f:FuncId} {fs:Array Value} (hv:a.eval fo= .func (.func f) fs #[]) {fn:Func} (hf:P.funcs[f]? =some fn) (hbody:fn.body.isSome=true) (hname:(fn.name== "runtime.NumGoroutine")=false)
  (h:Calls P f (fs++(args.map a.eval).toArray) w λe w'=>∃v,e= .returned v/\Kn (a.put o.dst v) w'):o.wp P a w Kn Q:=by
 unfold GG at ho;split at ho
 ·rename_i f' args' ats heq;cases ho;unfold Oper.wp;have hrun:(execOp a.eval o).run P w= .ok (.enter f (fs++args'.map a.eval)) w:=by
   unfold execOp;rw[heq];obtain⟨c,hc⟩:=kM.1 hbody;have hn:¬fn.name= "runtime.NumGoroutine" :=by simpa using hname
   simp[resolve,Deferred.ofValue,hv,invoke,callFunc,hf,hn,hc]
  rw[hrun];have hargs:(args'.toList.map a.eval).toArray=args'.map a.eval:=by apply uv.1;simp
  rw[hargs] at h;refine Calls.mono h ?_;rintro e w' ⟨v,rfl,hk⟩;exact hk
 ·cases ho
theorem qMj {K:Ctx} {st:St} {op:Oper} {f:FuncId} {c m:Nat} {xs' xs:List V1} {p:Option Prop} {b:Bool} {x:V} {ob:List (Nat×(Nat×O))}
  (hin:qHk K.globs st op.op=some (f,xs',p,b)) (hp:oP p) (hxs:xs'=xs) (hct:CtX K.P K.globs f 0 m xs [] x ob) (hfn:fnOk K.P f=true)
  (hok:(Out.ok ⟨[],[],c⟩ m ob&&(x.closed ob&&ob.all (λq=>q.2.2.closed ob)))=true) (hb:b=true\/(x.noLst=true/\US ob)):
  Step K st op (PH ⟨[],[],c⟩ m ob) (ZM ⟨[],[],c⟩ ob) (x.out ⟨[],[],c⟩):=by
 subst hxs;unfold qHk at hin;split at hin
 ·rename_i fo args hco;split at hin
  ·rename_i f' fs ys hfo hys;split at hin
   ·rename_i zs hzs;split at hin
    ·rename_i xs2 p2 b2 hia;cases hin;refine ZT (AF hco) ?_;intro M a w h _;have hcv:a.eval fo= .func (.func f) fs #[]:=IRep.val_eq (op1_rep h hfo);obtain⟨hyl,hyr⟩:=TL h hys;obtain⟨hzl,hzr⟩:=qGs (w:=w) (M:=M) hzs;have hzl':zs.length=fs.size:=by simpa using hzl
     obtain⟨Mi,hgl,hinok,hargs,hfin⟩:=qAE (c:=c) (outs:=[]) (ren:=[]) h (by rfl) hia hp (vals:=fs++(args.map a.eval).toArray) (by simp[hyl,hzl']) (λj hj=>by
      by_cases hl:j<zs.length
      ·have e1:(zs++ys).getD j (.one .unk)=zs.getD j (.one .unk):=by simp[kd,kz hl]
       have e2:(fs++(args.map a.eval).toArray).getD j undef=fs.toList.getD j undef:=by
        simp[kq,kd,uz (show j<fs.size by omega)]
       rw[e1,e2];exact hzr j hl
      ·have hl':zs.length<=j:=by omega
       have e1:(zs++ys).getD j (.one .unk)=ys.getD (j-zs.length) (.one .unk):=by simp[kd,ky hl']
       have e2:(fs++(args.map a.eval).toArray).getD j undef=(args.map a.eval).getD (j-zs.length) undef:=by
        simp[kq,kd,uT (show fs.size<=j by omega),hzl']
       rw[e1,e2];exact hyr _ (by simp at hj;omega)) hok hb
     obtain⟨fn,hff,hfn⟩:∃fn,K.P.funcs[f]? =some fn∧(fn.body.isSome&&!(fn.name== "runtime.NumGoroutine"))=true:=by
      unfold fnOk at hfn;split at hfn
      ·rename_i fn hff;exact⟨fn,hff,hfn⟩
      ·cases hfn
     rw[ko] at hfn;refine qOp hco hcv hff hfn.1 (by simpa using hfn.2) (Calls.mono (hct w Mi _ hgl hinok hargs) ?_);rintro e w' ⟨v,R,rfl,hbel,hshape,hret⟩;obtain⟨M',h1,h2,h3,h4⟩:=hfin v R w' hbel hshape hret;exact⟨v,rfl,v,M',rfl,h1,h2,h3,h4⟩
    ·cases hin
   ·cases hin
  ·cases hin
 ·cases hin
theorem callV {K:Ctx} (st:St) (op:Oper) (c:Nat) {f:FuncId} {m:Nat} {xs' xs:List V1} {p:Option Prop} {b:Bool} {x:V} {ob:List (Nat×(Nat×O))} (hp:oP p) (hxs:xs'=xs) (hct:CtX K.P K.globs f 0 m xs [] x ob) (hb:b=true\/(x.noLst=true/\US ob))
  (hin:(qHk K.globs st op.op,fnOk K.P f,Out.ok ⟨[],[],c⟩ m ob&&(x.closed ob&&ob.all (λq=>q.2.2.closed ob)))=(some (f,xs',p,b),true,true)):
  Step K st op (PH ⟨[],[],c⟩ m ob) (ZM ⟨[],[],c⟩ ob) (x.out ⟨[],[],c⟩):=by
 simp only[Prod.mk.injEq] at hin;exact qMj hin.1 hp hxs hct hin.2.1 hin.2.2 hb
def updL {α:Type} [Inhabited α] (l:List α) (i:Nat) (f:α->α):List α:=l.set i (f (l.getD i du))
theorem qW {α:Type} [Inhabited α] {l:List α} {n i:Nat} {f:α->α} (h:l.length=n):(updL l i f).length=n:=by unfold updL;rw[List.length_set,h]
theorem stU {α:Type} [Inhabited α] (enc:α->List C) (f:α->α) (l:List α) (n i j:Nat) (xs:List C) (hn:l.length=n) (hi:i<n) (hx:∀x,enc (f x)=ZA (enc x) j xs):i<n/\∀m,m<n->rowf enc du (updL l i f) m=if m=i then ZA (rowf enc du l i) j xs else rowf enc du l m:=
 stP enc du _ l n i j xs hn hi (hx _)
end Go.SL

namespace Go.SL
open Go.RowKit Go.ChangeShapes Go.WideShapes
def EM (P:Program):List Field->Nat
 |[]=>0
 |f::r=>P.cellsOf f.type+EM P r
structure qGL (P:Program) (fs:List Field) (off:Nat) {T:Type} (e:T->List C) (wf:T->Prop) (D:∀H:Type,List (DataW H)->T->Prop):Prop where
 sz:∀r,(e r).length=EM P fs
 rd:∀(H:Type) (enc:TypeId×Value->H) (w:World) (held:Bool) (fuel:Nat) (cs:List Value) (xs:List (DataW H×List MemPlace)),xs.length=fs.length->(∀(i:Nat) (f:Field),fs[i]? =some f->DataW.trod enc P w 0 (λ_=>true) held fuel f.type ((cs.drop f.offset).take (P.cellsOf f.type))=xs[i]?)->
  ∃r,wf r/\Rc w (e r) ((cs.drop off).take (EM P fs))/\D H (xs.map (·.1)) r
def RQ (H:Type) (ds:List (DataW H)) (_:Unit):Prop:=ds=[]
def zP {T0 T1:Type} (D0:∀H:Type,DataW H->T0->Prop) (D1:∀H:Type,List (DataW H)->T1->Prop) (H:Type) (ds:List (DataW H)) (r:T0×T1):Prop:=∃d rest,ds=d::rest/\D0 H d r.1/\D1 H rest r.2
def NC {T:Type} (D:∀H:Type,List (DataW H)->T->Prop) (H:Type) (d:DataW H) (r:T):Prop:=∃ds,d= .agg ds/\D H ds r
def NS {T S:Type} (g:T->S) (D:∀H:Type,DataW H->T->Prop) (H:Type) (d:DataW H) (s:S):Prop:=∃r,g r=s/\D H d r
theorem GC {P:Program} (off:Nat):qGL P [] off (λ_:Unit=>[]) (λ_=>True) RQ:=
 ⟨λ_=>rfl,λH enc w held fuel cs xs hl _=>⟨(),trivial,⟨by simp[EM],λj hj=>by simp at hj⟩,by rw[RQ];simpa using hl⟩⟩
theorem zR {P:Program} {f:Field} {fs:List Field} {off off':Nat} {T0 T1:Type} {e0:T0->List C} {e1:T1->List C} {wf0:T0->Prop} {wf1:T1->Prop} {D0:∀H:Type,DataW H->T0->Prop} {D1:∀H:Type,List (DataW H)->T1->Prop}
  (h0:yI P f.type e0 wf0 D0) (h1:qGL P fs off' e1 wf1 D1) (ho:f.offset=off) (ho':off+P.cellsOf f.type=off'):qGL P (f::fs) off (λr:T0×T1=>e0 r.1++e1 r.2) (λr=>wf0 r.1/\wf1 r.2) (zP D0 D1):=by
 refine⟨λr=>by rw[kD,h0.sz,h1.sz];rfl,λH enc w held fuel cs xs hl hf=>?_⟩
 match xs,hl with
 |x::xs,hl=>
  have k0:=hf 0 f rfl;rw[List.getElem?_cons_zero] at k0;obtain⟨r0,w0,c0,d0⟩:=h0.rd _ _ _ _ _ _ _ k0;obtain⟨r1,w1,c1,d1⟩:=h1.rd H enc w held fuel cs xs (by simpa using hl) (λi f' hi=>by
   have:=hf (i+1) f' (by simpa using hi);simpa using this)
  refine⟨(r0,r1),⟨w0,w1⟩,?_,⟨x.1,xs.map (·.1),rfl,d0,d1⟩⟩;have:=c0.append c1;rw[ho] at this;have e:(cs.drop off).take (P.cellsOf f.type)++(cs.drop off').take (EM P fs)=(cs.drop off).take (EM P (f::fs)):=by
   rw[<-ho',<-List.drop_drop,EM,List.take_add]
  rwa [e] at this
theorem yR {P:Program} {t:TypeId} {fs:Array Field} {T:Type} {e:T->List C} {wf:T->Prop} {D:∀H:Type,List (DataW H)->T->Prop} (ht:P.underlying t=some (.struct fs)) (h:qGL P fs.toList 0 e wf D) (hs:P.cellsOf t=EM P fs.toList):yI P t e wf (NC D):=by
 refine⟨λr=>by rw[h.sz,hs],λH enc w held fuel cs x hx=>?_⟩;obtain⟨xs,n,_,rfl,hl,hlen,hf⟩:=DataW.trod_struct ht hx;obtain⟨r,h1,h2,h3⟩:=h.rd H enc w held n cs xs (by simpa using hlen) (λi f hi=>hf i f (by simpa using hi));refine⟨r,h1,?_,⟨_,rfl,h3⟩⟩;rw[List.drop_zero,List.take_of_length_le (by omega)] at h2;exact h2
theorem ZN {P:Program} {t:TypeId} {T S:Type} {e:T->List C} {wf:T->Prop} {D:∀H:Type,DataW H->T->Prop} (h:yI P t e wf D) (g:T->S) {e':S->List C} {wf':S->Prop} (he:∀r,e' (g r)=e r) (hsz:∀s,(e' s).length=P.cellsOf t) (hw:∀r,wf r->wf' (g r)):yI P t e' wf' (NS g D):=
 qNm h g he hsz hw (λ_ _ r hd=>⟨r,rfl,hd⟩)
def strok (s:ByteArray):Prop:=s.size<=maxLen
def qEU (H:Type) (d:DataW H) (s:ByteArray):Prop:=d= .lit (.string s.data.toList)
theorem qKP {P:Program} {t:TypeId} (ht:P.underlying t=some .string) (hc:P.cellsOf t=1):yI P t e_str strok qEU:=by
 refine⟨λ_=>hc.symm,λH enc w held fuel cs x h=>?_⟩;obtain⟨s,rfl,rfl,hs⟩:=DataW.trod_string ht h;exact⟨s,hs,Rc.one (.val _ rfl),rfl⟩
end Go.SL

namespace Go.SL
end Go.SL

/- Z1: the machine: the control by computation; what is written is the script of what is asked alone. -/
import Derived.Test.YtigmogcdifllhaaGreatDoorYa6
import Derived.ChangeArms
import Derived.Test.YtigmogcdifllhaaGreatDoorYa5
import Derived.Shelf.SlSortCmp.WholeK
import Derived.Shelf.Lay
import Derived.Shelf.Sort.Plain
import Derived.Shelf.Slices.In.SortNone
set_option linter.unusedVariables false
set_option linter.unusedSimpArgs false
namespace Go.SL
open Go.RowKit
inductive Fr where
 |sq (c:Code)
 |bk (id:Nat)
structure Cf where
 c:Code
 k:List Fr
 st:St
 n:Nat
def KQ (K:Ctx) (Q:Exit->St->Prop):List Fr->Exit->St->Prop
 |[]=>Q
 | .sq c::k=>qGc (KQ K Q k) λst=>H K st c (KQ K Q k)
 | .bk id::k=>qI0 id (KQ K Q k)
def G (K:Ctx) (Q:Exit->St->Prop) (f:Cf):Prop:=∀M a w,Sim1 K M f.st a w->
 match f.c with
 | .skip=>Post K (KQ K Q f.k) .normal a w
 | .exit i=>Post K (KQ K Q f.k) (.exit i) a w
 | .ret=>Post K (KQ K Q f.k) .ret a w
 |c=>c.wpIn K.F 0 K.P (Post K (KQ K Q f.k)) a w
theorem G_H {K:Ctx} {Q:Exit->St->Prop} {f:Cf} (h:G K Q f):H K f.st f.c (KQ K Q f.k):=by
 obtain⟨c,k,st,n⟩:=f;intro M a w hs;have h1:=h M a w hs;cases c
 case skip=>exact wpIn_skip h1
 case exit i=>exact wpIn_exit h1
 case ret=>exact wpIn_ret h1
 all_goals exact h1
def St.top (st:St) (n:Nat):Nat:=st.objs.foldl (λm p=>bif Nat.ble m p.1 then p.1+1 else m) n
def masks (ops:Array Oper):List Nat:=ops.toList.foldl (λbm o=>bm++[qA0 bm o.after.toList]) []
def regO (K:Ctx) (ops:Array Oper) (dr:Bool) (pre:List Fin) (ds:List (Nat×Dir)) (fin:List Fin) (st:St) (nid:Nat):Option (St×Option Prop):=
 match dr with
 |true=>qNH K ops pre ds fin (masks ops) st nid
 |false=>match pre with|[]=>runF K ops ds fin st nid|_=>none
theorem qVj {K:Ctx} {Q:Exit->St->Prop} {id:Nat} {ops:Array Oper} {ds:List (Nat×Dir)} {fin:List Fin} {st st':St} {nid:Nat} {q:Option Prop} (h1:runF K ops ds fin st nid=some (st',q)) (hq:oP q) (hk:Q .normal st'):H K st (.region id ops false) Q:=by
 unfold runF at h1;cases hok:BQ K.nt ops with
 |false=>rw[hok] at h1;cases h1
 |true=>
  rw[hok] at h1;simp only[kp] at h1;split at h1
  ·rename_i st1 p hr;split at h1
   ·rename_i st2 q2 hf;cases h1;obtain⟨p1,p2⟩:=ZJ hq;refine qLM (IN hok hr p1 (by omega) ?_);intro M a w hsim;obtain⟨M',hs'⟩:=TA hf p2 hsim;rw[kz,dH];exact⟨_,_,hk,hs'⟩
   ·cases h1
  ·cases h1
theorem qTA {K:Ctx} {Q:Exit->St->Prop} {id:Nat} {ops:Array Oper} {pre:List Fin} {ds:List (Nat×Dir)} {fin:List Fin} {bm:List Nat} {st st':St} {nid:Nat} {q:Option Prop} (h1:qNH K ops pre ds fin bm st nid=some (st',q)) (hq:oP q) (hk:Q .normal st'):H K st (.region id ops true) Q:=by
 unfold qNH at h1;split at h1
 ·rename_i st0 p0 h0;split at h1
  ·rename_i st2 q2 h2;cases h1;obtain⟨p1,p2⟩:=ZJ hq;intro M a w hsim;obtain⟨M0,hs0⟩:=TA h0 p1 hsim;unfold drawF at h2;split at h2
   ·rename_i es p hr;cases hb:BQ K.nt ops&&(qB3 ops bm&&(NJ ops bm 0 es&&(es.all (λe=>nvOk e.nv e.ob&&DF K.m e.nv)&&es.all (λe=>st0.freeB e.nv)))) with
    |false=>rw[hb] at h2;cases h2
    |true=>
     rw[hb] at h2;simp only[kp] at h2;simp only[kv (a:=BQ K.nt ops),kv (a:=qB3 ops bm),kv (a:=NJ ops bm 0 es),kv (a:=es.all (λe=>nvOk e.nv e.ob&&DF K.m e.nv))] at hb;obtain⟨b1,b2,b3,b4,b5⟩:=hb;split at h2
     ·rename_i st3 q3 hf;cases h2;obtain⟨p3,p4⟩:=ZJ p2;obtain⟨i1,i2⟩:=CQ hr p3;have hH:H K st0 (.region id ops true) (λe st'=>match e with| .normal=>st'=qBY ops 0 st0 es|_=>False):=H_draw es bm b1 (by rw[i1];simp) b2 b3 b4 b5 i2 rfl;refine wpIn_mono (hH M0 a w hs0) ?_;rintro e a' w' ⟨M',st4,hq3,hs3⟩;cases e with
      |normal=>
       obtain rfl:st4=qBY ops 0 st0 es:=hq3;obtain⟨M4,hs4⟩:=TA hf p4 hs3;exact⟨_,_,hk,hs4⟩
      |_=>exact hq3.elim
     ·cases h2
   ·cases h2
  ·cases h1
 ·cases h1
theorem qVB {K:Ctx} {Q:Exit->St->Prop} {id:Nat} {ops:Array Oper} {dr:Bool} {pre:List Fin} {ds:List (Nat×Dir)} {fin:List Fin} {st st':St} {nid:Nat} {q:Option Prop} (h:regO K ops dr pre ds fin st nid=some (st',q)) (hq:oP q) (hk:Q .normal st'):H K st (.region id ops dr) Q:=by
 cases dr with
 |true=>exact qTA h hq hk
 |false=>cases pre with
  |nil=>exact qVj h hq hk
  |cons _ _=>cases h
theorem regO_H {K:Ctx} {Q:Exit->St->Prop} {id:Nat} {ops:Array Oper} {dr:Bool} {pre:List Fin} {ds:List (Nat×Dir)} {fin:List Fin} {st st':St} {k:List Fr} {n nid m:Nat} {q:Option Prop} (h:regO K ops dr pre ds fin st nid=some (st',q)) (hq:oP q) (hk:G K Q ⟨.skip,k,st',m⟩):G K Q ⟨.region id ops dr,k,st,n⟩:=by
 have h1:H K st (.region id ops dr) (λe s=>e= .normal/\s=st'):=qVB h hq ⟨rfl,rfl⟩;intro M a w hs;refine wpIn_mono (h1 M a w hs) ?_;rintro e a' w' ⟨M',s,⟨rfl,rfl⟩,hs'⟩;exact hk M' a' w' hs'
def ddp {β:Type}:List Nat->List (Nat×β)->List (Nat×β)
 |_,[]=>[]
 |no,p::l=>bif memB no p.1 then ddp no l else p::ddp (p.1::no) l
theorem qHY {β:Type}:∀{l:List (Nat×β)} {no:List Nat} {p:Nat×β},p∈ddp no l->look p.1 l=some p.2/\memB no p.1=false
 |[],_,_,h=>by cases h
 |q::l,no,p,h=>by
  unfold ddp at h;cases hb:memB no q.1 with
  |true=>
   rw[hb] at h;obtain⟨h1,h2⟩:=qHY (l:=l) h;refine⟨?_,h2⟩;rw[look_cons,if_neg (λe=>by rw[e,h2] at hb;cases hb)];exact h1
  |false=>
   rw[hb] at h;rcases kN.1 h with rfl|h
   ·exact⟨by rw[look_cons,if_pos rfl],hb⟩
   ·obtain⟨h1,h2⟩:=qHY (l:=l) h;simp only[memB,List.any_cons,gp] at h2;refine⟨?_,h2.2⟩;rw[look_cons,if_neg (λe=>by rw[e] at h2;simp at h2)];exact h1
def dropS (ss os:List Nat) (st:St):St:=⟨ddp ss st.slots,ddp os st.objs⟩
theorem qXw {ss os:List Nat} {st:St}:Sub (dropS ss os st) st:=by
 constructor
 ·exact List.map_congr_left λp hp=>(qHY hp).1
 ·exact List.map_congr_left λp hp=>(qHY hp).1
def wrC :Code->List Nat
 | .seq a b=>wrC a++wrC b
 | .cond _ a b=>wrC a++wrC b
 | .block _ a=>wrC a
 | .loop a=>wrC a
 | .scope a=>wrC a
 | .region _ ops _=>ops.toList.filterMap (·.dst)
 |_=>[]
def genS (st:St) (wr od:List Nat) (c:St):St:=⟨c.slots++ddp (c.slots.map (·.1)++wr) st.rev.slots,c.objs++ddp (c.objs.map (·.1)++od) st.rev.objs⟩
def adv1 (K:Ctx) (f:Cf):Option Cf:=
 match f.c with
 | .seq a b=>some ⟨a,.sq b::f.k,f.st,f.n⟩
 | .block id a=>(match a with| .loop _=>none|_=>some ⟨a,.bk id::f.k,f.st,f.n⟩)
 | .skip=>(match f.k with| .sq b::k=>some ⟨b,k,f.st,f.n⟩| .bk _::k=>some ⟨.skip,k,f.st,f.n⟩|[]=>none)
 | .exit i=>(match f.k with| .sq _::k=>some ⟨.exit i,k,f.st,f.n⟩| .bk j::k=>(match Nat.beq i j with|true=>some ⟨.skip,k,f.st,f.n⟩|false=>some ⟨.exit i,k,f.st,f.n⟩)|[]=>none)
 | .ret=>(match f.k with|_::k=>some ⟨.ret,k,f.st,f.n⟩|[]=>none)
 | .region _ ops dr=>(match ops.toList.any (λo=>o.guard.isSome) with|true=>none|false=>(match regO K ops dr [] [] [] f.st f.n with|some (st,none)=>some ⟨.skip,f.k,st,st.top f.n⟩|_=>none))
 |_=>none
theorem adv1_sound {K:Ctx} {Q:Exit->St->Prop} {f f':Cf} (h:adv1 K f=some f') (hg:G K Q f'):G K Q f:=by
 obtain⟨c,k,st,n⟩:=f;cases c with
 |seq a b=>cases h;exact H_seq (G_H hg)
 |block id a=>
  cases a
  case loop=>cases h
  all_goals (cases h;exact H_block (G_H hg))
 |skip=>
  cases k with
  |nil=>cases h
  |cons x k=>cases x with
   |sq b=>cases h;exact λM a w hs=>⟨M,st,G_H hg,hs⟩
   |bk i=>cases h;exact hg
 |exit i=>
  cases k with
  |nil=>cases h
  |cons x k=>cases x with
   |sq b=>cases h;exact hg
   |bk j=>
    simp only[adv1] at h;split at h
    ·rename_i hb;cases h;intro M a w hs;obtain⟨M',st',h1,h2⟩:=hg M a w hs;exact⟨M',st',by show(bif Nat.beq i j then KQ K Q k .normal st' else KQ K Q k (.exit i) st');rw[hb];exact h1,h2⟩
    ·rename_i hb;cases h;intro M a w hs;obtain⟨M',st',h1,h2⟩:=hg M a w hs;exact⟨M',st',by show(bif Nat.beq i j then KQ K Q k .normal st' else KQ K Q k (.exit i) st');rw[hb];exact h1,h2⟩
 |ret=>
  cases k with
  |nil=>cases h
  |cons x k=>cases x with
   |sq b=>cases h;exact hg
   |bk i=>cases h;exact hg
 |region id ops dr=>
  simp only[adv1] at h;split at h
  ·cases h
  ·split at h
   ·rename_i st' hr;cases h;exact regO_H hr trivial hg
   ·cases h
 |_=>cases h
def nx (K:Ctx) (go:Cf->Cf) (f:Cf):Cf:=match adv1 K f with|some f'=>go f'|none=>f
def adv (K:Ctx):Nat->Nat->Nat->Cf->Cf
 |0,_,_,f=>f
 |n+1,j,r,f=>
  match f.c with
  | .seq _ _=>(match j with|0=>f|j+1=>nx K (adv K n j r) f)
  | .region _ _ _=>(match r with|0=>f|r+1=>nx K (adv K n j r) f)
  |_=>nx K (adv K n j r) f
theorem qLb {K:Ctx} {Q:Exit->St->Prop} {go:Cf->Cf} (hgo:∀f,G K Q (go f)->G K Q f) {f:Cf} (h:G K Q (nx K go f)):G K Q f:=by
 unfold nx at h;split at h
 ·rename_i f' h1;exact adv1_sound h1 (hgo _ h)
 ·exact h
theorem EQ {K:Ctx} {Q:Exit->St->Prop}:∀{n j r:Nat} {f:Cf},G K Q (adv K n j r f)->G K Q f
 |0,_,_,_,h=>h
 |n+1,j,r,f,h=>by
  unfold adv at h;split at h
  ·cases j with
   |zero=>exact h
   |succ j=>exact qLb (λ_=>EQ) h
  ·cases r with
   |zero=>exact h
   |succ r=>exact qLb (λ_=>EQ) h
  ·exact qLb (λ_=>EQ) h
def rgo (K:Ctx) (pre:List Fin) (ds:List (Nat×Dir)) (fin:List Fin) (f:Cf):Option (Cf×Option Prop):=
 match f.c with
 | .region _ ops dr=>(match regO K ops dr pre ds fin f.st f.n with|some (st,q)=>some (⟨.skip,f.k,st,st.top f.n⟩,q)|none=>none)
 |_=>none
theorem qPg {K:Ctx} {Q:Exit->St->Prop} {pre:List Fin} {ds:List (Nat×Dir)} {fin:List Fin} {f f':Cf} {q:Option Prop} (h:rgo K pre ds fin f=some (f',q)) (hq:oP q) (hg:G K Q f'):G K Q f:=by
 obtain⟨c,k,st,n⟩:=f;unfold rgo at h;split at h
 ·rename_i id ops dr hc;split at h
  ·rename_i st' q' hr;cases h;obtain rfl:c= .region id ops dr:=hc;exact regO_H hr hq hg
  ·cases h
 ·cases h
def FU :Nat:=10000
def go (K:Ctx) (ds:List (Nat×Dir)) (j r:Nat) (f:Cf):Option (Cf×Option Prop):=
 match ds with
 |[]=>some (adv K FU j r f,none)
 |_::_=>(match rgo K [] ds [] (adv K FU FU FU f) with|some (f',q)=>some (adv K FU j r f',q)|none=>none)
def too (K:Ctx) (ds:List (Nat×Dir)) (j r:Nat) (f:Cf):Cf:=match go K ds j r f with|some (f',_)=>f'|none=>f
def to (K:Ctx) (ds:List (Nat×Dir)) (f:Cf):Cf:=too K ds FU FU f
def goq (K:Ctx) (ds:List (Nat×Dir)) (f:Cf):Option (Option Prop):=match ds with|[]=>some none|_::_=>(match rgo K [] ds [] (adv K FU FU FU f) with|some (_,q)=>some q|none=>none)
theorem YH {K:Ctx} {Q:Exit->St->Prop} {ds:List (Nat×Dir)} {j r:Nat} {f:Cf} {q:Option Prop} (h:goq K ds f=some q) (hq:oP q) (hg:G K Q (too K ds j r f)):G K Q f:=by
 unfold goq at h;unfold too go at hg;split at h
 ·exact EQ hg
 ·split at h
  ·rename_i f2 q2 h2;cases h;rw[h2] at hg;exact EQ (qPg h2 hq (EQ hg))
  ·cases h
def insP (i:Nat) (p:Prop):List (Nat×Prop)->List (Nat×Prop)
 |[]=>[(i,p)]
 |q::l=>bif Nat.blt i q.1 then(i,p)::q::l else q::insP i p l
def allQ :List (Nat×Prop)->Prop
 |[]=>True
 |p::r=>p.2/\allQ r
def psO :List (Nat×Prop)->Option Prop
 |[]=>none
 |p::r=>an (some p.2) (psO r)
theorem KI {i:Nat} {p:Prop} (hp:p):∀{l:List (Nat×Prop)},allQ l->allQ (insP i p l)
 |[],_=>⟨hp,trivial⟩
 |q::l,h=>by
  unfold insP;cases Nat.blt i q.1 with
  |true=>exact⟨hp,h⟩
  |false=>exact⟨h.1,KI hp h.2⟩
theorem YR :∀{l:List (Nat×Prop)},allQ l->oP (psO l)
 |[],_=>trivial
 |_::_,h=>qL1 h.1 (YR h.2)
def W {ρ:Type} (K:Ctx) (Q:ρ->Exit->St->Prop) (ds:List (Nat×Dir)) (ps:List (Nat×Prop)) (f:Cf) (M:Option ρ):Prop:=allQ ps->∀r,M=some r->G K (Q r) f
def isC (f:Cf):Option Bool:=match f.c with| .cond o _ _=>opB f.st o|_=>none
def thn (f:Cf):Cf:=match f.c with| .cond _ a _=>⟨a,f.k,f.st,f.n⟩|_=>f
def els (f:Cf):Cf:=match f.c with| .cond _ _ b=>⟨b,f.k,f.st,f.n⟩|_=>f
def lpB (f:Cf):Nat:=match f.c with| .block b (.loop _)=>b|_=>0
def lpC (f:Cf):Code:=match f.c with| .block _ (.loop c)=>c|_=> .skip
def sqA (f:Cf):Code:=match f.c with| .seq a _=>a|_=> .skip
def sqB (f:Cf):Code:=match f.c with| .seq _ b=>b|_=> .skip
def kd (f:Cf):Nat:=match f.c with
 | .skip=>(match f.k with|[]=>1|_=>0)
 | .ret=>(match f.k with|[]=>2|_=>0)
 | .exit i=>(match f.k with|[]=>i+10|_=>0)
 | .block _ (.loop _)=>3
 | .seq _ _=>4
 |_=>0
theorem qJ9 {f:Cf}:(kd f=4->f.c= .seq (sqA f) (sqB f))/\(kd f=3->f.c= .block (lpB f) (.loop (lpC f)))/\(kd f=1->f.c= .skip/\f.k=[])/\(kd f=2->f.c= .ret/\f.k=[])/\(∀b,kd f=b+10->f.c= .exit b/\f.k=[]):=by
 obtain⟨c,k,st,n⟩:=f;cases c with
 |seq a b=>simp[kd,sqA,sqB]
 |block id a=>cases a<;>simp[kd,lpB,lpC]
 |skip=>cases k<;>simp[kd]
 |ret=>cases k<;>simp[kd]
 |exit i=>cases k<;>simp[kd]<;>omega
 |_=>simp[kd]
def HX (want st:St):List (Option V)×List (Option (Nat×O)):=(want.slots.map (λp=>look p.1 st.slots),want.objs.map (λp=>look p.1 st.objs))
def HD (want:St):List (Option V)×List (Option (Nat×O)):=(want.slots.map (λp=>some p.2),want.objs.map (λp=>some p.2))
theorem qEF {want st:St} (h:HX want st.rev=HD want):Sub want st.rev:=by
 simp only[HX,HD,Prod.mk.injEq] at h;exact⟨h.1,h.2⟩
theorem G_cond {K:Ctx} {Q:Exit->St->Prop} {f:Cf} {x:Bool} (h:isC f=some x) (ht:x=true->G K Q (thn f)) (hf:x=false->G K Q (els f)):G K Q f:=by
 obtain⟨c,k,st,n⟩:=f;unfold isC at h;unfold thn at ht;unfold els at hf;split at h
 ·rename_i o a b hc;obtain rfl:c= .cond o a b:=hc;exact qV7 x h (λe=>G_H (ht e)) (λe=>G_H (hf e))
 ·cases h
section
variable {K :Ctx} {ρ:Type} {Q:ρ->Exit->St->Prop} {ds:List (Nat×Dir)} {ps:List (Nat×Prop)} {f:Cf} {M A B:Option ρ} {x:Bool}
theorem cI (h1:W K Q [] [] (thn (to K ds f)) A) (h2:W K Q [] [] (els (to K ds f)) B) (hx:(goq K ds f,isC (to K ds f))=(some (psO ps),some x):=by kernel_rfl):W K Q ds ps f (bif x then A else B):=by
 intro hp r hm;simp only[Prod.mk.injEq] at hx;exact YH hx.1 (YR hp) (G_cond hx.2 (λe=>h1 trivial r (bif_t e hm)) (λe=>h2 trivial r (bif_f e hm)))
theorem gD (h:W K Q [] [] (too K ds 0 0 f) M) (hx:goq K ds f=some (psO ps):=by kernel_rfl):W K Q ds ps f M:=λhp r hm=>YH hx (YR hp) (h trivial r hm)
def dpF (ss os:List Nat) (f:Cf):Cf:=⟨f.c,f.k,dropS ss os f.st,f.n⟩
theorem qPL {Q:Exit->St->Prop} {ss os:List Nat} {f:Cf} (h:G K Q (dpF ss os f)):G K Q f:=by
 obtain⟨c,k,st,n⟩:=f;exact λM a w hs=>h _ a w (hs.sub qXw)
def rgT (K:Ctx) (r:Nat) (pre:List Fin) (ds:List (Nat×Dir)) (fin:List Fin) (f:Cf):Cf:=match rgo K pre ds fin (dpF [] [] (adv K FU FU r f)) with|some (f',_)=>f'|none=>f
def rgQ (K:Ctx) (r:Nat) (pre:List Fin) (ds:List (Nat×Dir)) (fin:List Fin) (f:Cf):Option (Option Prop):=match rgo K pre ds fin (dpF [] [] (adv K FU FU r f)) with|some (_,q)=>some q|none=>none
theorem gE (r:Nat) (pre fin:List Fin) {q1 q2:Option Prop} (hp1:oP q1) (hp2:oP q2) (h:W K Q [] [] (rgT K r pre ds fin f) M) (hx:rgQ K r pre ds fin f=some (an q1 (an (psO ps) q2)):=by kernel_rfl):W K Q ds ps f M:=by
 intro hp v hm;unfold rgQ at hx;unfold rgT at h;split at hx
 ·rename_i f' q hr;rw[hr] at h;cases hx;exact EQ (qPL (qPg hr (qL1 hp1 (qL1 (YR hp) hp2)) (h trivial v hm)))
 ·cases hx
def fnT (K:Ctx) (fin:List Fin) (f:Cf):Cf:=match ED K fin f.st with|some (st,_)=>⟨f.c,f.k,st,st.top f.n⟩|none=>f
def fnQ (K:Ctx) (fin:List Fin) (f:Cf):Option (Option Prop):=match ED K fin f.st with|some (_,q)=>some q|none=>none
theorem cS' (j r:Nat) (ss os:List Nat) (fin:List Fin) {q:Option Prop} (hq:oP q) (h:W K Q [] [] (fnT K fin (dpF ss os (too K ds j r f))) M) (hx:(goq K ds f,fnQ K fin (dpF ss os (too K ds j r f)))=(some (psO ps),some q):=by kernel_rfl):W K Q ds ps f M:=by
 intro hp v hm;simp only[Prod.mk.injEq] at hx;obtain⟨h2,h1⟩:=hx;refine YH (j:=j) (r:=r) h2 (YR hp) (qPL (ss:=ss) (os:=os) ?_);unfold fnQ at h1;unfold fnT at h;split at h1
 ·rename_i st q' hr;rw[hr] at h;cases h1;intro M' a w hs;obtain⟨M2,hs2⟩:=TA hr hq hs;exact h trivial v hm M2 a w hs2
 ·cases h1
theorem cS (j r:Nat) (fin:List Fin) {q:Option Prop} (hq:oP q) (h:W K Q [] [] (fnT K fin (dpF [] [] (too K ds j r f))) M) (hx:(goq K ds f,fnQ K fin (dpF [] [] (too K ds j r f)))=(some (psO ps),some q):=by kernel_rfl):W K Q ds ps f M:=cS' j r [] [] fin hq h hx
theorem gI (i:Nat) {z:Int} {m:Nat} (h:W K Q (ds++[(i,dN)]) (insP i (0<=z/\z<(m:Int)) ps) f A):W K Q ds ps f (bif inb z m then A else none):=λhp r hm=>h (KI (qI (BL hm).1) hp) r (BL hm).2
theorem gG (h:x=true->W K Q ds ps f A):W K Q ds ps f (bif x then A else none):=λhp r hm=>h (BL hm).1 hp r (BL hm).2
theorem gP (i:Nat) (d:Dir) {p:Prop} (hq:p) (h:W K Q (ds++[(i,d)]) (insP i p ps) f M):W K Q ds ps f M:=λhp=>h (KI hq hp)
theorem gN (i:Nat) {p:Prop} (hq:p) (h:W K Q (ds++[(i,dN)]) (insP i p ps) f M):W K Q ds ps f M:=λhp=>h (KI hq hp)
theorem gB (i:Nat) (h1:W K Q (ds++[(i,dfx true)]) (insP i (x=true) ps) f A) (h2:W K Q (ds++[(i,dfx false)]) (insP i (x=false) ps) f B):W K Q ds ps f (bif x then A else B):=by
 intro hp r hm;cases hx:x with
 |true=>exact h1 (KI hx hp) r (bif_t hx hm)
 |false=>exact h2 (KI hx hp) r (bif_f hx hm)
end
def Ctr (P:Program) (gl:List (Nat×C)) {σ:Type} (y:Option σ) (f n m:Nat) (xs:List V1) (oi:List (Nat×(Nat×O))) (X:σ->V) (O:σ->List (Nat×(Nat×O))):Prop:=∀v,y=some v->CtX P gl f n m xs oi (X v) (O v)
def mdC :C->C->C
 | .emp,.lst 0 g=> .lst 0 g
 |c,_=>c
def mdL :List C->List C->List C
 |c::r,d::s=>mdC c d::mdL r s
 |l,_=>l
def md1 :V1->V1->V1
 | .one c,.one d=> .one (mdC c d)
 | .agg cs,.agg ds=> .agg (mdL cs ds)
 |x,_=>x
def mdA :List V1->List V1->List V1
 |x::r,y::s=>md1 x y::mdA r s
 |l,_=>l
theorem mdC_le {c d:C} (h:mdC c d=d):cLe c d:=by
 unfold mdC at h;split at h
 ·exact rfl
 ·subst h;unfold cLe;split<;>first|rfl|(rename_i h1;exact absurd rfl (h1 _ _ rfl))|simp_all
theorem mdL_le :∀{cs ds:List C},mdL cs ds=ds->csLe cs ds
 |[],[],_=>trivial
 |c::r,d::s,h=>by simp only[mdL,List.cons.injEq] at h;exact⟨mdC_le h.1,mdL_le h.2⟩
 |[],_::_,h=>by cases h
 |_::_,[],h=>by cases h
theorem md1_le {x y:V1} (h:md1 x y=y):v1Le x y:=by
 cases x<;>cases y<;>first|(simp only[md1,V1.one.injEq] at h;exact mdC_le h)|(simp only[md1,V1.agg.injEq] at h;exact mdL_le h)|cases h
theorem qWq :∀{xs ys:List V1},mdA xs ys=ys->vsLe xs ys
 |[],[],_=>trivial
 |_::_,_::_,h=>by simp only[mdA,List.cons.injEq] at h;exact⟨md1_le h.1,qWq h.2⟩
 |[],_::_,h=>by cases h
 |_::_,[],h=>by cases h
theorem callZ {K:Ctx} (st:St) (op:Oper) (ren:List (Nat×Nat)) (outs:List Nat) (c:Nat) {f:FuncId} {m:Nat} {xs:List V1} {p:Option Prop} {b:Bool} {oi:List (Nat×(Nat×O))} {x:V} {ob:List (Nat×(Nat×O))} (hp:oP p) (hct:CtX K.P K.globs f ren.length m xs oi x ob) (hb:b=true\/(x.noLst=true/\SK ob))
  (hin:((BS K.globs st ren op.op).map (λt=>(t.1,mdA t.2.1 xs,t.2.2)),fnOk K.P f,Out.ok ⟨ren,outs,c⟩ m ob&&(x.closed ob&&ob.all (λq=>q.2.2.closed ob)))=(some (f,xs,p,b,oi),true,true)):
  Step K st op (FM ⟨ren,outs,c⟩ m ob) (PU ⟨ren,outs,c⟩ ob) (x.out ⟨ren,outs,c⟩):=by
 simp only[Prod.mk.injEq,kY] at hin;obtain⟨⟨⟨f',xs',p',b',oi'⟩,h1,h2,h3,h4⟩,h7,h8⟩:=hin;cases h2;cases h4;exact qMt h1 hp rfl (hct.emp (qWq h3)) h7 h8 hb
def fzX (id:Nat) (x:V) (ob:List (Nat×(Nat×O))):V:=match qJk id x ob with|some (x',_,_)=>x'|none=>x
def fzO (id:Nat) (x:V) (ob:List (Nat×(Nat×O))):List (Nat×(Nat×O)):=match qJk id x ob with|some (_,o',_)=>o'|none=>ob
def fzQ (id:Nat) (x:V) (ob:List (Nat×(Nat×O))):Option (Option Prop):=match qJk id x ob with|some (_,_,q)=>some q|none=>none
theorem zfz (id:Nat) {P:Program} {gl:List (Nat×C)} {σ:Type} {y:Option σ} {f n m:Nat} {xs:List V1} {oi:List (Nat×(Nat×O))} {X:σ->V} {O:σ->List (Nat×(Nat×O))} {q:σ->Option Prop} (hq:∀v,oP (q v)) (ct:Ctr P gl y f n m xs oi X O)
  (hf:(λv=>(Nat.ble n id&&Nat.ble m id,fzQ id (X v) (O v)))=(λv=>(true,some (q v))):=by kernel_rfl):Ctr P gl y f n m xs oi (λv=>fzX id (X v) (O v)) (λv=>fzO id (X v) (O v)):=λv hv=>by
 have h:=congrFun hf v;simp only[Prod.mk.injEq] at h;obtain⟨h1,h2⟩:=h;refine(ct v hv).frz id (hq v) ?_;unfold fzQ at h2;unfold fzX fzO;split at h2
 ·rename_i x' o' q' he;cases h2;simp only[he,h1]
 ·cases h2
theorem fz0 :SK []:=λ_ _ _ h=>by cases h
theorem fzc {i k:Nat} {o:O} {ob:List (Nat×(Nat×O))} (h:o.noLst) (t:SK ob):SK ((i,(k,o))::ob):=λj k' o' hl=>by
 rw[look_cons] at hl;split at hl
 ·cases hl;exact h
 ·exact t _ _ _ hl
theorem pr {α β:Type} {a c:α} {b d:β} (h:a=c) (k:b=d):(a,b)=(c,d):=by rw[h,k]
def argS (op:Op) (xs:List V1):List (Nat×V):=match qEM op with|some (_,args)=>(args.zip xs).filterMap (λp=>match p.1 with| .tmp t=>some (t,V.v p.2)|_=>none)|none=>[]
def opF (K:Ctx) (f:Cf) (i:Nat):Oper:=opAt (qQD (adv K FU FU FU f).c) i
def stB (K:Ctx) (ds:List (Nat×Dir)) (f:Cf) (i:Nat):St:=match runO K (qQD (adv K FU FU FU f).c) ds i 0 (adv K FU FU FU f).st (adv K FU FU FU f).n with|some (st,_)=>st|none=>f.st
def tmO (K:Ctx) (f:Cf) (i:Nat):List Nat:=qHl (opF K f i).op++qDg (qQD (adv K FU FU FU f).c) (opF K f i)
section
variable {K :Ctx} {ρ:Type} {Q:ρ->Exit->St->Prop} {ds:List (Nat×Dir)} {ps:List (Nat×Prop)} {f:Cf} {σ:Type} {y:Option σ} {k:σ->Option ρ} {fi m:Nat} {xs:List V1} {oi:List (Nat×(Nat×O))} {X:σ->V} {O:σ->List (Nat×(Nat×O))}
theorem gC (i c:Nat) (ct:Ctr K.P K.globs y fi 0 m xs [] X O)
  (h:∀v,W K Q (ds++[(i,dex (cen [] [] c m (X v) (O v) ((argS (opF K f i).op xs).map (·.1)) []))]) (insP i (Step K ⟨argS (opF K f i).op xs,[]⟩ (opF K f i) (FM ⟨[],[],c⟩ m (O v)) (PU ⟨[],[],c⟩ (O v)) ((X v).out ⟨[],[],c⟩)) ps) f (k v))
  (hin:(λv:σ=>((BS K.globs ⟨argS (opF K f i).op xs,[]⟩ [] (opF K f i).op).map (λt=>(t.1,mdA t.2.1 xs,t.2.2)),fnOk K.P fi,Out.ok ⟨[],[],c⟩ m (O v)&&((X v).closed (O v)&&(O v).all (λq=>q.2.2.closed (O v)))))=(λ_=>(some (fi,xs,none,true,[]),true,true)):=by kernel_rfl):W K Q ds ps f (y.bind k):=λhp r hm=>by
 obtain⟨v,h1,h2⟩:=qFb hm;exact h v (KI (callZ _ _ [] [] c o0 (ct v h1) (.inl rfl) (congrFun hin v)) hp) r h2
def insO (i:Nat):Option Prop->List (Nat×Prop)->List (Nat×Prop)
 |none,l=>l
 |some p,l=>insP i p l
theorem qWE {i:Nat}:∀{q:Option Prop},oP q->∀{l:List (Nat×Prop)},allQ l->allQ (insO i q l)
 |none,_,_,h=>h
 |some _,hp,_,h=>KI hp h
def stP' (K:Ctx) (pre:List Fin) (st:St):St:=match ED K pre st with|some (st,_)=>st|none=>st
theorem gW (d:Ent->Dir) (st:St) (b:Bool) (i c:Nat) {q0:Option Prop} (h0:oP q0) (ren:List (Nat×Nat)) (outs rd:List Nat) {q:Option Prop} (hq:oP q) (ct:Ctr K.P K.globs y fi ren.length m xs oi X O) (hb:b=true\/∀v,(X v).noLst=true/\SK (O v))
  (h:∀v,W K Q (ds++[(i,d (cen ren outs c m (X v) (O v) (tmO K f i) rd))]) (insP i (Step K (st.only (tmO K f i) rd) (opF K f i) (FM ⟨ren,outs,c⟩ m (O v)) (PU ⟨ren,outs,c⟩ (O v)) ((X v).out ⟨ren,outs,c⟩)) (insO i q0 ps)) f (k v))
  (hin:(λv:σ=>((BS K.globs (st.only (tmO K f i) rd) ren (opF K f i).op).map (λt=>(t.1,mdA t.2.1 xs,t.2.2)),fnOk K.P fi,Out.ok ⟨ren,outs,c⟩ m (O v)&&((X v).closed (O v)&&(O v).all (λq=>q.2.2.closed (O v)))))=(λ_=>(some (fi,xs,q,b,oi),true,true))):W K Q ds ps f (y.bind k):=λhp r hm=>by
 obtain⟨v,h1,h2⟩:=qFb hm;exact h v (KI (callZ _ _ ren outs c hq (ct v h1) (hb.imp id (λg=>g v)) (congrFun hin v)) (qWE h0 hp)) r h2
theorem gS (i c:Nat) (ren:List (Nat×Nat)) (outs rd:List Nat) (ct:Ctr K.P K.globs y fi ren.length m xs oi X O)
  (h:∀v,W K Q (ds++[(i,dex (cen ren outs c m (X v) (O v) (tmO K f i) rd))]) (insP i (Step K ((stB K ds f i).only (tmO K f i) rd) (opF K f i) (FM ⟨ren,outs,c⟩ m (O v)) (PU ⟨ren,outs,c⟩ (O v)) ((X v).out ⟨ren,outs,c⟩)) ps) f (k v))
  (hin:(λv:σ=>((BS K.globs ((stB K ds f i).only (tmO K f i) rd) ren (opF K f i).op).map (λt=>(t.1,mdA t.2.1 xs,t.2.2)),fnOk K.P fi,Out.ok ⟨ren,outs,c⟩ m (O v)&&((X v).closed (O v)&&(O v).all (λq=>q.2.2.closed (O v)))))=(λ_=>(some (fi,xs,none,true,oi),true,true)):=by kernel_rfl):W K Q ds ps f (y.bind k):=gW dex _ true i c o0 ren outs rd o0 ct (.inl rfl) h hin
theorem gV (i c:Nat) (ren:List (Nat×Nat)) (outs rd:List Nat) {q:Option Prop} (hq:oP q) (ct:Ctr K.P K.globs y fi ren.length m xs oi X O) (hb:∀v,(X v).noLst=true/\SK (O v))
  (h:∀v,W K Q (ds++[(i,dex (cen ren outs c m (X v) (O v) (tmO K f i) rd))]) (insP i (Step K ((stB K ds f i).only (tmO K f i) rd) (opF K f i) (FM ⟨ren,outs,c⟩ m (O v)) (PU ⟨ren,outs,c⟩ (O v)) ((X v).out ⟨ren,outs,c⟩)) ps) f (k v))
  (hin:(λv:σ=>((BS K.globs ((stB K ds f i).only (tmO K f i) rd) ren (opF K f i).op).map (λt=>(t.1,mdA t.2.1 xs,t.2.2)),fnOk K.P fi,Out.ok ⟨ren,outs,c⟩ m (O v)&&((X v).closed (O v)&&(O v).all (λq=>q.2.2.closed (O v)))))=(λ_=>(some (fi,xs,q,false,oi),true,true)):=by kernel_rfl):W K Q ds ps f (y.bind k):=gW dex _ false i c o0 ren outs rd hq ct (.inr hb) h hin
theorem gQ (i c:Nat) (pre:List Fin) {q0:Option Prop} (h0:oP q0) (ren:List (Nat×Nat)) (outs rd:List Nat) (ct:Ctr K.P K.globs y fi ren.length m xs oi X O)
  (h:∀v,W K Q (ds++[(i,dpr pre (dex (cen ren outs c m (X v) (O v) (tmO K f i) rd)))]) (insP i (Step K ((stP' K pre (stB K ds f i)).only (tmO K f i) rd) (opF K f i) (FM ⟨ren,outs,c⟩ m (O v)) (PU ⟨ren,outs,c⟩ (O v)) ((X v).out ⟨ren,outs,c⟩)) (insO i q0 ps)) f (k v))
  (hin:(λv:σ=>((BS K.globs ((stP' K pre (stB K ds f i)).only (tmO K f i) rd) ren (opF K f i).op).map (λt=>(t.1,mdA t.2.1 xs,t.2.2)),fnOk K.P fi,Out.ok ⟨ren,outs,c⟩ m (O v)&&((X v).closed (O v)&&(O v).all (λq=>q.2.2.closed (O v)))))=(λ_=>(some (fi,xs,none,true,oi),true,true)):=by kernel_rfl):W K Q ds ps f (y.bind k):=gW (λe=>dpr pre (dex e)) _ true i c h0 ren outs rd o0 ct (.inl rfl) h hin
theorem gU (i c:Nat) (pre:List Fin) {q0:Option Prop} (h0:oP q0) (ren:List (Nat×Nat)) (outs rd:List Nat) {q:Option Prop} (hq:oP q) (ct:Ctr K.P K.globs y fi ren.length m xs oi X O) (hb:∀v,(X v).noLst=true/\SK (O v))
  (h:∀v,W K Q (ds++[(i,dpr pre (dex (cen ren outs c m (X v) (O v) (tmO K f i) rd)))]) (insP i (Step K ((stP' K pre (stB K ds f i)).only (tmO K f i) rd) (opF K f i) (FM ⟨ren,outs,c⟩ m (O v)) (PU ⟨ren,outs,c⟩ (O v)) ((X v).out ⟨ren,outs,c⟩)) (insO i q0 ps)) f (k v))
  (hin:(λv:σ=>((BS K.globs ((stP' K pre (stB K ds f i)).only (tmO K f i) rd) ren (opF K f i).op).map (λt=>(t.1,mdA t.2.1 xs,t.2.2)),fnOk K.P fi,Out.ok ⟨ren,outs,c⟩ m (O v)&&((X v).closed (O v)&&(O v).all (λq=>q.2.2.closed (O v)))))=(λ_=>(some (fi,xs,q,false,oi),true,true)):=by kernel_rfl):W K Q ds ps f (y.bind k):=gW (λe=>dpr pre (dex e)) _ false i c h0 ren outs rd hq ct (.inr hb) h hin
theorem gS0 (i c:Nat) (ct:Ctr K.P K.globs y fi 0 m xs [] X O)
  (h:∀v,W K Q (ds++[(i,dex (cen [] [] c m (X v) (O v) (tmO K f i) []))]) (insP i (Step K ((stB K ds f i).only (tmO K f i) []) (opF K f i) (FM ⟨[],[],c⟩ m (O v)) (PU ⟨[],[],c⟩ (O v)) ((X v).out ⟨[],[],c⟩)) ps) f (k v))
  (hin:(λv:σ=>((BS K.globs ((stB K ds f i).only (tmO K f i) []) [] (opF K f i).op).map (λt=>(t.1,mdA t.2.1 xs,t.2.2)),fnOk K.P fi,Out.ok ⟨[],[],c⟩ m (O v)&&((X v).closed (O v)&&(O v).all (λq=>q.2.2.closed (O v)))))=(λ_=>(some (fi,xs,none,true,[]),true,true)):=by kernel_rfl):W K Q ds ps f (y.bind k):=gS i c [] [] [] ct h hin
end
def RQ {σ:Type} (P:Program) (fn:Func) (X:σ->V) (O:σ->List (Nat×(Nat×O))) (v:σ):Exit->St->Prop:=RetQ P fn (X v) (O v)
def isE (f:Cf):Bool:=match f.k with|[]=>(match f.c with| .skip| .ret=>true|_=>false)|_=>false
theorem G_end {K:Ctx} {Q:Exit->St->Prop} {f:Cf} (h:isE f=true) (hn:Q .normal f.st) (hr:Q .ret f.st):G K Q f:=by
 obtain⟨c,k,st,n⟩:=f;unfold isE at h;split at h
 ·rename_i hk;obtain rfl:k=[]:=hk;split at h
  ·rename_i hc;obtain rfl:c= .skip:=hc;exact λM a w hs=>⟨M,st,hn,hs⟩
  ·rename_i hc;obtain rfl:c= .ret:=hc;exact λM a w hs=>⟨M,st,hr,hs⟩
  ·cases h
 ·cases h
section
variable {K :Ctx} {ρ:Type} {Q:ρ->Exit->St->Prop} {ds:List (Nat×Dir)} {ps:List (Nat×Prop)} {f:Cf} {M:Option ρ}
theorem cR {P:Program} {fn:Func} {X:ρ->V} {O:ρ->List (Nat×(Nat×O))} {v:ρ} (hx:(goq K ds f,isE (to K ds f),retV P (to K ds f).st.rev fn.results.toList,(O v).map (λp=>look p.1 (to K ds f).st.rev.objs))=(some (psO ps),true,some (X v),(O v).map (λp=>some p.2)):=by kernel_rfl):W K (RQ P fn X O) ds ps f (some v):=by
 intro hp r hm;cases hm;simp only[Prod.mk.injEq] at hx;obtain⟨h4,h1,h2,h3⟩:=hx;exact YH h4 (YR hp) (G_end h1 ⟨h2,h3⟩ ⟨h2,h3⟩)
def jQ {ι Λ:Type} (K:Ctx) (Q:ρ->Exit->St->Prop) (k:List Fr) (L:ι->Λ) (S:ι->Λ->St) (J:ι->Option ρ) (r:ρ):Exit->St->Prop
 | .normal,st=>∃i l,L i=l/\J i=some r/\Sub (S i l) st.rev
 |e,st=>KQ K (Q r) k e st
theorem G_nrm {Q:Exit->St->Prop} {f:Cf} (h:kd f=1) (hq:Q .normal f.st):G K Q f:=by
 obtain⟨h1,h2⟩:=qJ9.2.2.1 h;obtain⟨c,k,st,n⟩:=f;obtain rfl:c= .skip:=h1;obtain rfl:k=[]:=h2;exact λM a w hs=>⟨M,st,hq,hs⟩
def jn (K:Ctx) (ds:List (Nat×Dir)) (j:Nat) (f:Cf):Cf:=too K ds j FU f
def jS (K:Ctx) (ds:List (Nat×Dir)) (j:Nat) (sd od:List Nat) (f:Cf) (c:St):St:=genS (jn K ds j f).st (wrC (sqA (jn K ds j f))++sd) od c
theorem cJ' {ι Λ:Type} (j:Nat) (sd od:List Nat) (L:ι->Λ) (S:ι->Λ->St) (J:ι->Option ρ) (h:W K (jQ K Q (jn K ds j f).k L (λi l=>jS K ds j sd od f (S i l)) J) [] [] ⟨sqA (jn K ds j f),[],(jn K ds j f).st,(jn K ds j f).n⟩ M)
  (hk:∀i,W K Q [] [] ⟨sqB (jn K ds j f),(jn K ds j f).k,jS K ds j sd od f (S i (L i)),(jS K ds j sd od f (S i (L i))).top (jn K ds j f).n⟩ (J i)) (hx:(goq K ds f,kd (jn K ds j f))=(some (psO ps),4):=by kernel_rfl):W K Q ds ps f M:=by
 intro hp r hm;simp only[Prod.mk.injEq] at hx;obtain⟨h2,h1⟩:=hx;refine YH (j:=j) (r:=FU) h2 (YR hp) ?_;have hc:=qJ9.1 h1;have hG:H K (jn K ds j f).st (.seq (sqA (jn K ds j f)) (sqB (jn K ds j f))) (KQ K (Q r) (jn K ds j f).k):=by
  intro M' a w hs;refine wpIn_seq (wpIn_mono (G_H (h trivial r hm) M' a w hs) ?_);rintro e a' w' ⟨M2,st',hq,hs'⟩;cases e with
  |normal=>
   obtain⟨i,l,rfl,hi,hsub⟩:=hq;exact G_H (hk i trivial r hi) _ a' w' (hs'.rev.sub hsub)
  |_=>exact⟨M2,st',hq,hs'⟩
 intro M' a w hs;show match (jn K ds j f).c with| .skip=>_| .exit i=>_| .ret=>_|c=>_
 rw[hc];exact hG M' a w hs
theorem cJ {ι:Type} (j:Nat) (S:ι->St) (J:ι->Option ρ) (h:W K (jQ K Q (jn K ds j f).k (λ_=>()) (λi _=>jS K ds j [] [] f (S i)) J) [] [] ⟨sqA (jn K ds j f),[],(jn K ds j f).st,(jn K ds j f).n⟩ M)
  (hk:∀i,W K Q [] [] ⟨sqB (jn K ds j f),(jn K ds j f).k,jS K ds j [] [] f (S i),(jS K ds j [] [] f (S i)).top (jn K ds j f).n⟩ (J i)) (hx:(goq K ds f,kd (jn K ds j f))=(some (psO ps),4):=by kernel_rfl):W K Q ds ps f M:=cJ' j [] [] _ (λi _=>S i) J h hk hx
section
variable {ι Λ:Type} {k:List Fr} {L:ι->Λ} {S:ι->Λ->St} {J:ι->Option ρ}
theorem cE' (i:ι) {l:Λ} (hl:L i=l) (hx:(goq K ds f,kd (to K ds f),HX (S i l) (to K ds f).st.rev)=(some (psO ps),1,HD (S i l)):=by kernel_rfl):W K (jQ K Q k L S J) ds ps f (J i):=by
 intro hp r hm;simp only[Prod.mk.injEq] at hx;obtain⟨h3,h1,h2⟩:=hx;exact YH h3 (YR hp) (G_nrm h1 ⟨i,l,hl,hm,qEF h2⟩)
theorem cE (i:ι) (hx:(goq K ds f,kd (to K ds f),HX (S i (L i)) (to K ds f).st.rev)=(some (psO ps),1,HD (S i (L i))):=by kernel_rfl):W K (jQ K Q k L S J) ds ps f (J i):=cE' i rfl hx
def isX (f:Cf):Bool:=match f.k with|[]=>(match f.c with| .exit _| .ret=>true|_=>false)|_=>false
theorem cO (h:W K Q [] [] ⟨(to K ds f).c,k,(to K ds f).st,(to K ds f).n⟩ M) (hx:(goq K ds f,isX (to K ds f))=(some (psO ps),true):=by kernel_rfl):W K (jQ K Q k L S J) ds ps f M:=by
 intro hp r hm;simp only[Prod.mk.injEq] at hx;obtain⟨h2,h1⟩:=hx;refine YH (j:=FU) (r:=FU) h2 (YR hp) ?_;have h3:=h trivial r hm;change G K _ (to K ds f);generalize to K ds f=g at h1 h3;obtain⟨c,k',st,n⟩:=g;unfold isX at h1;split at h1
 ·rename_i hk;obtain rfl:k'=[]:=hk;split at h1
  ·rename_i hc;obtain rfl:c= .exit _:=hc;exact h3
  ·rename_i hc;obtain rfl:c= .ret:=hc;exact h3
  ·cases h1
 ·cases h1
end
section
variable {ι Λ ω σ:Type}
def lQ (K:Ctx) (b:Nat) (c:Code) (T:ω->St) (n:Nat) (res:ω):Exit->St->Prop:=qGc (qHb b T res) λst=>HL K c (qHb b T res) n st
def mQ (K:Ctx) (b:Nat) (c:Code) (T:ω->St) (R:σ->St->Prop) (n:Nat) (res:σ⊕ω):Exit->St->Prop:=qGc (qKe b T R res) λst=>HL K c (qKe b T R res) n st
def IH {χ:Type} (K:Ctx) (c:Code) (Z:χ->Exit->St->Prop) (L:ι->Λ) (S:ι->Λ->St) (F:Nat->ι->Option χ) (n:Nat):Prop:=∀i l res,L i=l->F n i=some res->HL K c (Z res) n (S i l)
theorem qSb {χ:Type} {c:Code} {Z:χ->Exit->St->Prop} {L:ι->Λ} {S:ι->Λ->St} {F:Nat->ι->Option χ} (hz:∀i,F 0 i=none) (hb:∀n,IH K c Z L S F n->∀i res,F (n+1) i=some res->H K (S i (L i)) c (qGc (Z res) λst=>HL K c (Z res) n st)):∀n,IH K c Z L S F n
 |0=>λi l res _ hm=>by rw[hz i] at hm;cases hm
 |n+1=>λi l res hl hm=>by subst hl;exact HL_succ (hb n (qSb hz hb n) i res hm)
theorem G_exi {Q:Exit->St->Prop} {f:Cf} {b:Nat} (h:kd f=b+10) (hq:Q (.exit b) f.st):G K Q f:=by
 obtain⟨h1,h2⟩:=qJ9.2.2.2.2 b h;obtain⟨c,k,st,n⟩:=f;obtain rfl:c= .exit b:=h1;obtain rfl:k=[]:=h2;exact λM a w hs=>⟨M,st,hq,hs⟩
variable {c :Code} {b n:Nat} {T:ω->St} {R:σ->St->Prop} {L:ι->Λ} {S:ι->Λ->St}
theorem nL' {F:Nat->ι->Option ω} (ih:IH K c (qHb b T) L S F n) (i:ι) {l:Λ} (hl:L i=l) (hx:(goq K ds f,kd (to K ds f),HX (S i l) (to K ds f).st.rev)=(some (psO ps),1,HD (S i l)):=by kernel_rfl):W K (lQ K b c T n) ds ps f (F n i):=by
 intro hp r hm;simp only[Prod.mk.injEq] at hx;obtain⟨h3,h1,h2⟩:=hx;exact YH h3 (YR hp) (G_nrm h1 (qMv _ (qEF h2) (ih i l r hl hm)))
theorem nL {F:Nat->ι->Option ω} (ih:IH K c (qHb b T) L S F n) (i:ι) (hx:(goq K ds f,kd (to K ds f),HX (S i (L i)) (to K ds f).st.rev)=(some (psO ps),1,HD (S i (L i))):=by kernel_rfl):W K (lQ K b c T n) ds ps f (F n i):=nL' ih i rfl hx
theorem nM' {F:Nat->ι->Option (σ⊕ω)} (ih:IH K c (qKe b T R) L S F n) (i:ι) {l:Λ} (hl:L i=l) (hx:(goq K ds f,kd (to K ds f),HX (S i l) (to K ds f).st.rev)=(some (psO ps),1,HD (S i l)):=by kernel_rfl):W K (mQ K b c T R n) ds ps f (F n i):=by
 intro hp r hm;simp only[Prod.mk.injEq] at hx;obtain⟨h3,h1,h2⟩:=hx;exact YH h3 (YR hp) (G_nrm h1 (qMv _ (qEF h2) (ih i l r hl hm)))
theorem nM {F:Nat->ι->Option (σ⊕ω)} (ih:IH K c (qKe b T R) L S F n) (i:ι) (hx:(goq K ds f,kd (to K ds f),HX (S i (L i)) (to K ds f).st.rev)=(some (psO ps),1,HD (S i (L i))):=by kernel_rfl):W K (mQ K b c T R n) ds ps f (F n i):=nM' ih i rfl hx
theorem xL {o:ω} (hx:(goq K ds f,kd (to K ds f),HX (T o) (to K ds f).st.rev)=(some (psO ps),b+10,HD (T o)):=by kernel_rfl):W K (lQ K b c T n) ds ps f (some o):=by
 intro hp r hm;cases hm;simp only[Prod.mk.injEq] at hx;obtain⟨h3,h1,h2⟩:=hx;exact YH h3 (YR hp) (G_exi h1 ⟨kaa b,qEF h2⟩)
theorem xM {o:ω} (hx:(goq K ds f,kd (to K ds f),HX (T o) (to K ds f).st.rev)=(some (psO ps),b+10,HD (T o)):=by kernel_rfl):W K (mQ K b c T R n) ds ps f (some (.inr o)):=by
 intro hp r hm;cases hm;simp only[Prod.mk.injEq] at hx;obtain⟨h3,h1,h2⟩:=hx;exact YH h3 (YR hp) (G_exi h1 ⟨kaa b,o,rfl,qEF h2⟩)
def retR (K:Ctx) (Q:ρ->Exit->St->Prop) (k:List Fr) (g:σ->ρ) (v:σ) (st:St):Prop:=KQ K (Q (g v)) k .ret st
theorem vM {k:List Fr} {g:σ->ρ} {v:σ} (h:W K Q [] [] ⟨.ret,k,(to K ds f).st,(to K ds f).n⟩ (some (g v))) (hx:(goq K ds f,kd (to K ds f))=(some (psO ps),2):=by kernel_rfl):W K (mQ K b c T (retR K Q k g) n) ds ps f (some (.inl v)):=by
 intro hp r hm;cases hm;simp only[Prod.mk.injEq] at hx;obtain⟨h2,h1⟩:=hx;refine YH (j:=FU) (r:=FU) h2 (YR hp) ?_;change G K _ (to K ds f);have h3:=h trivial _ rfl;obtain⟨h4,h5⟩:=qJ9.2.2.2.1 h1;generalize to K ds f=e at h3 h4 h5;obtain⟨c',k',st,n'⟩:=e;obtain rfl:c'= .ret:=h4;obtain rfl:k'=[]:=h5;intro M a w hs;obtain⟨M',st',h4,h5⟩:=h3 M a w hs;exact⟨M',st',⟨v,rfl,h4⟩,h5⟩
def lS (K:Ctx) (ds:List (Nat×Dir)) (sd od:List Nat) (f:Cf) (c:St):St:=genS (to K ds f).st (wrC (lpC (to K ds f))++sd) od c
theorem cL' {N:Nat} {k:ω->Option ρ} (sd od:List Nat) (i:ι) {l:Λ} (L:ι->Λ) (F:Nat->ι->Option ω) (S:ι->Λ->St) (T:ω->St) (hl:L i=l)
  (hb:∀n,IH K (lpC (to K ds f)) (qHb (lpB (to K ds f)) (λo=>lS K ds sd od f (T o))) L (λi l=>lS K ds sd od f (S i l)) F n->∀i,W K (lQ K (lpB (to K ds f)) (lpC (to K ds f)) (λo=>lS K ds sd od f (T o)) n) [] [] ⟨lpC (to K ds f),[],lS K ds sd od f (S i (L i)),(lS K ds sd od f (S i (L i))).top (to K ds f).n⟩ (F (n+1) i))
  (hk:∀o,W K Q [] [] ⟨.skip,(to K ds f).k,lS K ds sd od f (T o),(lS K ds sd od f (T o)).top (to K ds f).n⟩ (k o)) (hx:(goq K ds f,kd (to K ds f),HX (lS K ds sd od f (S i l)) (to K ds f).st.rev)=(some (psO ps),3,HD (lS K ds sd od f (S i l))):=by kernel_rfl) (hz:∀i,F 0 i=none:=by intro i;rfl):W K Q ds ps f ((F N i).bind k):=by
 intro hp r hm;simp only[Prod.mk.injEq] at hx;obtain⟨h3,h1,h2⟩:=hx;refine YH (j:=FU) (r:=FU) h3 (YR hp) ?_;change G K _ (to K ds f);obtain⟨o,ho,hm⟩:=qFb hm;have hc:=qJ9.2.1 h1;have hall:=qSb (K:=K) hz (λn ih i res hm=>G_H (hb n ih i trivial res hm)) N i l o hl ho;have hl2:=qMv _ (qEF h2) hall;have hG:H K (to K ds f).st (.block (lpB (to K ds f)) (.loop (lpC (to K ds f)))) (λe st'=>match e with| .normal=>Sub (lS K ds sd od f (T o)) st'.rev|_=>False):=by
  refine H_block (qWv N (qUq hl2 ?_));intro e st' hq;cases e with
  |exit id=>
   obtain⟨hb,hs⟩:=hq;simp only[qI0,hb,kp];exact hs
  |_=>exact hq.elim
 intro M a w hs;rw[hc];refine wpIn_mono (hG M a w hs) ?_;rintro e a' w' ⟨M',st',hq,hs'⟩;cases e with
 |normal=>exact hk o trivial r hm _ a' w' (hs'.rev.sub hq)
 |_=>exact hq.elim
theorem cL {N:Nat} {k:ω->Option ρ} (i:ι) (F:Nat->ι->Option ω) (S:ι->St) (T:ω->St)
  (hb:∀n,IH K (lpC (to K ds f)) (qHb (lpB (to K ds f)) (λo=>lS K ds [] [] f (T o))) (λ_=>()) (λi _=>lS K ds [] [] f (S i)) F n->∀i,W K (lQ K (lpB (to K ds f)) (lpC (to K ds f)) (λo=>lS K ds [] [] f (T o)) n) [] [] ⟨lpC (to K ds f),[],lS K ds [] [] f (S i),(lS K ds [] [] f (S i)).top (to K ds f).n⟩ (F (n+1) i))
  (hk:∀o,W K Q [] [] ⟨.skip,(to K ds f).k,lS K ds [] [] f (T o),(lS K ds [] [] f (T o)).top (to K ds f).n⟩ (k o)) (hx:(goq K ds f,kd (to K ds f),HX (lS K ds [] [] f (S i)) (to K ds f).st.rev)=(some (psO ps),3,HD (lS K ds [] [] f (S i))):=by kernel_rfl) (hz:∀i,F 0 i=none:=by intro i;rfl):W K Q ds ps f ((F N i).bind k):=cL' [] [] i (λ_=>()) F (λi _=>S i) T rfl hb hk hx hz
theorem cM' {N:Nat} {g:σ->ρ} {k:ω->Option ρ} (sd od:List Nat) (i:ι) {l:Λ} (L:ι->Λ) (F:Nat->ι->Option (σ⊕ω)) (S:ι->Λ->St) (T:ω->St) (hl:L i=l)
  (hb:∀n,IH K (lpC (to K ds f)) (qKe (lpB (to K ds f)) (λo=>lS K ds sd od f (T o)) (retR K Q (to K ds f).k g)) L (λi l=>lS K ds sd od f (S i l)) F n->∀i,W K (mQ K (lpB (to K ds f)) (lpC (to K ds f)) (λo=>lS K ds sd od f (T o)) (retR K Q (to K ds f).k g) n) [] [] ⟨lpC (to K ds f),[],lS K ds sd od f (S i (L i)),(lS K ds sd od f (S i (L i))).top (to K ds f).n⟩ (F (n+1) i))
  (hk:∀o,W K Q [] [] ⟨.skip,(to K ds f).k,lS K ds sd od f (T o),(lS K ds sd od f (T o)).top (to K ds f).n⟩ (k o)) (hx:(goq K ds f,kd (to K ds f),HX (lS K ds sd od f (S i l)) (to K ds f).st.rev)=(some (psO ps),3,HD (lS K ds sd od f (S i l))):=by kernel_rfl) (hz:∀i,F 0 i=none:=by intro i;rfl):W K Q ds ps f ((F N i).bind λu=>Sum.elim (λv=>some (g v)) k u):=by
 intro hp r hm;simp only[Prod.mk.injEq] at hx;obtain⟨h3,h1,h2⟩:=hx;refine YH (j:=FU) (r:=FU) h3 (YR hp) ?_;change G K _ (to K ds f);obtain⟨o,ho,hm⟩:=qFb hm;have hc:=qJ9.2.1 h1;have hall:=qSb (K:=K) hz (λn ih i res hm=>G_H (hb n ih i trivial res hm)) N i l o hl ho;have hl2:=qMv _ (qEF h2) hall;have hG:H K (to K ds f).st (.block (lpB (to K ds f)) (.loop (lpC (to K ds f)))) (λe st'=>match e with| .normal=>∃o',o= .inr o'/\Sub (lS K ds sd od f (T o')) st'.rev| .ret=>KQ K (Q r) (to K ds f).k .ret st'|_=>False):=by
  refine H_block (qWv N (qUq hl2 ?_));intro e st' hq;cases e with
  |exit id=>
   obtain⟨hb,hs⟩:=hq;simp only[qI0,hb,kp];exact hs
  |ret=>
   obtain⟨v,hv,hr⟩:=hq;subst hv;cases hm;exact hr
  |normal=>exact hq.elim
  |goto l=>exact hq.elim
  |panic c=>exact hq.elim
  |outgrown=>exact hq.elim
 intro M a w hs;rw[hc];refine wpIn_mono (hG M a w hs) ?_;rintro e a' w' ⟨M',st',hq,hs'⟩;cases e with
 |normal=>obtain⟨o',rfl,hsub⟩:=hq;exact hk o' trivial r hm _ a' w' (hs'.rev.sub hsub)
 |ret=>exact⟨M',st',hq,hs'⟩
 |exit id=>exact hq.elim
 |goto l=>exact hq.elim
 |panic c=>exact hq.elim
 |outgrown=>exact hq.elim
theorem cM {N:Nat} {g:σ->ρ} {k:ω->Option ρ} (i:ι) (F:Nat->ι->Option (σ⊕ω)) (S:ι->St) (T:ω->St)
  (hb:∀n,IH K (lpC (to K ds f)) (qKe (lpB (to K ds f)) (λo=>lS K ds [] [] f (T o)) (retR K Q (to K ds f).k g)) (λ_=>()) (λi _=>lS K ds [] [] f (S i)) F n->∀i,W K (mQ K (lpB (to K ds f)) (lpC (to K ds f)) (λo=>lS K ds [] [] f (T o)) (retR K Q (to K ds f).k g) n) [] [] ⟨lpC (to K ds f),[],lS K ds [] [] f (S i),(lS K ds [] [] f (S i)).top (to K ds f).n⟩ (F (n+1) i))
  (hk:∀o,W K Q [] [] ⟨.skip,(to K ds f).k,lS K ds [] [] f (T o),(lS K ds [] [] f (T o)).top (to K ds f).n⟩ (k o)) (hx:(goq K ds f,kd (to K ds f),HX (lS K ds [] [] f (S i)) (to K ds f).st.rev)=(some (psO ps),3,HD (lS K ds [] [] f (S i))):=by kernel_rfl) (hz:∀i,F 0 i=none:=by intro i;rfl):W K Q ds ps f ((F N i).bind λu=>Sum.elim (λv=>some (g v)) k u):=cM' [] [] i (λ_=>()) F (λi _=>S i) T rfl hb hk hx hz
end
end
abbrev oI (n:Int):V1:= .one (ci n)
abbrev oB (b:Bool):V1:= .one (cb b)
abbrev oL {α:Type} [Inhabited α] (e:α->List C) (l:List α):V1:= .one (tl e daa l)
abbrev U2 {A B Z:Type} (g:A->B->Z) (p:A×B):Z:=g p.1 p.2
abbrev U3 {A B C Z:Type} (g:A->B->C->Z) (p:A×B×C):Z:=g p.1 p.2.1 p.2.2
abbrev U4 {A B C D Z:Type} (g:A->B->C->D->Z) (p:A×B×C×D):Z:=g p.1 p.2.1 p.2.2.1 p.2.2.2
abbrev U5 {A B C D E Z:Type} (g:A->B->C->D->E->Z) (p:A×B×C×D×E):Z:=g p.1 p.2.1 p.2.2.1 p.2.2.2.1 p.2.2.2.2
abbrev U6 {A B C D E F Z:Type} (g:A->B->C->D->E->F->Z) (p:A×B×C×D×E×F):Z:=g p.1 p.2.1 p.2.2.1 p.2.2.2.1 p.2.2.2.2.1 p.2.2.2.2.2
abbrev V2 {A B Z:Type} (g:Nat->A->B->Z) (n:Nat):A×B->Z:=U2 (g n)
abbrev V3 {A B C Z:Type} (g:Nat->A->B->C->Z) (n:Nat):A×B×C->Z:=U3 (g n)
abbrev V4 {A B C D Z:Type} (g:Nat->A->B->C->D->Z) (n:Nat):A×B×C×D->Z:=U4 (g n)
abbrev V5 {A B C D E Z:Type} (g:Nat->A->B->C->D->E->Z) (n:Nat):A×B×C×D×E->Z:=U5 (g n)
abbrev V6 {A B C D E F Z:Type} (g:Nat->A->B->C->D->E->F->Z) (n:Nat):A×B×C×D×E×F->Z:=U6 (g n)
section
variable {K :Ctx} {ρ:Type} {Q:ρ->Exit->St->Prop} {ds:List (Nat×Dir)} {ps:List (Nat×Prop)} {f:Cf} {A M:Option ρ}
theorem gJ (i:Nat) {z:Int} {m:Nat} (h:W K Q (ds++[(i,dN),(i+1,dN)]) (insP (i+1) (z.toNat<m) (insP i (0<=z/\z<(m:Int)) ps)) f A):W K Q ds ps f (bif inb z m then A else none):=λhp r hm=>h (KI (zB (qI (BL hm).1)) (KI (qI (BL hm).1) hp)) r (BL hm).2
theorem gA {α:Type} [Inhabited α] (i id jd k sz:Nat) {l:List α} {b:Nat} (e:α->List C) (x:α) (h:W K Q (ds++[(i,drw id 0 (rf e [x])),(i+1,drw jd k (rf e (l++[x])))]) (insP (i+1) (1<=1/\(∀j,j<1->(rf e [x] j).length=sz)/\l.length<=l.length/\(l.length+1)*b<=140737488355328/\∀j,j<l.length+1->rf e (l++[x]) j=if j<l.length then rf e l j else rf e [x] (j-l.length)) (insP i (∀m,m<1->rf e [x] m=qD2 ([x].flatMap e) sz m) ps)) f A) (hs:(λx=>(e x).length)=λ_=>sz:=by kernel_rfl):W K Q ds ps f (bif room (l.length+1) b then A else none):=λhp r hm=>
 h (KI (apP e daa l [x] l.length 1 sz b (1<=1) (kq _) rfl rfl (congrFun hs) (wM (BL hm).1)) (KI (litP e daa sz (congrFun hs) [x] 1 rfl) hp)) r (BL hm).2
theorem gE0 (r:Nat) (h:W K Q [] [] (rgT K r [] ds [] f) M) (hx:rgQ K r [] ds [] f=some (psO ps):=by kernel_rfl):W K Q ds ps f M:=gE r [] [] o0 o0 h (by rw[hx];cases psO ps<;>rfl)
end
theorem W_G {K:Ctx} {ρ:Type} {Q:ρ->Exit->St->Prop} {f:Cf} {y:Option ρ} (h:W K Q [] [] f y) {v:ρ} (hv:y=some v):G K (Q v) f:=h trivial v hv
theorem ctr {P:Program} {gl:List (Nat×C)} {σ:Type} {y:Option σ} {f n m:Nat} {xs:List V1} {oi:List (Nat×(Nat×O))} {X:σ->V} {O:σ->List (Nat×(Nat×O))} (h:∀v,y=some v->CtX P gl f n m xs oi (X v) (O v)):Ctr P gl y f n m xs oi X O:=h
theorem Ctr.at {P:Program} {gl:List (Nat×C)} {σ:Type} {y:Option σ} {f n m:Nat} {xs:List V1} {oi:List (Nat×(Nat×O))} {X:σ->V} {O:σ->List (Nat×(Nat×O))} (h:Ctr P gl y f n m xs oi X O) {v:σ} (hv:y=some v):CtX P gl f n m xs oi (X v) (O v):=h v hv
attribute [irreducible] W Ctr
end Go.SL
namespace Go.SL
open Go.RowKit Go.ChangeShapes Go.WideShapes
def qDz (P:Program):List Field->Nat
 |[]=>0
 |f::r=>P.cellsOf f.type+qDz P r
structure qMC (P:Program) (fs:List Field) (off:Nat) {T:Type} (e:T->List C) (wf:T->Prop) (D:∀H:Type,List (DataW H)->T->Prop):Prop where
 sz:∀r,(e r).length=qDz P fs
 rd:∀(H:Type) (enc:TypeId×Value->H) (w:World) (held:Bool) (fuel:Nat) (cs:List Value) (xs:List (DataW H×List MemPlace)),xs.length=fs.length->(∀(i:Nat) (f:Field),fs[i]? =some f->DataW.trod enc P w 0 (λ_=>true) held fuel f.type ((cs.drop f.offset).take (P.cellsOf f.type))=xs[i]?)->
  ∃r,wf r/\Rc w (e r) ((cs.drop off).take (qDz P fs))/\D H (xs.map (·.1)) r
def UQ (H:Type) (ds:List (DataW H)) (_:Unit):Prop:=ds=[]
def zX {T0 T1:Type} (D0:∀H:Type,DataW H->T0->Prop) (D1:∀H:Type,List (DataW H)->T1->Prop) (H:Type) (ds:List (DataW H)) (r:T0×T1):Prop:=∃d rest,ds=d::rest/\D0 H d r.1/\D1 H rest r.2
def SD {T:Type} (D:∀H:Type,List (DataW H)->T->Prop) (H:Type) (d:DataW H) (r:T):Prop:=∃ds,d= .agg ds/\D H ds r
def HR {T S:Type} (g:T->S) (D:∀H:Type,DataW H->T->Prop) (H:Type) (d:DataW H) (s:S):Prop:=∃r,g r=s/\D H d r
theorem FF {P:Program} (off:Nat):qMC P [] off (λ_:Unit=>[]) (λ_=>True) UQ:=
 ⟨λ_=>rfl,λH enc w held fuel cs xs hl _=>⟨(),trivial,⟨by simp[qDz],λj hj=>by simp at hj⟩,by rw[UQ];simpa using hl⟩⟩
theorem zY {P:Program} {f:Field} {fs:List Field} {off off':Nat} {T0 T1:Type} {e0:T0->List C} {e1:T1->List C} {wf0:T0->Prop} {wf1:T1->Prop} {D0:∀H:Type,DataW H->T0->Prop} {D1:∀H:Type,List (DataW H)->T1->Prop}
  (h0:jG P f.type e0 wf0 D0) (h1:qMC P fs off' e1 wf1 D1) (ho:f.offset=off) (ho':off+P.cellsOf f.type=off'):qMC P (f::fs) off (λr:T0×T1=>e0 r.1++e1 r.2) (λr=>wf0 r.1/\wf1 r.2) (zX D0 D1):=by
 refine⟨λr=>by rw[ub,h0.sz,h1.sz];rfl,λH enc w held fuel cs xs hl hf=>?_⟩
 match xs,hl with
 |x::xs,hl=>
  have k0:=hf 0 f rfl;rw[List.getElem?_cons_zero] at k0;obtain⟨r0,w0,c0,d0⟩:=h0.rd _ _ _ _ _ _ _ k0;obtain⟨r1,w1,c1,d1⟩:=h1.rd H enc w held fuel cs xs (by simpa using hl) (λi f' hi=>by
   have:=hf (i+1) f' (by simpa using hi);simpa using this)
  refine⟨(r0,r1),⟨w0,w1⟩,?_,⟨x.1,xs.map (·.1),rfl,d0,d1⟩⟩;have:=c0.append c1;rw[ho] at this;have e:(cs.drop off).take (P.cellsOf f.type)++(cs.drop off').take (qDz P fs)=(cs.drop off).take (qDz P (f::fs)):=by
   rw[<-ho',<-List.drop_drop,qDz,List.take_add]
  rwa [e] at this
theorem jW {P:Program} {t:TypeId} {fs:Array Field} {T:Type} {e:T->List C} {wf:T->Prop} {D:∀H:Type,List (DataW H)->T->Prop} (ht:P.underlying t=some (.struct fs)) (h:qMC P fs.toList 0 e wf D) (hs:P.cellsOf t=qDz P fs.toList):jG P t e wf (SD D):=by
 refine⟨λr=>by rw[h.sz,hs],λH enc w held fuel cs x hx=>?_⟩;obtain⟨xs,n,_,rfl,hl,hlen,hf⟩:=DataW.trod_struct ht hx;obtain⟨r,h1,h2,h3⟩:=h.rd H enc w held n cs xs (by simpa using hlen) (λi f hi=>hf i f (by simpa using hi));refine⟨r,h1,?_,⟨_,rfl,h3⟩⟩;rw[uI,gx (by omega)] at h2;exact h2
theorem ZB {P:Program} {t:TypeId} {T S:Type} {e:T->List C} {wf:T->Prop} {D:∀H:Type,DataW H->T->Prop} (h:jG P t e wf D) (g:T->S) {e':S->List C} {wf':S->Prop} (he:∀r,e' (g r)=e r) (hsz:∀s,(e' s).length=P.cellsOf t) (hw:∀r,wf r->wf' (g r)):jG P t e' wf' (HR g D):=
 qW5 h g he hsz hw (λ_ _ r hd=>⟨r,rfl,hd⟩)
def strok (s:ByteArray):Prop:=s.size<=maxLen
def qLH (H:Type) (d:DataW H) (s:ByteArray):Prop:=d= .lit (.string s.data.toList)
theorem qSw {P:Program} {t:TypeId} (ht:P.underlying t=some .string) (hc:P.cellsOf t=1):jG P t e_str strok qLH:=by
 refine⟨λ_=>hc.symm,λH enc w held fuel cs x h=>?_⟩;obtain⟨s,rfl,rfl,hs⟩:=DataW.trod_string ht h;exact⟨s,hs,Rc.one (.val _ rfl),rfl⟩
end Go.SL
namespace Go.SL
theorem qYq {w:World} {g:Nat} {cs:Array Value} {e:TypeId} {fz:Nat×Nat} {xs:List C} (hh:w.heap[g]? =some (.cells cs e fz)) (h:Rc w xs cs.toList):
  IRep w (λ_=>True) (.lptr xs) (.pointer (some ⟨g,0,none⟩)):=by
 refine .lptr g 0 xs (λj=>cs.toList.getD j undef) (λ_ _=>trivial) (λj hj=>?_) (λj hj=>h.2 j hj);have hl:j<cs.size:=by rw[<-h.1] at hj;simpa using hj
 simp[World.cell?,hh,kz,ki,hl]
open Go.RowKit Go.Proofs Go.Shelf Go.Sort Go.Lib
theorem qQb {B:Nat->Prop} {W W':World} (h:EM true B W W') (hB:∀b,¬B b):∃q os',W'=grow (W.drewN q) os':=by
 obtain⟨h1,h2,h3,h4,h5,h6⟩:=h;refine⟨W'.drawn-W.drawn,W'.heap.extract W.heap.size W'.heap.size,?_⟩;have hh:W'.heap=W.heap++W'.heap.extract W.heap.size W'.heap.size:=by
  apply Array.ext_getElem?;intro i;by_cases hi:i<W.heap.size
  ·rw[uE hi];exact h5 i hi (hB i)
  ·rw[Array.getElem?_append_right (by omega),Array.getElem?_extract];split
   ·congr 1;omega
   ·exact Array.getElem?_eq_none (by omega)
 have h6:=h6 rfl;have hd:W'.drawn=W.drawn+(W'.drawn-W.drawn):=by omega
 unfold grow World.drewN;cases W;cases W';simp only at*;subst h1 h2 h3;rw[<-hh,<-hd]
section
variable {α :Type} [Inhabited α] (encV:α->List Value) (k:Nat) (w:World) (blk m:Nat) (dk:Array α) (os:Array Obj)
theorem qHR {c:Nat} (hc:c<w.heap.size) (hne:c≠blk):(sortWorldK encV k w blk 0 m dk os).heap[c]? =w.heap[c]? :=by
 unfold sortWorldK grow putRowK putRow mapBlock Sort.ahead;rw[uE (by simpa using hc),gH,if_neg (Ne.symm hne)]
theorem qL5 {arr:Array Value} {e:TypeId} (hh:w.heap[blk]? =some (.cells arr e (0,0))):(sortWorldK encV k w blk 0 m dk os).heap[blk]? =some (.cells (putCells id 0 (flatK encV k dk) arr) e (0,0)):=by
 have hb:blk<w.heap.size:=(ui.1 hh).1;unfold sortWorldK grow putRowK putRow mapBlock Sort.ahead;rw[uE (by simpa using hb),gH,if_pos rfl];show(w.heap[blk]?).map _=_;rw[hh];rfl
theorem qUP :w.heap.size<=(sortWorldK encV k w blk 0 m dk os).heap.size:=by
 unfold sortWorldK;rw[size_grow,size_putRowK];exact da _ _
theorem sw_get {arr:Array Value} {n i j:Nat} (hd:dk.size=n) (hn:n*k<=arr.size) (hi:i<n) (hj:j<k) (hk:∀x,(encV x).length=k):(putCells id 0 (flatK encV k dk) arr).getD (i*k+j) undef=(encV dk[i]!)[j]! :=by
 have lt:i*k+j<n*k:=by
  have:=kS k (show i+1<=n from hi);rw[uo,dg] at this;omega
 have e1:(i*k+j)/k=i:=(blk_iff k i _ (by omega)).1 ⟨by omega,by omega⟩;have e2:(i*k+j) % k=j:=by rw[Nat.mod_eq_sub_div_mul,e1];omega
 have hsz:(flatK encV k dk).size=n*k:=by rw[size_flatK,hd]
 have hl:i*k+j<arr.size:=by omega
 unfold putCells;rw[kw,Array.getElem?_mapIdx,kE hl];simp only[kZ,kJ];rw[if_pos ⟨ud _,by rw[hsz];omega⟩,kO];show(flatK encV k dk)[i*k+j]! =_;rw[get_flatK _ _ _ _ (by rw[hd];exact lt),e1,e2]
end
theorem qOK {α:Type} (a:Array α) {i:Nat} (h:i<a.size) (d:α):a.getD i d=a[i]:=by rw[kw,kE h];rfl
theorem fn0 {w:World} {M:Mem} {g:Nat} {v:Value} (h:CRep w M (.fn g []) v):v= .func (.func g) #[] #[]:=by
 obtain⟨vs,hv,hs,_⟩:=h;have:vs= #[]:=Array.eq_empty_of_size_eq_zero hs;subst this;exact hv
theorem qYS {P:Program} {ρ:Ren} {α:Type} [Inhabited α] {gl:List (Nat×C)} (L:SlLaysF0.n6 P ρ) (k:Nat) (aE:∀w,(isAgg (ρ.t 24)).run P w= .ok true w) (zE:∀w,(Go.sizeOf (ρ.t 24)).run P w= .ok k w)
  (encV:α->List Value) (hk:∀x,(encV x).length=k) (h1:∀x,∀v∈encV x,v.oneCell'=true) (cmp:α->α->Option Int) (cf:α->α->Int) (hcf:∀x y,cmp x y=some (cf x y)) (hO:SWO (ltOf cf)) (hA:∀x y,ltOf cf x y=false->ltOf cf y x=false->x=y)
  (g eid:Nat) (eg:∀args w,(callFunc g args).run P w= .ok (.enter g args) w)
  (hg:∀x y,CtX P (markG::gl) g 0 0 [.agg ((encV x).map .val),.agg ((encV y).map .val)] [] (.v (.one (.val (.int .i64 (cf x y))))) [])
  (l:List α) (h0:0<l.length) (hlt:l.length<4611686018427387904):
  CtX P gl (ρ.f 6) 1 1 [.one (.own 0 0 k l.length),.one (.fn g [])] [(0,(0,.row eid k l.length (rowf (λx=>(encV x).map .val) daa l)))] .undef [(0,(0,.row eid k (MD cmp l).length (rowf (λx=>(encV x).map .val) daa (MD cmp l))))]:=by
 intro w M vs hgl hin ha;obtain⟨hsz,hargs⟩:=ha;have hr:=hin.objs 0 0 _ rfl;have a0:=hargs 0 (by simp);have a1:=hargs 1 (by simp);have e1:vs.getD 1 undef= .func (.func g) #[] #[]:=fn0 a1;rcases a0 with⟨hl0,_⟩|⟨b,cap,e0,hlc,hcm,hb⟩
 ·omega
 obtain⟨hbl,arr,et,hh,has⟩:=hb hr.ver;obtain⟨hver,hrow⟩:=hr;rcases hrow with⟨hn,_⟩|⟨b',arr',hb',hh',hns,hcr⟩
 ·rw[hbl] at hn;cases hn
 have:b'=b:=kQ (hb'.symm.trans hbl);subst this;rw[hh] at hh';cases hh';have hvs:vs= #[.slice (some ⟨b',0,none⟩) l.toArray.size cap,.func (.func g) #[] #[]]:=by
  apply Array.ext
  ·simpa using hsz
  ·intro i hi1 hi2;have hi:i<2:=by simpa using hi2
   have:i=0\/i=1:=by omega
   rcases this with rfl|rfl
   ·rw[<-qOK _ hi1 undef,e0];rfl
   ·rw[<-qOK _ hi1 undef,e1];rfl
 have hblt:b'<w.heap.size:=(ui.1 hh).1;have hnA:¬M.A b':=(hin.rng 0 0 b' hver hbl).2.2;have hcell:∀i j,i<l.length->j<k->arr.getD (i*k+j) undef=(encV (l.getD i daa)).getD j undef:=by
  intro i j hi hj;have:=(hcr i hi).2 j hj;unfold rowf at this;have hj':j<(encV (l.getD i daa)).length:=by rw[hk];exact hj
  simp only[ki,kI] at this hj'⊢;rw[ks hj'] at this⊢;simp only[kZ,kJ] at this⊢;exact this.val_eq
 have hH:HoldsK encV k w b' 0 l.toArray:=by
  intro t ht;rw[size_flatK,List.size_toArray] at ht;have k0:0<k:=by
   rcases kac k with h|h
   ·subst h;simp at ht
   ·exact h
  have hi:t/k<l.length:=dQ (by rw[dj];exact ht);have hm:=kT t k0;have htk:t/k*k+t % k=t:=by rw[dj];exact Nat.div_add_mod t k
  have hc:=hcell (t/k) (t % k) hi hm;rw[htk] at hc;have htlt:t<arr.size:=by omega
  refine⟨?_,?_⟩
  ·rw[get_flatK _ _ _ _ (by simpa using ht)];rw[show(0+t)=t by omega];have:w.cell? ⟨b',t,none⟩=arr[t]? :=by unfold World.cell?;rw[hh];rfl
   rw[this,kE htlt];rw[qOK _ htlt] at hc;rw[hc]
   congr 1
   have hj':t % k<(encV (l.getD (t/k) daa)).length:=by rw[hk];exact hm
   have hge:l.toArray[t/k]! =l.getD (t/k) daa:=by
    rw[ki,ks hi,getElem!_pos _ _ (by simpa using hi)];rfl
   show _=(encV l.toArray[t/k]!)[t % k]!;rw[hge,getElem!_pos (encV (l.getD (t/k) daa)) _ hj',ki,ks hj'];rfl
  ·unfold World.frozen?;rw[hh];simp
 have hcmp:CmpLays P g #[] encV k cf b' 0 l.toArray.size w:=by
  intro m os dk hds x y;have hbase:=hg x y (sortWorldK encV k w b' 0 m dk os) (Mem.of M.A) #[.agg (encV x).toArray,.agg (encV y).toArray] ?_ ?_ ?_
  ·refine hbase.mono ?_;rintro e w' ⟨v,M',he,hbel,_,hret⟩;have hv:=hret.val;refine⟨?_,qQb hbel ?_⟩
   ·rw[he];exact congrArg _ (IRep.val_eq hv)
   ·rintro b ⟨i,k',hv,_⟩;cases hv
  ·refine GR.mark λq c hq=>?_;refine(hgl q c hq).move (λc' hA' hc'=>?_) (λ_ h _=>h);exact qHR encV k w b' m dk os hc' (λh=>hnA (h▸hA'))
  ·exact⟨λi j k l b h=>(by cases h),λi k b h=>(by cases h),λi h=>absurd rfl h,λi k o h=>(by cases h)⟩
  ·have one:∀z:α,zC (sortWorldK encV k w b' 0 m dk os) (Mem.of M.A) (.agg ((encV z).map .val)) (.agg (encV z).toArray):=by
    intro z;refine⟨_,rfl,⟨by simp,λj hj=>?_⟩⟩;have hj':j<(encV z).length:=by simpa using hj
    simp only[ki,kI,ks hj',kZ,kJ,kw,dJ];exact .val _ (h1 z _ (uJ hj'))
   refine⟨rfl,λj hj=>?_⟩;have hj2:j<2:=hj;have:j=0\/j=1:=by omega
   rcases this with rfl|rfl
   ·exact one x
   ·exact one y
 have key:=AnyQ.slices_SortFunc L k aE zE encV hk h1 cf hO g #[] b' 0 cap l.toArray w eg hcmp hH hblt (by simpa using hlt);rw[hvs];refine key.mono ?_;rintro e w' ⟨he,d',n,os,hperm,hsorted,rfl⟩;have hu:d'.toList=MD cmp l:=by
  have hsz':d'.size=l.toArray.size:=hperm.1;have e1:d'.extract 0 l.toArray.size=d':=by rw[<-hsz'];exact Array.extract_size
  have hpm:=hperm.2.2;rw[e1,Array.extract_size] at hpm;have hle:(λx y=>!decide ((cmp y x).getD 0<0))=λx y=>!ltOf cf y x:=by
   funext x y;simp only[hcf,kJ,ltOf]
  unfold MD;rw[hle];refine List.Perm.eq_of_pairwise (le:=λx y=>(!ltOf cf y x)=true) ?_ ?_ ?_ (hpm.trans (KN _ l).symm)
  ·intro a b _ _ h1 h2;simp only[uF] at h1 h2;exact hA a b h2 h1
  ·rw[dt];intro i j hi hj hij;have hi':i<d'.size:=by simpa using hi
   have hj':j<d'.size:=by simpa using hj
   have:=hsorted i j (ud _) hij (by omega);rw[getElem!_pos d' j hj',getElem!_pos d' i hi'] at this;simpa using this
  ·refine EC ?_ ?_ l
   ·intro a b c h1 h2;simp only[uF] at h1 h2⊢;exact hO.ntrans c b a h2 h1
   ·intro a b;cases h:ltOf cf b a with
    |false=>simp
    |true=>
     right;cases h':ltOf cf a b with
     |false=>rfl
     |true=>have:=hO.trans a b a h' h;rw[hO.irrefl] at this;cases this
 have hds:d'.size=l.length:=by have:=hperm.1;simpa using this
 have hlen:(MD cmp l).length=l.length:=by rw[<-hu];simpa using hds
 refine⟨undef,{M with A:=λb=>M.A b\/w.heap.size<=b},he,⟨rfl,rfl,rfl,qUP _ _ _ _ _ _ _,λc hc hno=>qHR _ _ _ _ _ _ _ hc λh=>hno ⟨0,0,hver,by rw[h];exact hbl⟩,λ_=>da _ _⟩,?_,?_⟩
 ·intro c arr' e' hc;by_cases hcb:c=b'
  ·subst hcb;rw[hh] at hc;cases hc;exact⟨_,qL5 _ _ _ _ _ _ _ hh,by simp[putCells]⟩
  ·exact⟨arr',by rw[qHR _ _ _ _ _ _ _ (ui.1 hc).1 hcb];exact hc,rfl⟩
 ·refine⟨λi hi=>?_,hin.inj,λi k' b hv hb=>?_,λi k' k'' _ _ _=>rfl,λb=>Iff.rfl,rfl,λi k' o ho=>?_⟩
  ·have:=hin.only i hi;unfold hits at this⊢;rw[look_cons] at this⊢;split at this
   ·rename_i h;rw[if_pos h];rfl
   ·cases this
  ·exact⟨.inr ⟨⟨k',hv⟩,hb⟩,uA (hin.rng i k' b hv hb).2.1 (qUP _ _ _ _ _ _ _)⟩
  ·rw[look_cons] at ho;split at ho
   ·rename_i h;subst h;cases ho;refine⟨hver,.inr ⟨b',_,hbl,qL5 _ _ _ _ _ _ _ hh,?_,λi hi=>⟨?_,λj hj=>?_⟩⟩⟩
    ·rw[hlen];simpa[putCells] using hns
    ·unfold rowf;simp[hk]
    ·rw[hlen] at hi;rw[sw_get encV k d' hds hns hi hj hk];have hge:d'[i]! =(MD cmp l).getD i daa:=by
      rw[<-hu,ki,dq,getElem!_pos _ _ (by omega),kE (by omega)];rfl
     rw[hge];unfold rowf;have hj':j<(encV ((MD cmp l).getD i daa)).length:=by rw[hk];exact hj
     rw[getElem!_pos (encV ((MD cmp l).getD i daa)) _ hj'];generalize (MD cmp l).getD i daa=z at hj'⊢;simp only[ki,kI,ks hj',kZ,kJ];exact .val _ (h1 z _ (uJ hj'))
   ·cases ho
end Go.SL
namespace Go.SL
open Go.RowKit
def IR (a:Act) (D:List Deferred):Act:={a with defers:=a.defers++D}
theorem qOR (a:Act) (D:List Deferred) (dst:Option Nat) (v:Value):IR (a.put dst v) D=(IR a D).put dst v:=by cases dst<;>rfl
def qQQ (D:List Deferred) (J:Array Value->Prop) (K:Act->World->Prop) (a':Act) (w':World):Prop:=∃a,a'=IR a D/\K a w'/\J a.tmps
section
variable {F :Fence} {n:Nat} {P:Program} {D:List Deferred} {J:Array Value->Prop}
theorem wpIn_fr {o:Oper} {a:Act} {w:World} {K:Act->World->Prop} {Q:Exit->Act->World->Prop} (hQ:∀e a w,e≠ .normal->¬Q e a w) (hJ:∀v,J (a.put o.dst v).tmps) (h:o.wpIn F n P a w K Q):o.wpIn F n P (IR a D) w (qQQ D J K) (λe=>qQQ D J (Q e)):=by
 have hev:(IR a D).eval=a.eval:=by funext x;cases x<;>rfl
 unfold Oper.wpIn at*;rw[hev];refine⟨h.1,?_⟩;have h:=h.2;have hp:∀v w',K (a.put o.dst v) w'->qQQ D J K ((IR a D).put o.dst v) w':=λv w' hk=>⟨_,(qOR a D o.dst v).symm,hk,hJ v⟩
 generalize (o.semAt F.round a.eval).run P w=r at*;cases r with
 |ok x w'=>
  cases x with
  |value v=>exact hp _ _ h
  |skip=>exact hp _ _ h
  |defer d=>
   refine⟨_,?_,h,?_⟩
   ·cases o.dst<;>rfl
   ·have:=hJ undef;cases ho:o.dst<;>rw[ho] at this<;>exact this
  |enter f args=>
   refine⟨h.1,CallsIn.mono' h.2 (λe w'' he=>?_)⟩;cases e with
   |returned v=>exact hp _ _ he
   |panicked c=>exact absurd he (hQ _ _ _ (by simp))
   |outgrown=>obtain⟨a2,w2,hq'⟩:=he;exact absurd hq' (hQ _ _ _ (by simp))
  |row r args=>exact⟨h.1,RowsIn.mono h.2 (λ_ _ he=>hp _ _ he)⟩
  |round l f tmps as2 b=>
   refine⟨h.1,RoundIn.mono h.2 (λe w'' he=>?_)⟩;cases e with
   |returned v=>exact hp _ _ he
   |panicked c=>exact absurd he (hQ _ _ _ (by simp))
   |outgrown=>obtain⟨a2,w2,hq'⟩:=he;exact absurd hq' (hQ _ _ _ (by simp))
  |_=>exact h.elim
 |halt x w'=>
  cases x with
  |panic v=>exact absurd h (hQ _ _ _ (by simp))
  |_=>exact h.elim
theorem qD8 {md:Region.Mode} {ops:Array Oper} {Q:Exit->Act->World->Prop} (hQ:∀e a w,e≠ .normal->¬Q e a w) (hJ:∀(i:Nat) (o:Oper),ops[i]? =some o->∀(a:Act) v,J a.tmps->J (a.put o.dst v).tmps):∀(fuel:Nat) (listed:Array Bool) (a:Act) (w:World),J a.tmps->wpAnyIn F n P md ops Q fuel listed a w->wpAnyIn F n P md ops (λe=>qQQ D J (Q e)) fuel listed (IR a D) w
 |0,listed,a,w,h0,h=>⟨h.1,a,rfl,h.2,h0⟩
 |fuel+1,listed,a,w,h0,h=>by
  refine⟨λhr=>⟨a,rfl,h.1 hr,h0⟩,λi hi=>?_⟩;have h2:=h.2 i hi;have hev:(IR a D).eval=a.eval:=by funext x;cases x<;>rfl
  unfold wpOpIn at*;cases ho:ops[i]? with
  |none=>
   rw[ho] at h2;exact qD8 hQ hJ fuel _ a w h0 h2
  |some o=>
   rw[ho] at h2;simp only at h2⊢;have hy:yielded ops (IR a D).tmps=yielded ops a.tmps:=rfl;rw[hy];split
   ·rename_i hw;rw[if_pos hw] at h2;refine Oper.wpIn_mono (λa' w'=>?_) (wpIn_fr (D:=D) (J:=J) hQ (λv=>hJ i o ho a v h0) h2);rintro⟨a1,rfl,hk,h1⟩;exact qD8 hQ hJ fuel _ a1 w' h1 hk
   ·rename_i hw;rw[if_neg hw] at h2;refine⟨by rw[hev];exact h2.1,?_⟩;have:=qD8 hQ hJ fuel _ (a.put o.dst undef) w (hJ i o ho a undef h0) h2.2;rw[qOR] at this;exact this
end
theorem R_drX {K:Ctx} {st:St} (fn:Func) (nn id:Nat) (dirs:List (Nat×Dir)) (fin:List Fin) (bm:List Nat) (nid:Nat) (want:St) {q:Option Prop} (hq:oP q) (hc:nd fn nn= .region id (rg fn nn) true) (h:seen want (qNH K (rg fn nn) [] dirs fin bm st nid)=wish want q)
  {M:Mem} {a:Act} {w:World} (hs:Sim1 K M st a w) (D:List Deferred) (J:Array Value->Prop) (h0:J a.tmps) (hJ:∀(i:Nat) (o:Oper),(rg fn nn)[i]? =some o->∀(a:Act) v,J a.tmps->J (a.put o.dst v).tmps):
  (nd fn nn).wpIn K.F 0 K.P (λe a' w'=>e= .normal/\∃a1 M1,a'=IR a1 D/\Sim1 K M1 want a1 w'/\J a1.tmps) (IR a D) w:=by
 rw[hc];generalize rg fn nn=ops at h hJ;obtain⟨st',h1,hs1⟩:=qLh h;unfold qNH at h1;split at h1
 ·rename_i st0 p0 h00;split at h1
  ·rename_i st2 q2 h2;cases h1;obtain⟨p1,p2⟩:=ZJ hq;obtain⟨M0,hs0⟩:=TA h00 p1 hs;unfold drawF at h2;split at h2
   ·rename_i es p hr;cases hb:BQ K.nt ops&&(qB3 ops bm&&(NJ ops bm 0 es&&(es.all (λe=>nvOk e.nv e.ob&&DF K.m e.nv)&&es.all (λe=>st0.freeB e.nv)))) with
    |false=>rw[hb] at h2;cases h2
    |true=>
     rw[hb] at h2;simp only[kp] at h2;simp only[kv (a:=BQ K.nt ops),kv (a:=qB3 ops bm),kv (a:=NJ ops bm 0 es),kv (a:=es.all (λe=>nvOk e.nv e.ob&&DF K.m e.nv))] at hb;obtain⟨b1,b2,b3,b4,b5⟩:=hb;split at h2
     ·rename_i st3 q3 hf;cases h2;obtain⟨p3,p4⟩:=ZJ p2;obtain⟨i1,i2⟩:=CQ hr p3;have hA:=qUn (Q:=λe st'=>e= .normal/\st'=qBY ops 0 st0 es) es bm b1 (by rw[i1];simp) b2 b3 b4 b5 i2 ⟨rfl,rfl⟩ M0 a w hs0;have hX:=qD8 (D:=D) (J:=J) (λe a w hne=>fun⟨M,st,hq,_⟩=>hne hq.1) hJ _ _ a _ h0 hA;refine wpIn_mono (wpIn_region_any K.mixed hX) ?_;rintro e a' w' ⟨a1,rfl,⟨M3,st4,⟨rfl,rfl⟩,hs3⟩,h1⟩;obtain⟨M4,hs4⟩:=TA hf p4 hs3;exact⟨rfl,a1,_,rfl,hs4.sub hs1,h1⟩
     ·cases h2
   ·cases h2
  ·cases h1
 ·cases h1
theorem CtX.noD {P:Program} {gl:List (Nat×C)} {f:FuncId} {n m:Nat} {xs:List V1} {oi:List (Nat×(Nat×O))} {x:V} {ob:List (Nat×(Nat×O))} (hn:look 1000001 gl=none) (h:CtX P gl f n m xs oi x ob):CtX P (markN::gl) f n m xs oi x ob:=λw M vs hg hin ha=>
 h w M vs (λg c hl=>hg g c (by
  unfold markN;rw[look_cons];split
  ·rename_i he;rw[<-he,hn] at hl;cases hl
  ·exact hl)) hin ha
theorem zC.more {w:World} {A A':Nat->Prop} (hA:∀b,A b->A' b) {y:V1} {v:Value} (h:zC w (Mem.of A) y v):zC w (Mem.of A') y v:=by
 have hir:∀{c:C} {v:Value},IRep w (Mem.of A).imm c v->IRep w (Mem.of A').imm c v:=λhr=>hr.move (λ_ _ _=>rfl) λb hb _=>⟨hA b hb.1,fun⟨i,k,hv,_⟩=>(by cases hv)⟩
 have hcp:∀{c:C} {v:Value},jI w (Mem.of A) c v->jI w (Mem.of A') c v:=fun{c v} hr=>by
  cases c<;>first|exact hr|exact hir hr
 have hcr:∀{c:C} {v:Value},CRep w (Mem.of A) c v->CRep w (Mem.of A') c v:=fun{c v} hr=>by
  cases c with
  |own id k sz len=>exact hr
  |sub id k sz off len=>exact hr
  |bptr id k j=>exact hr
  |rptr id k sz i j=>exact hr
  |fn g caps=>obtain⟨vs,h1,h2,h3⟩:=hr;exact⟨vs,h1,h2,λj hj=>hcp (h3 j hj)⟩
  |yl R b ts caps=>exact⟨hr.1,λj hj=>hcp (hr.2 j hj)⟩
  |unk=>exact hr
  |val v=>exact hir hr
  |emp=>exact hir hr
  |lst n f=>exact hir hr
  |lptr cs=>exact hir hr
  |aptr n sz f=>exact hir hr
 cases y with
 |one c=>exact hcr h
 |agg cs=>obtain⟨us,hu,hc⟩:=h;exact⟨us,hu,hc.1,λj hj=>hcr (hc.2 j hj)⟩
theorem qVr {K:Ctx} {vs:Array Value} {xs:List V1} (ha:qDf K.w0 (Mem.of K.A) xs vs) (hn:Nat.ble xs.length K.nt=true):Sim1 K (Mem.of λb=>K.A b\/K.w0.heap.size<=b) ⟨OY 0 xs,[]⟩ ⟨vs++Array.replicate (K.nt-vs.size) undef,[]⟩ K.w0:=by
 have hle:=kW hn;refine⟨⟨λi j k l b hi=>(by cases hi),λi k b hi=>(by cases hi),λi k _ hv=>(by cases hv),EM.refl _ _,qAR.refl _,λb=>Iff.rfl,?_,qEo.nil,?_,λi k o ho=>by cases ho⟩,λi hi=>absurd rfl hi⟩
 ·have:=ha.1;simp;omega
 ·intro s y hy;obtain⟨j,rfl,hj,rfl⟩:=qGk xs 0 s y hy;have h1:=ha.2 j hj;have hjs:j<vs.size:=by rw[ha.1];exact hj
  have hget:(vs++Array.replicate (K.nt-vs.size) undef).getD (0+j) undef=vs.getD j undef:=by
   simp only[kz,kw,uE hjs]
  rw[hget];exact zC.more (λb hb=> .inl hb) h1
theorem qTo {P:Program} {gl:List (Nat×C)} {f:FuncId} {xs:List V1} {x:V} (hd:drOf gl=false)
  (h:∀(w:World) (A:Nat->Prop) (vs:Array Value),GR gl w A->qDf w (Mem.of A) xs vs->Calls P f vs w λe w'=>∃v,e= .returned v/\Below w.heap.size w w'/\VRep w' (Mem.of λb=>A b\/w.heap.size<=b) x v):CtX P gl f 0 0 xs [] x []:=by
 intro w M vs hg hin ha;have hno:∀i,M.ver i=none:=λi=>by
  cases hi:M.ver i with
  |none=>rfl
  |some k=>
   have:=hin.only i (by rw[hi];simp);cases this
 obtain⟨ver,blk,A⟩:=M;obtain rfl:ver=λ_=>none:=funext hno;have hir:∀{c:C} {v:Value},IRep w (Mem.imm ⟨λ_=>none,blk,A⟩) c v->IRep w (Mem.of A).imm c v:=λhr=>hr.move (λ_ _ _=>rfl) λb hb _=>⟨hb.1,fun⟨i,k,hv,_⟩=>(by cases hv)⟩
 have hcp:∀{c:C} {v:Value},jI w ⟨λ_=>none,blk,A⟩ c v->jI w (Mem.of A) c v:=fun{c v} hr=>by
  cases c with
  |bptr id k j=>obtain⟨b,h1,h2⟩:=hr;exact⟨b,h1,λq=>by cases q⟩
  |_=>exact hir hr
 have hcr:∀{c:C} {v:Value},CRep w ⟨λ_=>none,blk,A⟩ c v->CRep w (Mem.of A) c v:=fun{c v} hr=>by
  cases c with
  |own id k sz len=>
   rcases hr with h0|⟨b,cap,h1,h2,h3,h4⟩
   ·exact .inl h0
   ·exact .inr ⟨b,cap,h1,h2,h3,λq=>by cases q⟩
  |sub id k sz off len=>
   rcases hr with h0|⟨b,cap,h1,h2,h3,h4⟩
   ·exact .inl h0
   ·exact .inr ⟨b,cap,h1,h2,h3,λq=>by cases q⟩
  |bptr id k j=>obtain⟨b,h1,h2⟩:=hr;exact⟨b,h1,λq=>by cases q⟩
  |rptr id k sz i j=>obtain⟨b,h1,h2⟩:=hr;exact⟨b,h1,λq=>by cases q⟩
  |fn g caps=>obtain⟨us,h1,h2,h3⟩:=hr;exact⟨us,h1,h2,λj hj=>hcp (h3 j hj)⟩
  |yl R b ts caps=>exact⟨hr.1,λj hj=>hcp (hr.2 j hj)⟩
  |unk=>exact hr
  |val v=>exact hir hr
  |emp=>exact hir hr
  |lst n f=>exact hir hr
  |lptr cs=>exact hir hr
  |aptr n sz f=>exact hir hr
 have ha':qDf w (Mem.of A) xs vs:=⟨ha.1,λj hj=>by
  have:=ha.2 j hj;generalize xs.getD j (.one .unk)=y at this;cases y with
  |one c=>exact hcr this
  |agg cs=>obtain⟨us,hu,hc⟩:=this;exact⟨us,hu,hc.1,λj hj=>hcr (hc.2 j hj)⟩⟩
 refine(h w A vs hg ha').mono ?_;rintro e w' ⟨v,rfl,hb,hv⟩;refine⟨v,Mem.of λb=>A b\/w.heap.size<=b,rfl,⟨hb.os,hb.tape,hb.output,hb.size,λb hlt _=>hb.block b hlt,λh=>by rw[hd] at h;cases h⟩,λb arr e hh=>⟨arr,?_,rfl⟩,?_⟩
 ·rw[hb.block b (ui.1 hh).1];exact hh
 ·exact⟨λi hi=>absurd rfl hi,λi j k l b hi=>(by cases hi),λi k b hv=>(by cases hv),λi k k' _ hk=>(by cases hk),λb=>Iff.rfl,hv,λi k o ho=>by cases ho⟩
end Go.SL
namespace Go.SL
open Go.RowKit Go.Proofs Go.Shelf Go.Sort Go.Lib
section
variable (w :World) (blk m:Nat) (d:Array Int) (os:Array Obj)
def qHH :World:=grow (putRow (Value.int .i64) (Sort.ahead w m) blk 0 d) os
theorem qMg {c:Nat} (hc:c<w.heap.size) (hne:c≠blk):(qHH w blk m d os).heap[c]? =w.heap[c]? :=by
 unfold qHH grow putRow mapBlock Sort.ahead;rw[uE (by simpa using hc),gH,if_neg (Ne.symm hne)]
theorem qLS {arr:Array Value} {e:TypeId} (hh:w.heap[blk]? =some (.cells arr e (0,0))):(qHH w blk m d os).heap[blk]? =some (.cells (putCells (Value.int .i64) 0 d arr) e (0,0)):=by
 have hb:blk<w.heap.size:=(ui.1 hh).1;unfold qHH grow putRow mapBlock Sort.ahead;rw[uE (by simpa using hb),gH,if_pos rfl];show(w.heap[blk]?).map _=_;rw[hh];rfl
theorem qUz :w.heap.size<=(qHH w blk m d os).heap.size:=by
 unfold qHH grow putRow mapBlock Sort.ahead;simp
theorem si_get {arr:Array Value} {n i:Nat} (hd:d.size=n) (hn:n<=arr.size) (hi:i<n):(putCells (Value.int .i64) 0 d arr).getD i undef= .int .i64 d[i]! :=by
 unfold putCells;rw[kw,Array.getElem?_mapIdx,kE (by omega)];simp only[kZ,kJ];rw[if_pos ⟨ud _,by omega⟩,kO]
end
theorem qLs {α:Type} (a:Array α) {i:Nat} (h:i<a.size) (d:α):a.getD i d=a[i]:=by rw[kw,kE h];rfl
theorem qTF (l:List Int):WJ (λx y=>decide (x<=y)) l=l.mergeSort λx y=>decide (x<=y):=by
 have ht:∀x y z:Int,decide (x<=y)=true->decide (y<=z)=true->decide (x<=z)=true:=by
  intro x y z h1 h2;simp only[decide_eq_true_eq] at*;omega
 have hto:∀x y:Int,decide (x<=y)=true\/decide (y<=x)=true:=by
  intro x y;simp only[decide_eq_true_eq];omega
 refine List.Perm.eq_of_pairwise (le:=λx y:Int=>decide (x<=y)=true) ?_ (EC ht hto l) ?_ ((KN _ l).trans (List.mergeSort_perm l _).symm)
 ·intro a b _ _ h1 h2;simp only[decide_eq_true_eq] at*;omega
 ·exact List.pairwise_mergeSort (λa b c h1 h2=>ht a b c h1 h2) (λa b=>by have:=hto a b;simpa using this) l
theorem qVP {P:Program} {ρ:Ren} {gl:List (Nat×C)} (L:Lays.n189 P ρ) (eid:Nat) (l:List Int) (hlt:l.length<4611686018427387904):
  CtX P gl (ρ.f 189) 1 1 [.one (.own 0 0 1 l.length)] [(0,(0,.row eid 1 l.length (rowf (λx:Int=>[C.val (.int .i64 x)]) daa l)))] .undef [(0,(0,.row eid 1 (WJ (λx y=>decide (x<=y)) l).length (rowf (λx:Int=>[C.val (.int .i64 x)]) daa (WJ (λx y=>decide (x<=y)) l))))]:=by
 intro w M vs hgl hin ha;obtain⟨hsz,hargs⟩:=ha;have hr:=hin.objs 0 0 _ rfl;have a0:=hargs 0 (by simp);have hsz1:vs.size=1:=by simpa using hsz
 have hlen:(WJ (λx y=>decide (x<=y)) l).length=l.length:=(KN _ l).length_eq;rcases a0 with⟨hl0,a,e0⟩|⟨b,cap,e0,hlc,hcm,hb⟩
 ·have hl:l=[]:=uu hl0;subst hl;have hvs:vs= #[.slice a 0 0]:=by
   apply Array.ext
   ·simpa using hsz1
   ·intro i hi1 hi2;have:i=0:=by simp at hi2;omega
    subst this;rw[<-qLs _ hi1 undef,e0];rfl
  rw[hvs];refine(Any.slices_Sort_int_none L a 0 w).mono ?_;rintro e w' ⟨he,rfl⟩;refine⟨undef,{M with A:=λb=>M.A b\/w'.heap.size<=b},he,⟨rfl,rfl,rfl,kq _,λc hc hno=>rfl,λ_=>kq _⟩,?_,?_⟩
  ·intro c arr' e' hc;exact⟨arr',hc,rfl⟩
  ·refine⟨λi hi=>?_,hin.inj,λi k' b hv hb=>?_,λi k' k'' _ _ _=>rfl,λb=>Iff.rfl,rfl,λi k' o ho=>?_⟩
   ·have:=hin.only i hi;unfold hits at this⊢;rw[look_cons] at this⊢;split at this
    ·rename_i h;rw[if_pos h];rfl
    ·cases this
   ·exact⟨.inr ⟨⟨k',hv⟩,hb⟩,(hin.rng i k' b hv hb).2.1⟩
   ·rw[look_cons] at ho;split at ho
    ·rename_i h;subst h;cases ho;obtain⟨hver,hrow⟩:=hr;refine⟨hver,?_⟩;rcases hrow with⟨hn,h0⟩|⟨b',arr',hb',hh',hns,hcr⟩
     ·exact .inl ⟨hn,rfl⟩
     ·exact .inr ⟨b',arr',hb',hh',ud _,λi hi=>absurd hi (by simp[WJ])⟩
    ·cases ho
 obtain⟨hbl,arr,et,hh,has⟩:=hb hr.ver;obtain⟨hver,hrow⟩:=hr;rcases hrow with⟨hn,_⟩|⟨b',arr',hb',hh',hns,hcr⟩
 ·rw[hbl] at hn;cases hn
 have:b'=b:=kQ (hb'.symm.trans hbl);subst this;rw[hh] at hh';cases hh';have hvs:vs= #[.slice (some ⟨b',0,none⟩) l.length cap]:=by
  apply Array.ext
  ·simpa using hsz1
  ·intro i hi1 hi2;have:i=0:=by simp at hi2;omega
   subst this;rw[<-qLs _ hi1 undef,e0];rfl
 have hblt:b'<w.heap.size:=(ui.1 hh).1;have hnA:¬M.A b':=(hin.rng 0 0 b' hver hbl).2.2;rw[Nat.mul_one] at hns;have hcell:∀i,i<l.length->arr.getD i undef= .int .i64 (l.getD i daa):=by
  intro i hi;have:=(hcr i hi).2 0 (by omega);rw[Nat.mul_one,ug] at this;unfold rowf at this;simp only[un] at this;exact this.val_eq
 have hH:Holds (Value.int .i64) w b' 0 l.toArray:=by
  intro t ht;have ht':t<l.length:=by simpa using ht
  have htlt:t<arr.size:=by omega
  refine⟨?_,?_⟩
  ·rw[show(0+t)=t by omega];have:w.cell? ⟨b',t,none⟩=arr[t]? :=by unfold World.cell?;rw[hh];rfl
   rw[this,kE htlt];have hc:=hcell t ht';rw[qLs _ htlt] at hc;rw[hc]
   congr 2
   rw[ki,ks ht',getElem!_pos _ _ (by simpa using ht')];rfl
  ·unfold World.frozen?;rw[hh];simp
 have key:=Any.slices_Sort_int L b' 0 cap l w hH hblt hlt;rw[hvs];refine key.mono ?_;rintro e w' ⟨he,n,os,hw'⟩;have hw2:w'=qHH w b' n (WJ (λx y=>decide (x<=y)) l).toArray os:=by rw[hw',qTF];rfl
 subst hw2;refine⟨undef,{M with A:=λb=>M.A b\/w.heap.size<=b},he,⟨rfl,rfl,rfl,qUz _ _ _ _ _,λc hc hno=>qMg _ _ _ _ _ hc λh=>hno ⟨0,0,hver,by rw[h];exact hbl⟩,λ_=>da _ _⟩,?_,?_⟩
 ·intro c arr' e' hc;by_cases hcb:c=b'
  ·subst hcb;rw[hh] at hc;cases hc;exact⟨_,qLS _ _ _ _ _ hh,by simp[putCells]⟩
  ·exact⟨arr',by rw[qMg _ _ _ _ _ (ui.1 hc).1 hcb];exact hc,rfl⟩
 ·refine⟨λi hi=>?_,hin.inj,λi k' b hv hb=>?_,λi k' k'' _ _ _=>rfl,λb=>Iff.rfl,rfl,λi k' o ho=>?_⟩
  ·have:=hin.only i hi;unfold hits at this⊢;rw[look_cons] at this⊢;split at this
   ·rename_i h;rw[if_pos h];rfl
   ·cases this
  ·exact⟨.inr ⟨⟨k',hv⟩,hb⟩,uA (hin.rng i k' b hv hb).2.1 (qUz _ _ _ _ _)⟩
  ·rw[look_cons] at ho;split at ho
   ·rename_i h;subst h;cases ho;refine⟨hver,.inr ⟨b',_,hbl,qLS _ _ _ _ _ hh,?_,λi hi=>⟨rfl,λj hj=>?_⟩⟩⟩
    ·rw[hlen];simpa[putCells] using hns
    ·rw[hlen] at hi;have:j=0:=by omega
     subst this;rw[Nat.mul_one,ug,si_get (n:=l.length) _ (by simpa using hlen) hns hi];unfold rowf;simp only[un];have hge:(WJ (λx y=>decide (x<=y)) l).toArray[i]! =(WJ (λx y=>decide (x<=y)) l).getD i daa:=by
      rw[ki,ks (by omega),getElem!_pos _ _ (by simpa using(by omega:i<(WJ (λx y=>decide (x<=y)) l).length))];rfl
     rw[hge];exact .val _ rfl
   ·cases ho
end Go.SL

/- Totality of the plan's functions, part 1: the rules; sections and solids. -/
import Derived.Test.YtigmogcdifllhaaGreatDoorEMa11
import Derived.Test.YtigmogcdifllhaaGreatDoorEMa3
import Derived.Test.YtigmogcdifllhaaGreatDoorEMa12
set_option linter.unusedVariables false
set_option linter.unusedSimpArgs false
namespace Go.SL
namespace Saw
def T {α:Type} (Q:α->Prop) (x:Option α):Prop:=∃a,x=some a/\Q a
theorem T.rt {α:Type} {Q:α->Prop} {a:α} (h:Q a):T Q (some a):=⟨a,rfl,h⟩
theorem T.bd {α β:Type} {Q:β->Prop} {R:α->Prop} {x:Option α} {f:α->Option β} (h:T R x) (k:∀a,R a->T Q (f a)):T Q (x.bind f):=by
 obtain⟨a,rfl,h⟩:=h;exact k a h
theorem T.cd {α:Type} {Q:α->Prop} {b:Bool} {x y:Option α} (h1:b=true->T Q x) (h2:b=false->T Q y):T Q (bif b then x else y):=by
 cases b
 ·exact h2 rfl
 ·exact h1 rfl
theorem T.cp {α:Type} {Q:α->Prop} {p:Prop} [Decidable p] {x y:Option α} (h1:p->T Q x) (h2:¬p->T Q y):T Q (bif decide p then x else y):=T.cd (λh=>h1 (ug h)) λh=>h2 (of_decide_eq_false h)
theorem T.ne {α:Type} {Q:α->Prop} {m n:Int} {x y:Option α} (h1:m≠n->T Q x) (h2:m=n->T Q y):T Q (bif m !=n then x else y):=T.cd (λh=>h1 (gx.1 h)) λh=>h2 (bne_eq_false_iff_eq.1 h)
theorem T.eq {α:Type} {Q:α->Prop} {m n:Int} {x y:Option α} (h1:m=n->T Q x) (h2:m≠n->T Q y):T Q (bif m==n then x else y):=T.cd (λh=>h1 (beq_iff_eq.1 h)) λh=>h2 (kR.1 h)
theorem T.gi {α:Type} {Q:α->Prop} {i:Int} {n:Nat} {x:Option α} (h:0<=i/\i<n) (k:T Q x):T Q (bif inb i n then x else none):=by rw[inb_t h.1 h.2];exact k
theorem T.gr {α:Type} {Q:α->Prop} {n b:Nat} {x:Option α} (h:n*b<=140737488355328) (k:T Q x):T Q (bif room n b then x else none):=by rw[ZK h];exact k
theorem T.gn {α:Type} {Q:α->Prop} {n:Int} {x:Option α} (h:n≠0) (k:T Q x):T Q (bif nz n then x else none):=by rw[nz_t h];exact k
theorem T.gs {α:Type} {Q:α->Prop} {a b:Int} {n:Nat} {x:Option α} (h:0<=a/\a<=b/\b<=n) (k:T Q x):T Q (bif slOk a b n then x else none):=by rw[show slOk a b n=true from kf h];exact k
theorem T.gb {α:Type} {Q:α->Prop} {m n:Nat} {x:Option α} (h:m<=n) (k:T Q x):T Q (bif Nat.ble m n then x else none):=by rw[show Nat.ble m n=true from Nat.ble_eq_true_of_le h];exact k
theorem T.el {ε σ α:Type} {Q:α->Prop} {u:ε⊕σ} {f:ε->Option α} {g:σ->Option α} (h1:∀a,u= .inl a->T Q (f a)) (h2:∀a,u= .inr a->T Q (g a)):T Q (Sum.elim f g u):=by
 cases u
 ·exact h1 _ rfl
 ·exact h2 _ rfl
theorem T.id {α:Type} {Q:α->Prop} {x:Option α} (h:T Q x):T Q (x.bind some):=h.bd λ_ k=>T.rt k
theorem T.lp {σ β:Type} {Q:β->Prop} (N:Nat) (hN:N<=1000000000) (L:Nat->σ->Int->Option β) (I:Nat->σ->Prop) {z:Nat} (hz:z<=N)
  (h:∀n x s,x<=N->I x s->(∀s',x<N->I (x+1) s'->T Q (L n s' (w64 ((x:Int)+1))))->T Q (L (n+1) s (x:Int))) {s:σ} (hs:I z s):T Q (L FUEL s (z:Int)):=by
 have k:∀n x s,N<x+n->x<=N->I x s->T Q (L n s (x:Int)):=by
  intro n
  induction n with
  |zero=>intro x s h1 h2;omega
  |succ n ih=>
   intro x s h1 h2 hi;refine h n x s h2 hi λs' hx hi'=>?_;rw[wH (by omega)];exact ih (x+1) s' (by omega) (by omega) hi'
 exact k FUEL z s (by rw[FUEL_eq];omega) hz hs
abbrev tt {α:Type}:α->Prop:=λ_=>True
theorem tSecV (s:qH):T (λv=>v.Rows.length<=120) (QO s):=by
 refine⟨_,(qE6 s).1,?_⟩;unfold AM;split
 ·rename_i h;exact((chk10_zero s).1 h).len
 ·simp[nilS]
theorem tSecC (s:qH):T tt (XX s):=⟨_,(qNP s).1,trivial⟩
theorem qK2 (a b:Span):T tt (ZX a b):=by
 unfold ZX;exact T.cp (λ_=>T.rt trivial) λ_=>T.rt trivial
theorem tLen (a:Span):T tt (MH a):=by
 unfold MH qF8 qAc;exact(T.cp (λ_=>T.rt trivial) λ_=>T.rt trivial:T tt _).bd λ_ _=>T.rt trivial
theorem tSecW (s:qH) (r:Rect):T tt (PK s r):=by
 unfold PK;refine(tSecV s).bd λv hv=>(T.lp v.Rows.length (by omega) (λn s i=>WY r v n s i) (λ_ _=>True) (kv _) (λn x s hx _ ih=>?_) trivial).id;show T tt (WY r v (n+1) s x);rw[WY];refine T.cp (λh=>T.gi (by omega) ?_) λ_=>T.rt trivial;exact(T.rt trivial:T tt (some _)).bd λ_ _=>(qK2 _ _).bd λ_ _=>(tLen _).bd λ_ _=>(qK2 _ _).bd λ_ _=>(tLen _).bd λ_ _=>ih _ (by omega) trivial
theorem tSecA (s:qH):T tt (FQ s):=by
 unfold FQ;refine(tSecV s).bd λv hv=>(T.lp v.Rows.length (by omega) (λn s i=>XH v n s i) (λ_ _=>True) (kv _) (λn x s hx _ ih=>?_) trivial:T tt _).bd λ_ _=>T.rt trivial;show T tt (XH v (n+1) s x);rw[XH];exact T.cp (λh=>T.gi (by omega) ((tLen _).bd λ_ _=>ih _ (by omega) trivial)) λ_=>T.rt trivial
theorem tSecB (s:qH):T tt (VT s):=by
 unfold VT;refine(tSecV s).bd λv hv=>T.eq (λ_=>T.rt trivial) λh0=>T.gi (by omega) ((T.lp v.Rows.length (by omega) (λn s i=>yR v n i s) (λ_ _=>True) (kv _) (λn x s hx _ ih=>?_) trivial:T tt _).bd λ_ _=>(T.rt trivial:T tt (some _)).bd λ_ _=>T.rt trivial);show T tt (yR v (n+1) x s);rw[yR];refine T.cp (λh=>T.gi (by omega) ((T.rt trivial:T tt (some _)).bd λ_ _=>?_)) λ_=>T.rt trivial;exact T.cd (λ_=>ih _ (by omega) trivial) λ_=>ih _ (by omega) trivial
def sok (l:List qN):Prop:=l.length<=24/\∀i,i<l.length->1<=(l.getD i dd).Len/\(l.getD i dd).Len<=20000
theorem qST (l:List qN):T (λe=>e=0->sok l) (KP l):=by
 unfold KP;refine T.eq (λ_=>T.rt λh=>absurd h (by decide)) λ_=>T.cp (λ_=>T.rt λh=>absurd h (by decide)) λh24=>?_;refine(T.lp (Q:=λu=>(∀e,u= .inl e->e≠0)/\(∀o,u= .inr o->sok l)) l.length (by omega) (λn s i=>WB l n s i) (λx s=>(0<=s/\s<=20000)/\∀i,i<x->1<=(l.getD i dd).Len/\(l.getD i dd).Len<=20000) (kv _) (λn x s hx hi ih=>?_) ⟨by omega,λi hi=>by omega⟩).bd λu hu=>T.el (λe he=>T.rt λh=>absurd h (hu.1 e he)) λo ho=>T.rt λ_=>hu.2 o ho;show T _ (WB l (n+1) s x)
 have no:∀{e:Int},e≠0->T (λu:Int⊕Unit=>(∀e,u= .inl e->e≠0)/\(∀o,u= .inr o->sok l)) (some (.inl e)):=λh=>T.rt ⟨λ_ q=>(by cases q;exact h),λ_ q=>(by cases q)⟩;rw[WB];refine T.cp (λh=>T.gi (by omega) ((tSecC _).bd λv _=>T.ne (λh=>no h) λ_=>T.eq (λ_=>no (by decide)) λ_=>T.cp (λ_=>no (by decide)) λh1=>T.cp (λ_=>no (by decide)) λh2=>?_)) λh=>T.rt ⟨λ_ q=>(by cases q),λ_ _=>⟨by omega,λi hi'=>hi.2 i (by omega)⟩⟩;rw[ki] at h1 h2⊢;rw[qX (by omega)] at h2;have hL:=hi.1;refine ih _ (by omega) ⟨?_,λi hx'=>?_⟩
 ·rw[qX (by omega)];omega
 ·by_cases hc:i=x
  ·subst hc;omega
  ·exact hi.2 i (by omega)
theorem qS2 (l:List qN):T sok (KR l):=by
 unfold KR;exact(qST l).bd λv hv=>T.ne (λ_=>T.rt ⟨by simp,λi hi=>by simp at hi⟩) λh=>T.rt (hv h)
theorem qSU (l:List qN):T (λn=>0<=n/\n<=480000) (YX l):=by
 unfold YX;refine(qS2 l).bd λv hv=>(T.lp v.length (by have:=hv.1;omega) (λn s i=>XF v n s i) (λx s=>0<=s/\s<=20000*x) (kv _) (λn x s hx hi ih=>?_) (by omega)).id;show T _ (XF v (n+1) s x);have h24:=hv.1;rw[XF];refine T.cp (λh=>T.gi (by omega) (ih _ (by omega) ?_)) λ_=>T.rt (by omega);have:=hv.2 x (by omega);rw[ki,qX (by omega)];omega
theorem tSolB (l:List qN):T tt (MI l):=by
 unfold MI;refine(qS2 l).bd λv hv=>(T.lp v.length (by have:=hv.1;omega) (λn s i=>ZD v n i s) (λ_ _=>True) (kv _) (λn x s hx _ ih=>?_) trivial).id;show T tt (ZD v (n+1) x s);rw[ZD];exact T.cp (λh=>T.gi (by omega) ((tSecB _).bd λ_ _=>T.cd (λ_=>ih _ (by omega) trivial) λ_=>ih _ (by omega) trivial)) λ_=>T.rt trivial
theorem tSolVol (l:List qN):T tt (YY l):=by
 unfold YY;refine(qS2 l).bd λv hv=>(T.lp v.length (by have:=hv.1;omega) (λn s i=>XQ v n s i) (λ_ _=>True) (kv _) (λn x s hx _ ih=>?_) trivial).id;show T tt (XQ v (n+1) s x);rw[XQ];exact T.cp (λh=>T.gi (by omega) ((tSecA _).bd λ_ _=>ih _ (by omega) trivial)) λ_=>T.rt trivial
theorem tExt (v:List qN) (hv:v.length<=24):T (λe=>e.length=v.length) (BM v):=by
 unfold BM;rw[qEI (by omega) (by omega)];refine(T.lp v.length (by omega) (λn (s:List Span×Int) i=>YD v n s.1 s.2 i) (λ_ s=>s.1.length=v.length) (kv _) (λn x s hx hi ih=>?_) (s:=(_,_)) (by simp)).id;show T _ (YD v (n+1) s.1 s.2 x);rw[YD];exact T.cp (λh=>T.gi (by omega) (T.gi (by omega) (ih (_,_) (by omega) (by simp[hi])))) λ_=>T.rt hi
theorem tSolW (l:List qN) (b:Box):T tt (GF l b):=by
 unfold GF;refine(qS2 l).bd λv hv=>(tExt v hv.1).bd λe he=>(T.lp e.length (by have:=hv.1;omega) (λn s i=>ZI b v e n s i) (λ_ _=>True) (kv _) (λn x s hx _ ih=>?_) trivial).id;show T tt (ZI b v e (n+1) s x);rw[ZI];refine T.cp (λh=>T.gi (by omega) ((qK2 _ _).bd λ_ _=>(tLen _).bd λ_ _=>T.cp (λ_=>T.gi (by omega) ((tSecW _ _).bd λ_ _=>ih _ (by omega) trivial)) λ_=>ih _ (by omega) trivial)) λ_=>T.rt trivial
theorem qNW (l:List qN) (r:Rect) (z:Span):T tt (KS l r z):=(tSolW _ _).id
theorem tVolP (l:List qN) (r:Rect):T tt (KQ l r):=(qSU _).bd λ_ _=>(tSolW _ _).id
theorem tFrame (l:List qN):T tt (KI l):=(tSolB _).id
theorem T.no {σ:Type} {K:σ->Prop} {e:Int} (h:e≠0):T (λu:Int⊕σ=>(∀e,u= .inl e->e≠0)/\∀o,u= .inr o->K o) (some (.inl e)):=T.rt ⟨λ_ q=>(by cases q;exact h),λ_ q=>(by cases q)⟩
theorem T.ok {σ:Type} {K:σ->Prop} {o:σ} (h:K o):T (λu:Int⊕σ=>(∀e,u= .inl e->e≠0)/\∀o,u= .inr o->K o) (some (.inr o)):=T.rt ⟨λ_ q=>(by cases q),λ_ q=>(by cases q;exact h)⟩
theorem T.er {P:Prop} {e:Int} (h:e≠0):T (λe=>e=0->P) (some e):=T.rt λq=>absurd q h
theorem T.end {σ:Type} {K:σ->Prop} {P:Prop} {x:Option (Int⊕σ)} {g:σ->Option Int} (h:T (λu=>(∀e,u= .inl e->e≠0)/\∀o,u= .inr o->K o) x) (k:∀o,K o->T (λe=>e=0->P) (g o)):T (λe=>e=0->P) (x.bind λu=>Sum.elim (λv=>some v) g u):=h.bd λ_ hu=>T.el (λ_ he=>T.er (hu.1 _ he)) λ_ ho=>k _ (hu.2 _ ho)
theorem tSize (a:Int):T (λb=>b=true↔1<=a/\a<=600) (PB a):=by
 unfold PB UZ;refine T.cp (λh=>T.rt ?_) λh=>T.rt ?_
 ·rw[decide_eq_true_eq];omega
 ·exact⟨λq=>(by cases q),λq=>absurd q.1 h⟩
def pok (p:qF):Prop:=(5<=p.Thick/\p.Thick<=300)/\(5<=p.Width/\p.Width<=600)/\(0<=p.Allow/\p.Allow<=200)/\p.Lengths.length<=8
def b1k (g:Int):Prop:=1<=g/\g<=1000
theorem tGrow (a b:Int):T (λg=>(5<=a/\a<=600)->(0<=b/\b<=200)->b1k g) (FP a b):=by
 refine T.rt λh1 h2=>?_;have m1:5*1000<=a*(1000+b):=Int.mul_le_mul h1.1 (by omega) (by omega) (by omega);have m2:a*(1000+b)<=600*1200:=Int.mul_le_mul h1.2 (by omega) (by omega) (by omega);rw[qX (n:=1000+b) (by omega)];generalize a*(1000+b)=m at*;rw[qX (n:=m) (by omega),qX (n:=m+999) (by omega),Int.tdiv_eq_ediv_of_nonneg (by omega),qX (by omega)];unfold b1k;omega
theorem qPx (p:qF):T (λg=>pok p->b1k g.1/\b1k g.2) (JI p):=by
 have bad:(¬pok p)->T (λg:Int×Int=>pok p->b1k g.1/\b1k g.2) (some (0,0)):=λh=>T.rt λq=>absurd q h;unfold JI;refine(tSize _).bd λb hb=>T.cd (λh=>bad λq=>?_) λ_=>(tSize _).bd λc hc=>T.cd (λh=>bad λq=>?_) λ_=>T.cp (λh=>bad λq=>?_) λ_=>?_
 ·have:=q.1;rw[hb.2 (by omega)] at h;cases h
 ·have:=q.2.1;rw[hc.2 (by omega)] at h;cases h
 ·have:=q.2.2.1;omega
 ·unfold YE;refine T.cp (λh=>bad λq=>?_) λ_=>(tGrow _ _).bd λx hx=>(tGrow _ _).bd λy hy=>T.rt λq=>⟨hx (by have:=q.1;omega) q.2.2.1,hy q.2.1 q.2.2.1⟩
  have:=q.2.2.1;omega
theorem tNum (p:qF):T (λe=>e=0->pok p) (WN p):=by
 unfold WN;refine T.cp (λ_=>T.er (e:=9) (by decide)) λh1=>T.cp (λ_=>T.er (e:=9) (by decide)) λh2=>T.cp (λ_=>T.er (e:=9) (by decide)) λh3=>?_;unfold yB;refine T.cp (λ_=>T.er (by decide)) λh4=>T.cp (λ_=>T.er (e:=9) (by decide)) λh5=>T.cp (λ_=>T.er (e:=9) (by decide)) λh6=>T.cp (λ_=>T.er (e:=9) (by decide)) λ_=>?_;unfold yA;refine T.cp (λ_=>T.er (by decide)) λ_=>(qPx p).bd λg _=>T.cp (λ_=>T.er (by decide)) λ_=>T.eq (λ_=>T.er (by decide)) λ_=>T.cp (λ_=>T.er (by decide)) λh8=>T.ne (λ_=>T.er (by decide)) λh9=>?_
 refine T.end (T.lp (Q:=λu=>(∀e,u= .inl e->e≠0)/\∀o,u= .inr o->True) p.Lengths.length (by omega) (λn (_:Unit) i=>wG p n i) (λ_ _=>True) (kv _) (λn x s hx _ ih=>?_) (s:=()) trivial) λ_ _=>T.end (T.lp (Q:=λu=>(∀e,u= .inl e->e≠0)/\∀o,u= .inr o->True) p.Prices.length (by omega) (λn (_:Unit) i=>wU p n i) (λ_ _=>True) (kv _) (λn x s hx _ ih=>?_) (s:=()) trivial) λ_ _=>T.rt λ_=>⟨by omega,by omega,by omega,by omega⟩
 ·show T _ (wG p (n+1) x);rw[wG];refine T.cp (λh=>T.gi (by omega) (T.cp (λ_=>T.no (e:=9) (by decide)) λ_=>?_)) λ_=>T.ok trivial;unfold JM;refine T.cp (λ_=>T.no (by decide)) λ_=>T.cp (λh0=>T.gi (by rw[qX (by omega)];omega) ?_) λ_=>ih () (by omega) trivial;unfold JJ;exact T.cp (λ_=>T.no (by decide)) λ_=>ih () (by omega) trivial
 ·show T _ (wU p (n+1) x);rw[wU];refine T.cp (λh=>T.gi (by omega) (T.cp (λ_=>T.no (e:=9) (by decide)) λ_=>?_)) λ_=>T.ok trivial;unfold JN;exact T.cp (λ_=>T.no (by decide)) λ_=>ih () (by omega) trivial
theorem qXJ (a:Int):T tt (TB a):=by
 unfold TB;exact T.cp (λ_=>T.rt trivial) λ_=>T.rt trivial
theorem tDigit (a:Int):T tt (BV a):=by
 unfold BV;exact T.cp (λ_=>T.rt trivial) λ_=>T.rt trivial
theorem tName (a:ByteArray):T tt (MN a):=by
 unfold MN;refine T.cp (λ_=>T.rt (a:=false) trivial) λh1=>T.cp (λ_=>T.rt (a:=false) trivial) λh2=>T.gi (by omega) ((qXJ _).bd λv _=>?_);unfold UF;refine T.cd (λ_=>T.rt trivial) λ_=>(T.lp (Q:=tt) a.size (by omega) (λn (_:Unit) i=>yU a n i) (λ_ _=>True) (show 1<=a.size by omega) (λn x s hx _ ih=>?_) (s:=()) trivial).bd λu _=>T.el (λ_ _=>T.rt trivial) λ_ _=>T.rt trivial;show T tt (yU a (n+1) x);rw[yU]
 refine T.cp (λh=>T.gi (by omega) ((qXJ _).bd λ_ _=>T.cd (λ_=>(tDigit _).bd λ_ _=>T.cd (λ_=>?_) λ_=>ih () (by omega) trivial) λ_=>ih () (by omega) trivial)) λ_=>T.rt trivial;unfold US;exact T.cd (λ_=>T.rt trivial) λ_=>ih () (by omega) trivial
theorem tFind (l:List qF) (a:ByteArray) (hl:l.length<=16):T tt (FZ l a):=by
 unfold FZ;refine(T.lp (Q:=tt) l.length (by omega) (λn (_:Unit) i=>XD l a n i) (λ_ _=>True) (kv _) (λn x s hx _ ih=>?_) (s:=()) trivial).bd λu _=>T.el (λ_ _=>T.rt trivial) λ_ _=>T.rt trivial;show T tt (XD l a (n+1) x);rw[XD];exact T.cp (λh=>T.gi (by omega) (T.cd (λ_=>T.rt trivial) λ_=>ih () (by omega) trivial)) λ_=>T.rt trivial
def psok (l:List qF):Prop:=l.length<=16/\∀i,i<l.length->pok (l.getD i dd)
theorem qO2 (l:List qF):T (λe=>e=0->psok l) (ZQ l):=by
 unfold ZQ;refine T.cp (λ_=>T.er (by decide)) λh16=>T.end (T.lp (Q:=λu=>(∀e,u= .inl e->e≠0)/\∀o,u= .inr o->psok l) l.length (by omega) (λn (_:Unit) i=>YL l n i) (λx _=>∀i,i<x->pok (l.getD i dd)) (kv _) (λn x s hx hi ih=>?_) (s:=()) λi hi=>by omega) λ_ k=>T.rt λ_=>k;show T _ (YL l (n+1) x);rw[YL]
 refine T.cp (λh=>T.gi (by omega) ((tName _).bd λ_ _=>T.cd (λ_=>T.no (by decide)) λ_=>T.gs (by omega) ((tFind _ _ ?_).bd λ_ _=>T.cd (λ_=>T.no (by decide)) λ_=>(tNum _).bd λv hv=>T.ne (λh=>T.no h) λh0=>ih () (by omega) λi hi'=>?_))) λh=>T.ok ⟨by omega,λi hi'=>hi i (by omega)⟩
 ·rw[ub];omega
 ·by_cases hc:i=x
  ·subst hc;exact hv h0
  ·exact hi i (by omega)
theorem tSizes (l:List qF) (z:Int):T (λr=>r.1.length=r.2.length/\r.1.length<=16/\(∀w∈r.1,b1k w)/\∀q:Int,q∈r.2->0<=q/\q<l.length) (UD l z):=by
 unfold UD;refine(qO2 l).bd λe he=>T.ne (λ_=>T.rt ⟨rfl,by simp,by simp,by simp⟩) λh0=>?_;obtain⟨h16,hp⟩:=he h0;refine(T.lp (Q:=λr:List Int×List Int=>r.1.length=r.2.length/\r.1.length<=16/\(∀w∈r.1,b1k w)/\∀q:Int,q∈r.2->0<=q/\q<l.length) l.length (by omega) (λn (s:List Int×List Int) i=>yH l z n s.1 s.2 i) (λx s=>s.1.length=s.2.length/\s.1.length<=x/\(∀w∈s.1,b1k w)/\∀q:Int,q∈s.2->0<=q/\q<l.length) (kv _) (λn x s hx hi ih=>?_) (s:=([],[])) ⟨rfl,by simp,by simp,by simp⟩).bd λ_ k=>T.rt k;show T _ (yH l z (n+1) s.1 s.2 x);rw[yH];obtain⟨i1,i2,i3,i4⟩:=hi
 refine T.cp (λh=>T.gi (by omega) ((qPx _).bd λg hg=>?_)) λ_=>T.rt ⟨i1,uo i2 (by omega),i3,i4⟩;have hg:=hg (hp x (by omega));have k2:∀w,b1k w->T (λr:List Int×List Int=>r.1.length=r.2.length/\r.1.length<=16/\(∀w∈r.1,b1k w)/\∀q:Int,q∈r.2->0<=q/\q<l.length) (bif room (s.1.length+1) 8 then BO s.2 x (yH l z n) (s.1++[w]) else none):=λw hw=>T.gr (by omega) (by
  unfold BO;refine T.gr (by omega) (ih (_,_) (by omega) ⟨by simp[i1],by simp;omega,λv hv=>?_,λv hv=>?_⟩)
  ·rcases kU.1 hv with hv|hv
   ·exact i3 v hv
   ·rw[kX.1 hv];exact hw
  ·rcases kU.1 hv with hv|hv
   ·exact i4 v hv
   ·rw[kX.1 hv];omega)
 exact T.cd (λ_=>k2 _ hg.2) λ_=>T.cd (λ_=>k2 _ hg.1) λ_=>ih s (by omega) ⟨i1,by omega,i3,i4⟩
def rok (r:Rect):Prop:=(-600<=r.X.A/\r.X.A<r.X.B/\r.X.B<=600)/\(-600<=r.Y.A/\r.Y.A<r.Y.B/\r.Y.B<=600)
theorem tRect (r:Rect):T (λb=>b=true->rok r) (MO r):=by
 unfold MO;refine(T.lp (Q:=λu:Bool⊕Unit=>(∀b,u= .inl b->b=false)/\∀o,u= .inr o->rok r) 2 (by decide) (λn (_:Unit) i=>yT r n i) (λx _=>(0<x->-600<=r.X.A/\r.X.A<r.X.B/\r.X.B<=600)/\(1<x->-600<=r.Y.A/\r.Y.A<r.Y.B/\r.Y.B<=600)) (kv _) (λn x s hx hi ih=>?_) (s:=()) ⟨λh=>by omega,λh=>by omega⟩).bd λu hu=>T.el (λb hb=>T.rt λq=>by rw[hu.1 b hb] at q;cases q) λo ho=>T.rt λ_=>hu.2 o ho;show T _ (yT r (n+1) x);rw[yT];have no:T (λu:Bool⊕Unit=>(∀b,u= .inl b->b=false)/\∀o,u= .inr o->rok r) (some (.inl false)):=T.rt ⟨λ_ q=>(by cases q;rfl),λ_ q=>(by cases q)⟩
 refine T.cp (λh=>T.gi (by omega) (T.cp (λ_=>no) λh1=>T.cp (λ_=>no) λh2=>?_)) λh=>T.rt ⟨λ_ q=>(by cases q),λ_ _=>⟨hi.1 (by omega),hi.2 (by omega)⟩⟩;unfold TQ;refine T.cp (λ_=>no) λh3=>ih () (by omega) ?_;rcases(show x=0\/x=1 by omega) with rfl|rfl
 ·have h1:¬r.X.A< -600:=h1;have h2:¬r.X.B>600:=h2;have h3:¬r.X.A≥r.X.B:=h3;exact⟨λ_=>by omega,λh=>by omega⟩
 ·have h1:¬r.Y.A< -600:=h1;have h2:¬r.Y.B>600:=h2;have h3:¬r.Y.A≥r.Y.B:=h3;exact⟨λ_=>hi.1 (by omega),λ_=>by omega⟩
theorem tLacks (l:List qN) (r:Rect) (hl:l.length<=24) (hr:rok r):T (λz=>z.length<=24) (AE l r):=by
 unfold AE;refine(T.lp (Q:=λz:List qZ=>z.length<=24) l.length (by omega) (λn (s:List qZ×Int) i=>PI l r n s.1 s.2 i) (λx s=>s.1.length=x) (kv _) (λn x s hx hi ih=>?_) (s:=([],0)) rfl).id;show T _ (PI l r (n+1) s.1 s.2 x);rw[PI];unfold rok at hr;have m1:1*1<=(r.X.B-r.X.A)*(r.Y.B-r.Y.A):=Int.mul_le_mul (by omega) (by omega) (by omega) (by omega);have m2:(r.X.B-r.X.A)*(r.Y.B-r.Y.A)<=1200*1200:=Int.mul_le_mul (by omega) (by omega) (by omega) (by omega)
 refine T.cp (λh=>T.gi (by omega) ((tSecW _ _).bd λ_ _=>T.gn ?_ (T.gr (by omega) (ih (_,_) (by omega) (by simp[hi]))))) λ_=>T.rt (by omega);rw[qX (n:=r.X.B-r.X.A) (by omega),qX (n:=r.Y.B-r.Y.A) (by omega),qX (by omega)];omega
theorem qYH (d:qG) (b:Box):T tt (PM d b):=by
 unfold PM qB1;refine(T.bd (R:=tt) (qK2 _ _) λ_ _=>(qK2 _ _).bd λ_ _=>(qK2 _ _).bd λ_ _=>(T.rt trivial:T tt (some _)).bd λ_ _=>T.cd (λ_=>T.rt (a:=(_,_)) trivial) λ_=>(T.rt trivial:T tt (some _)).bd λ_ _=>T.cd (λ_=>T.rt (a:=(_,_)) trivial) λ_=>(T.rt trivial:T tt (some _)).bd λ_ _=>?_:T tt _).bd λ_ _=>T.rt trivial;unfold VW;exact T.cd (λ_=>T.rt trivial) λ_=>T.rt trivial
def vok (p:qF) (v:zG×Bool):Prop:=v.2=true->(0<=v.1.length/\v.1.length<=480000)/\v.1.zones.length<=24/\v.1.defects.length<=64/\v.1.product.Lengths.length<=8/\p.Lengths.length<=8
theorem tLook (l:List qN) (d:List qG) (p:qF) (r:Rect):T (vok p) (CH l d p r):=by
 have bad:∀{v:zG},T (vok p) (some (v,false)):=T.rt λq=>by cases q
 unfold CH;refine(qST l).bd λe he=>T.ne (λ_=>bad) λh0=>T.bd (R:=λe=>e=0->d.length<=64) ⟨_,qE9 d,λq=>((YN _).1 q).1⟩ λe1 he1=>T.ne (λ_=>bad) λh1=>(qO2 [p]).bd λe2 he2=>T.ne (λ_=>bad) λh2=>(tRect r).bd λb hb=>?_;have hp:pok p:=(he2 h2).2 0 (by simp);unfold RY;refine T.cd (λ_=>bad) λh3=>(qPx p).bd λg _=>?_;have k2:∀x,T (vok p) (BZ l d p r x):=λx=>by
  unfold BZ;refine T.cd (λ_=>bad) λ_=>(qSU l).bd λn hn=>(tLacks l r (he h0).1 (hb (by simpa using h3))).bd λz hz=>(T.rt trivial:T tt (some _)).bd λbx _=>(T.lp (Q:=λz:List qG=>z.length<=64) d.length (by have:=he1 h1;omega) (λn s i=>JC d bx n i s) (λx s=>s.length<=x) (kv _) (λn x s hx hi ih=>?_) (s:=[]) (by simp)).bd λy hy=>T.rt λ_=>⟨hn,hz,hy,hp.2.2.2,hp.2.2.2⟩
  show T _ (JC d bx (n+1) x s);have:=he1 h1;rw[JC];exact T.cp (λh=>T.gi (by omega) ((qYH _ _).bd λ_ _=>T.cd (λ_=>T.gr (by omega) (ih _ (by omega) (by simp;omega))) λ_=>ih _ (by omega) (by omega))) λ_=>T.rt (by omega)
 exact T.cd (λ_=>k2 _) λ_=>k2 _
theorem tPrice (p:qF) (n:Int) (hp:p.Lengths.length<=8):T tt (BJ p n):=by
 unfold BJ;refine(T.lp (Q:=tt) p.Lengths.length (by omega) (λm (_:Unit) i=>JV p n m i) (λ_ _=>True) (kv _) (λm x s hx _ ih=>?_) (s:=()) trivial).bd λu _=>T.el (λ_ _=>T.rt trivial) λ_ _=>T.rt trivial;show T tt (JV p n (m+1) x);rw[JV];exact T.cp (λh=>T.gi (by omega) (T.cd (λ_=>ih () (by omega) trivial) λ_=>T.cp (λ_=>T.rt trivial) λh2=>T.gi (by omega) (T.rt trivial))) λ_=>T.rt trivial
theorem tWorst (z:List qZ) (a:Span) (hz:z.length<=24):T tt (AA z a):=by
 unfold AA;refine(T.lp (Q:=tt) z.length (by omega) (λn s i=>QT z a n s i) (λ_ _=>True) (kv _) (λn x s hx _ ih=>?_) trivial).id;show T tt (QT z a (n+1) s x);rw[QT];refine T.cp (λh=>T.gi (by omega) (T.cp (λ_=>?_) λ_=>ih _ (by omega) trivial)) λ_=>T.rt trivial;exact T.cd (λ_=>ih _ (by omega) trivial) λ_=>ih _ (by omega) trivial
theorem tWorth (v:zG) (z:Span) (f:Int) (h1:v.zones.length<=24) (h2:v.defects.length<=64) (h3:v.product.Lengths.length<=8):T tt (RE v z f):=by
 unfold RE SC;refine(T.cp (λ_=>T.cp (λ_=>T.rt trivial) λ_=>T.rt (a:=false) trivial) λ_=>T.rt (a:=false) trivial:T tt _).bd λb _=>T.cd (λ_=>T.rt trivial) λ_=>(tPrice _ _ h3).bd λp _=>T.cd (λ_=>T.rt (a:=(_,_)) trivial) λ_=>(tWorst _ _ h1).bd λw _=>?_;unfold RO;refine T.cp (λ_=>T.rt trivial) λ_=>(T.rt trivial:T tt (some _)).bd λbx _=>(T.lp (Q:=tt) v.defects.length (by omega) (λn s i=>jL v f bx n s i) (λ_ _=>True) (kv _) (λn x s hx _ ih=>?_) trivial).bd λu _=>T.el (λ_ _=>T.rt trivial) λ_ _=>T.rt trivial;show T tt (jL v f bx (n+1) s x)
 rw[jL];exact T.cp (λh=>T.gi (by omega) ((qYH _ _).bd λ_ _=>T.cd (λ_=>ih _ (by omega) trivial) λ_=>T.cd (λ_=>T.rt trivial) λ_=>ih _ (by omega) trivial)) λ_=>T.rt trivial
theorem T.ms {σ β:Type} {Q:β->Prop} (L:Nat->σ->Option β) (I:σ->Prop) (μ:σ->Nat) (h:∀n s,I s->(∀s',I s'->μ s'<μ s->T Q (L n s'))->T Q (L (n+1) s)) {s:σ} (hs:I s) (hb:μ s<=1000000000):T Q (L FUEL s):=by
 have k:∀n s,μ s<n->I s->T Q (L n s):=by
  intro n
  induction n with
  |zero=>intro s h1;omega
  |succ n ih=>exact λs h1 hi=>h n s hi λs' hi' hm=>ih s' (by omega) hi'
 exact k FUEL s (by rw[FUEL_eq];omega) hs
structure LM (a:Line):Prop where
 len:0<=a.Len/\a.Len<=2000
 kerf:0<=a.Kerf/\a.Kerf<=20
 pitch:1<=a.Pitch/\a.Pitch<=2000
 szl:a.Sizes.length<=32
 sz:∀i,i<a.Sizes.length->1<=a.Sizes.getD i dd/\a.Sizes.getD i dd<=2000
structure LV (a:Line):Prop extends LM a where
 gl:a.Gain.length=a.Sizes.length
 cl:(a.Chip.length:Int)=a.Len
 dl:(a.Dust.length:Int)=a.Len
 gr:∀i,i<a.Sizes.length->((a.Gain.getD i dd).length:Int)=imax 0 (a.Len-a.Sizes.getD i dd+1)
theorem tMeas (a:Line):T (λe=>e=0->LM a) (PS a):=by
 unfold PS;refine T.cp (λ_=>T.er (e:=9) (by decide)) λh1=>T.cp (λ_=>T.er (e:=9) (by decide)) λh2=>T.cp (λ_=>T.er (e:=9) (by decide)) λh3=>T.cp (λ_=>T.er (e:=9) (by decide)) λh4=>T.cp (λ_=>T.er (e:=9) (by decide)) λh5=>?_;unfold jN
 refine T.cp (λ_=>T.er (by decide)) λh6=>T.cp (λ_=>T.er (by decide)) λh7=>T.end (T.lp (Q:=λu=>(∀e,u= .inl e->e≠0)/\∀o,u= .inr o->∀i,i<a.Sizes.length->1<=a.Sizes.getD i dd/\a.Sizes.getD i dd<=2000) a.Sizes.length (by omega) (λn (_:Unit) i=>jM a n i) (λx _=>∀i,i<x->1<=a.Sizes.getD i dd/\a.Sizes.getD i dd<=2000) (kv _) (λn x s hx hi ih=>?_) (s:=()) λi hi=>by omega) λ_ k=>T.rt λ_=>⟨by omega,by omega,by omega,by omega,k⟩
 show T _ (jM a (n+1) x);rw[jM];refine T.cp (λh=>T.gi (by omega) (T.cp (λ_=>T.no (e:=9) (by decide)) λh8=>?_)) λh=>T.ok λi hi'=>hi i (by omega);unfold RP;refine T.cp (λ_=>T.no (by decide)) λh9=>ih () (by omega) λi hi'=>?_;by_cases hc:i=x
 ·subst hc;rw[ki] at h8 h9;omega
 ·exact hi i (by omega)
theorem tSml (g:List (List Int)) (hg:g.length<=32) (hr:∀i,i<g.length->(g.getD i dd).length<=3000):T tt (RX g):=by
 unfold RX;refine(T.lp (Q:=tt) g.length (by omega) (λn (_:Unit) i=>JT g n i) (λ_ _=>True) (kv _) (λn x s hx _ ih=>?_) (s:=()) trivial).bd λu _=>T.el (λ_ _=>T.rt trivial) λ_ _=>T.rt trivial;show T tt (JT g (n+1) x);rw[JT];refine T.cp (λh=>T.gi (by omega) ((T.lp (Q:=tt) (g.getD x dd).length (by have:=hr x (by omega);omega) (λn (_:Unit) i=>QK g x n i) (λ_ _=>True) (kv _) (λm y s hy _ ih2=>?_) (s:=()) trivial).bd λu _=>T.el (λ_ _=>T.rt trivial) λ_ _=>ih () (by omega) trivial)) λ_=>T.rt trivial;show T tt (QK g x (m+1) y);rw[QK,ki]
 refine T.cp (λh=>T.gi (by omega) (T.cp (λ_=>T.rt (a:=(Sum.inl false:Bool⊕Unit)) trivial) λ_=>?_)) λ_=>T.rt trivial;unfold DU;exact T.cp (λ_=>T.rt trivial) λ_=>ih2 () (by omega) trivial
theorem tCutC (a:Line):T (λe=>e=0->LV a) (BN a):=by
 unfold BN;refine(tMeas a).bd λe he=>T.ne (λh=>T.er h) λh0=>T.ne (λ_=>T.er (e:=19) (by decide)) λh1=>T.ne (λ_=>T.er (e:=19) (by decide)) λh2=>?_;have m:=he h0;have m1:=m.len;have m2:=m.szl;unfold PW
 refine T.ne (λ_=>T.er (by decide)) λh3=>T.end (T.lp (Q:=λu=>(∀e,u= .inl e->e≠0)/\∀o,u= .inr o->LV a) a.Gain.length (by omega) (λn (_:Unit) i=>YG a n i) (λx _=>∀i,i<x->((a.Gain.getD i dd).length:Int)=imax 0 (a.Len-a.Sizes.getD i dd+1)) (kv _) (λn x s hx hi ih=>?_) (s:=()) λi hi=>by omega) λ_ v=>(tSml a.Gain (by omega) λi hi=>?_).bd λ_ _=>T.cd (λ_=>T.er (e:=9) (by decide)) λ_=>(tSml [a.Chip,a.Dust] (by simp) λi hi=>?_).bd λ_ _=>T.cd (λ_=>T.er (by decide)) λ_=>T.rt λ_=>v
 ·show T _ (YG a (n+1) x);rw[YG];refine T.cp (λh=>T.gi (by omega) (T.gi (by omega) ((T.rt rfl:T (λz=>z=imax 0 (w64 (w64 (a.Len-a.Sizes.getD (x:Int).toNat dd)+1))) (some _)).bd λz hz=>T.ne (λ_=>T.no (by decide)) λh4=>ih () (by omega) λi hi'=>?_))) λh=>T.ok ⟨m,by omega,by omega,by omega,λi hi'=>hi i (by omega)⟩;by_cases hc:i=x
  ·subst hc;have:=m.sz i (by omega);rw[ki] at h4 hz;rw[h4,hz,qX (n:=a.Len-a.Sizes.getD i dd) (by omega),qX (by omega)]
  ·exact hi i (by omega)
 ·have:=v.gr i (by have:=v.gl;omega);have:=m.sz i (by have:=v.gl;omega);have:=qG0 0 (a.Len-a.Sizes.getD i dd+1);omega
 ·match i,hi with
  |0,_=>show a.Chip.length<=3000;omega
  |1,_=>show a.Dust.length<=3000;omega
  |i+2,hi=>simp at hi;omega
theorem tSums (l:List Int) (hl:l.length<=2000):T (λr=>r.length=l.length+1) (GY l):=by
 unfold GY;rw[wH (by omega),qEI (by omega) (by omega),ki];refine(T.lp (Q:=λr:List Int=>r.length=l.length+1) l.length (by omega) (λn s i=>XP l n s i) (λ_ s=>s.length=l.length+1) (kv _) (λn x s hx hi ih=>?_) (by simp)).id;show T _ (XP l (n+1) s x);rw[XP];refine T.cp (λh=>T.gi (by omega) (T.gi (by omega) (T.gi ?_ (ih _ (by omega) (by simp[hi]))))) λ_=>T.rt hi;rw[wH (by omega)];omega
theorem tBeh {a:Line} (h:LM a) {p:Int} (h0:0<=p) (h1:p<=a.Len):T (λb=>b= -1\/(p<=b/\b<=a.Len)) (PC a p):=by
 unfold PC;have:=h.len;have:=h.kerf;refine T.eq (λ_=>T.rt (.inl rfl)) λ_=>T.rt (.inr ?_);rw[qX (by omega)];have:=qP9 (p+a.Kerf) a.Len;omega
def vpc (a:Line) (x:zR):Prop:=0<=x.Size/\x.Size<a.Sizes.length/\0<=x.At/\x.At+a.Sizes.getD x.Size.toNat dd<=a.Len
def vp (a:Line) (lo:Int) (c:qB):Prop:=(c.piece.Size= -1/\c.piece.At= -1)\/(vpc a c.piece/\lo<=c.piece.At)
theorem vp.mono {a:Line} {lo lo':Int} {c:qB} (h:vp a lo c) (hl:lo'<=lo):vp a lo' c:=h.imp id λq=>⟨q.1,by have:=q.2;omega⟩
theorem tStart {a:Line} (v:LV a) {p:Int} (h0:0<=p) (h1:p<=a.Len) (d:List Int) (e:List qB) (hd:(d.length:Int)=a.Len+1) (he:(e.length:Int)=a.Len+1):T (vp a p) (BR a p d e):=by
 have m1:=v.len;have m2:=v.szl;have m3:=v.gl;unfold BR;refine(T.lp (Q:=vp a p) a.Sizes.length (by omega) (λn s i=>wT a p d e n i s) (λ_ s=>vp a p s) (kv _) (λn x s hx hi ih=>?_) (.inl ⟨rfl,rfl⟩)).id;show T _ (wT a p d e (n+1) x s);rw[wT];refine T.cp (λh=>T.gi (by omega) ?_) λ_=>T.rt hi;have hs:=v.sz x (by omega);have hg:=v.gr x (by omega);have hm:=qG0 0 (a.Len-a.Sizes.getD x dd+1);rw[ki,qX (by omega)];refine T.cp (λ_=>ih s (by omega) hi) λhle=>T.gi (by omega) (T.gi (by omega) ?_);have k3:∀c:qB,c.piece=⟨x,p⟩->T (vp a p) (RF x s (λi s=>wT a p d e n i s) c):=λc hc=>by
  have hv:vp a p c:= .inr ⟨by rw[hc];exact⟨show(0:Int)<=x by omega,show(x:Int)<_ by omega,h0,by show p+a.Sizes.getD (x:Int).toNat dd<=a.Len;rw[ki];omega⟩,by rw[hc];exact kV p⟩;unfold RF;refine T.cd (λ_=>ih c (by omega) hv) λ_=>?_;unfold DE;exact T.cp (λ_=>ih c (by omega) hv) λ_=>ih s (by omega) hi
 unfold DT;rw[ki,qX (by omega)];refine T.cp (λ_=>ih s (by omega) hi) λ_=>T.gi (by omega) (T.gi (by omega) ((tBeh v.toLM (by omega) (by omega)).bd λb hb=>T.cp (λhb0=>T.gi (by omega) (T.gi (by omega) (T.gi (by omega) (k3 _ rfl)))) λ_=>k3 _ rfl))
theorem qYL {α:Type} [Inhabited α] (l:List α) {i j:Nat} (x:α) (h:i≠j):(l.set i x).getD j dd=l.getD j dd:=by
 rw[ka,ka,gv h]
theorem qYA {α:Type} [Inhabited α] (l:List α) {i:Nat} (x:α) (h:i<l.length):(l.set i x).getD i dd=x:=by
 rw[ka,uP h];rfl
def vps (a:Line) (p:Int) (l:List qB):Prop:=(l.length:Int)=a.Len+1/\∀j:Nat,p<j->(j:Int)<=a.Len->vp a j (l.getD j dd)
theorem vps.set {a:Line} {p:Int} {l:List qB} (h:vps a p l) (h0:0<=p) (h1:p<=a.Len) {c:qB} (hc:vp a p c):vps a (p-1) (l.set p.toNat c):=by
 refine⟨by rw[ga];exact h.1,λj hj hl=>?_⟩;have:=h.1;by_cases e:p.toNat=j
 ·rw[<-e,qYA l c (by omega)];exact hc.mono (by omega)
 ·rw[qYL l c e];exact h.2 j (by omega) hl
theorem tL4 {a:Line} (v:LV a) {p:Int} (h0:0<=p) (h1:p<=a.Len) {c d:List Int} (hc:(c.length:Int)=a.Len+1) (hd:(d.length:Int)=a.Len+1) {l:List qB} (hl:vps a p l) (s:qB) {b:qB} (hb:vp a p b):T (vp a p) (wP a c d l p s FUEL (w64 (w64 (p+a.Pitch)+a.Kerf)) b):=by
 have m1:=v.len;have m2:=v.kerf;have m3:=v.pitch;have hl1:=hl.1;rw[qX (n:=p+a.Pitch) (by omega),qX (by omega)];refine T.ms (Q:=vp a p) (λn (t:Int×qB)=>wP a c d l p s n t.1 t.2) (λt=>(p+a.Pitch+a.Kerf<=t.1/\t.1<=6000)/\vp a p t.2) (λt=>(6000-t.1).toNat) (λn t hi ih=>?_) (s:=(_,_)) ⟨by omega,hb⟩ (by simp only;omega);show T _ (wP a c d l p s (n+1) t.1 t.2);obtain⟨hi,hv⟩:=hi;rw[wP];refine T.cp (λh=>?_) λ_=>T.rt hv;rw[qX (n:=t.1-a.Kerf) (by omega)];have k6:∀z,vp a p z->T (vp a p) (YS a t.1 (λx y=>wP a c d l p s n x y) z):=λz hz=>by
  unfold YS;rw[qX (by omega)];exact ih (_,_) ⟨by simp only;omega,hz⟩ (by simp only;omega)
 have hp:vp a p ((l.set p.toNat s).getD t.1.toNat dd):=by
  rw[qYL l s (by omega)];exact(hl.2 t.1.toNat (by omega) (by omega)).mono (by omega)
 refine T.gi (by omega) (T.gi (by omega) (T.gi (by omega) (T.gi (by omega) (T.gi (by omega) (T.cd (λ_=>?_) λ_=>k6 _ hv)))));unfold TY;exact T.cd (λ_=>k6 _ hp) λ_=>k6 _ hv
theorem qZk {a:Line} (v:LV a):T (vps a (-1)) (TZ a):=by
 have m1:=v.len;have m2:=v.cl;have m3:=v.dl;unfold TZ;refine(tSums a.Chip (by omega)).bd λc hc=>(tSums a.Dust (by omega)).bd λd hd=>?_;rw[qX (n:=a.Len+1) (by omega),show a.Len+1=(((a.Len+1).toNat:Nat):Int) by omega,qEI (by omega) (by omega),ki];have hr:∀z:qB,vps a a.Len (List.replicate (a.Len+1).toNat z):=λz=>⟨by simp;omega,λj h1 h2=>by omega⟩
 refine(T.ms (Q:=vps a (-1)) (λn (t:List qB×List qB×Int)=>wY a c d n t.1 t.2.1 t.2.2) (λt=>(-1<=t.2.2/\t.2.2<=a.Len)/\vps a t.2.2 t.1/\vps a t.2.2 t.2.1) (λt=>(t.2.2+1).toNat) (λn t hi ih=>?_) (s:=(_,_,_)) ⟨⟨show-1<=a.Len by omega,kV a.Len⟩,hr _,hr _⟩ (by show(a.Len+1).toNat<=1000000000;omega)).id;show T _ (wY a c d (n+1) t.1 t.2.1 t.2.2);obtain⟨hi,i7,i8⟩:=hi;have hl7:=i7.1;have hl8:=i8.1;rw[wY];refine T.cp (λh=>(tStart v (by omega) hi.2 d t.1 (by omega) hl7).bd λs hs=>T.gi (by omega) (T.gi (by omega) (T.gi (by omega) ?_))) λh=>T.rt (by rw[show t.2.2= -1 by omega] at i7;exact i7)
 have hS:=i8.set (by omega) hi.2 hs;have k3:∀b,vp a t.2.2 b->T (vps a (-1)) (YR a c d t.1 t.2.1 t.2.2 (λx y z=>wY a c d n x y z) s b):=λb hb=>by
  unfold YR;refine(tL4 v (by omega) hi.2 (by omega) (by omega) i8 s hb).bd λo ho=>T.gi (by omega) ?_;rw[qX (by omega)];exact ih (_,_,_) ⟨by simp only;omega,i7.set (by omega) hi.2 ho,hS⟩ (by simp only;omega)
 refine T.cd (λ_=>?_) λ_=>k3 _ (.inl ⟨rfl,rfl⟩);unfold TK;refine T.cd (λ_=>k3 _ ?_) λ_=>k3 _ (.inl ⟨rfl,rfl⟩);rw[qYA t.2.1 s (by omega)];exact hs
theorem tCut (a:Line):T (λr=>r.2.2=0->LV a/\r.1.length<=2002/\∀x∈r.1,vpc a x) (jU a):=by
 unfold jU;refine(tCutC a).bd λe he=>T.ne (λh=>T.rt λq=>absurd q h) λh0=>?_;have v:=he h0;have m1:=v.len;refine(qZk v).bd λch hc=>?_;have hl:=hc.1
 refine(T.ms (Q:=λr:List zR=>r.length<=2002/\∀x∈r,vpc a x) (λn (t:List zR×Int)=>XN a ch n t.1 t.2) (λt=>(-1<=t.2/\t.2<=a.Len)/\(t.1.length:Int)<=(if t.2<0 then 2001 else t.2)/\∀x∈t.1,vpc a x) (λt=>if t.2<0 then 0 else(a.Len+1-t.2).toNat) (λn t hi ih=>?_) (s:=([],0)) ⟨by simp only;omega,by simp,by simp⟩ (by show(if(0:Int)<0 then 0 else(a.Len+1-0).toNat)<=1000000000;rw[if_neg (by decide)];omega)).bd λr hr=>T.gi (by omega) (T.rt λ_=>⟨v,hr⟩);show T _ (XN a ch (n+1) t.1 t.2);obtain⟨hi,i1,i2⟩:=hi;rw[XN]
 have fin:T (λr:List zR=>r.length<=2002/\∀x∈r,vpc a x) (some t.1):=T.rt ⟨by split at i1<;>omega,i2⟩;refine T.cp (λh=>T.gi (by omega) (T.cd (λ_=>fin) λhn=>?_)) λ_=>fin;rw[if_neg (by omega)] at i1;rcases hc.2 t.2.toNat (by omega) (by omega) with hv|⟨hv,hlo⟩
 ·rw[hv.1,hv.2] at hn;cases hn
 ·have hs:=v.sz (ch.getD t.2.toNat dd).piece.Size.toNat (by have:=hv.1;have:=hv.2.1;omega);have q1:=hv.2.2.1;have q2:=hv.2.2.2;rw[qX (n:=(ch.getD t.2.toNat dd).piece.At+_) (by omega)];refine T.gr (by omega) (T.gi ⟨hv.1,hv.2.1⟩ ((tBeh v.toLM (by omega) q2).bd λb hb=>ih (_,_) ⟨by simp only;omega,?_,λx hx=>?_⟩ ?_))
  ·simp only[ud,List.length_singleton];split<;>omega
  ·rcases kU.1 hx with hx|hx
   ·exact i2 x hx
   ·rw[kX.1 hx];exact hv
  ·simp only;rw[if_neg (show¬t.2<0 by omega)];split<;>omega
end Saw
end Go.SL

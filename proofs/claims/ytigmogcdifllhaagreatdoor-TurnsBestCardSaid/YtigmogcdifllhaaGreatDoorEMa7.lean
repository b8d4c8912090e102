import Derived.Test.YtigmogcdifllhaaGreatDoorEMa6
import Derived.Test.YtigmogcdifllhaaGreatDoorEMa1
import Derived.Test.YtigmogcdifllhaaGreatDoorEMa2
set_option linter.unusedVariables false
set_option linter.unusedSimpArgs false
namespace Go.SL
namespace Saw
noncomputable def qEG (t:Scan) (l m:Int):List qO×List qH×Int:=if(qBL t l m).2≠0 then([],[],(qBL t l m).2) else((qBL t l m).1,t.Defects,0)
theorem qI7 {s t:Scan} (l m q:Int) (h:MV s q=some t) (ht:qFn t):wU s q l m=some (qEG t l m):=by
 unfold wU qEG;rw[h];have hd:=ht.d;simp only[kd,qZE,yL];rw[yC (by omega)];simp only[kp,kd];by_cases c:(qBL t l m).2=0
 ·rw[c];rfl
 ·rw[if_pos c,show((qBL t l m).2 !=0)=true from gg.2 c];rfl
def T {α:Type} (Q:α->Prop) (x:Option α):Prop:=∃a,x=some a/\Q a
theorem T.rt {α:Type} {Q:α->Prop} {a:α} (h:Q a):T Q (some a):=⟨a,rfl,h⟩
theorem T.bd {α β:Type} {Q:β->Prop} {R:α->Prop} {x:Option α} {f:α->Option β} (h:T R x) (k:∀a,R a->T Q (f a)):T Q (x.bind f):=by
 obtain⟨a,rfl,h⟩:=h;exact k a h
theorem T.cd {α:Type} {Q:α->Prop} {b:Bool} {x y:Option α} (h1:b=true->T Q x) (h2:b=false->T Q y):T Q (bif b then x else y):=by
 cases b
 ·exact h2 rfl
 ·exact h1 rfl
theorem T.cp {α:Type} {Q:α->Prop} {p:Prop} [Decidable p] {x y:Option α} (h1:p->T Q x) (h2:¬p->T Q y):T Q (bif decide p then x else y):=T.cd (λh=>h1 (ul h)) λh=>h2 (of_decide_eq_false h)
theorem T.ne {α:Type} {Q:α->Prop} {m n:Int} {x y:Option α} (h1:m≠n->T Q x) (h2:m=n->T Q y):T Q (bif m !=n then x else y):=T.cd (λh=>h1 (gg.1 h)) λh=>h2 (bne_eq_false_iff_eq.1 h)
theorem T.eq {α:Type} {Q:α->Prop} {m n:Int} {x y:Option α} (h1:m=n->T Q x) (h2:m≠n->T Q y):T Q (bif m==n then x else y):=T.cd (λh=>h1 (beq_iff_eq.1 h)) λh=>h2 (kT.1 h)
theorem T.gi {α:Type} {Q:α->Prop} {i:Int} {n:Nat} {x:Option α} (h:0<=i/\i<n) (k:T Q x):T Q (bif inb i n then x else none):=by rw[inb_t h.1 h.2];exact k
theorem T.gr {α:Type} {Q:α->Prop} {n b:Nat} {x:Option α} (h:n*b<=140737488355328) (k:T Q x):T Q (bif room n b then x else none):=by rw[yC h];exact k
theorem T.gn {α:Type} {Q:α->Prop} {n:Int} {x:Option α} (h:n≠0) (k:T Q x):T Q (bif nz n then x else none):=by rw[nz_t h];exact k
theorem T.gs {α:Type} {Q:α->Prop} {a b:Int} {n:Nat} {x:Option α} (h:0<=a/\a<=b/\b<=n) (k:T Q x):T Q (bif slOk a b n then x else none):=by rw[show slOk a b n=true from ki h];exact k
theorem T.gb {α:Type} {Q:α->Prop} {m n:Nat} {x:Option α} (h:m<=n) (k:T Q x):T Q (bif Nat.ble m n then x else none):=by rw[show Nat.ble m n=true from Nat.ble_eq_true_of_le h];exact k
theorem T.el {ε σ α:Type} {Q:α->Prop} {u:ε⊕σ} {f:ε->Option α} {g:σ->Option α} (h1:∀a,u= .inl a->T Q (f a)) (h2:∀a,u= .inr a->T Q (g a)):T Q (Sum.elim f g u):=by
 cases u
 ·exact h1 _ rfl
 ·exact h2 _ rfl
theorem T.id {α:Type} {Q:α->Prop} {x:Option α} (h:T Q x):T Q (x.bind some):=h.bd λ_ k=>T.rt k
theorem T.lp {σ β:Type} {Q:β->Prop} (N:Nat) (hN:N<=1000000000) (L:Nat->σ->Int->Option β) (I:Nat->σ->Prop) {z:Nat} (hz:z<=N)
  (h:∀n x s,x<=N->I x s->(∀s',x<N->I (x+1) s'->T Q (L n s' (w64 ((x:Int)+1))))->T Q (L (n+1) s (x:Int))) {s:σ} (hs:I z s):T Q (L FUEL s (z:Int)):=by
 have k:∀n x s,N<x+n->x<=N->I x s->T Q (L n s (x:Int)):=by
  intro n
  induction n with
  |zero=>intro x s h1 h2;omega
  |succ n ih=>
   intro x s h1 h2 hi;refine h n x s h2 hi λs' hx hi'=>?_;rw[wH (by omega)];exact ih (x+1) s' (by omega) (by omega) hi'
 exact k FUEL z s (by rw[FUEL_eq];omega) hz hs
abbrev tt {α:Type}:α->Prop:=λ_=>True
theorem tSecV (s:qG):T (λv=>v.Rows.length<=120) (QX s):=by
 refine⟨_,(qFC s).1,?_⟩;unfold zbQ;split
 ·rename_i h;exact((chk10_zero s).1 h).len
 ·simp[nilS]
theorem tSecC (s:qG):T tt (KZ s):=⟨_,(qOv s).1,trivial⟩
theorem qLN (a b:Span):T tt (WH a b):=by
 unfold WH;exact T.cp (λ_=>T.rt trivial) λ_=>T.rt trivial
theorem tLen (a:Span):T tt (PA a):=by
 unfold PA qCR SB;exact(T.cp (λ_=>T.rt trivial) λ_=>T.rt trivial:T tt _).bd λ_ _=>T.rt trivial
theorem tSecW (s:qG) (r:Rect):T tt (RB s r):=by
 unfold RB;refine(tSecV s).bd λv hv=>(T.lp v.Rows.length (by omega) (λn s i=>JJ r v n s i) (λ_ _=>True) (kw _) (λn x s hx _ ih=>?_) trivial).id;show T tt (JJ r v (n+1) s x);rw[JJ];refine T.cp (λh=>T.gi (by omega) ?_) λ_=>T.rt trivial;exact(T.rt trivial:T tt (some _)).bd λ_ _=>(qLN _ _).bd λ_ _=>(tLen _).bd λ_ _=>(qLN _ _).bd λ_ _=>(tLen _).bd λ_ _=>ih _ (by omega) trivial
theorem tSecA (s:qG):T tt (HU s):=by
 unfold HU;refine(tSecV s).bd λv hv=>(T.lp v.Rows.length (by omega) (λn s i=>XZ v n s i) (λ_ _=>True) (kw _) (λn x s hx _ ih=>?_) trivial:T tt _).bd λ_ _=>T.rt trivial;show T tt (XZ v (n+1) s x);rw[XZ];exact T.cp (λh=>T.gi (by omega) ((tLen _).bd λ_ _=>ih _ (by omega) trivial)) λ_=>T.rt trivial
theorem tSecB (s:qG):T tt (BA s):=by
 unfold BA;refine(tSecV s).bd λv hv=>T.eq (λ_=>T.rt trivial) λh0=>T.gi (by omega) ((T.lp v.Rows.length (by omega) (λn s i=>yY v n i s) (λ_ _=>True) (kw _) (λn x s hx _ ih=>?_) trivial:T tt _).bd λ_ _=>(T.rt trivial:T tt (some _)).bd λ_ _=>T.rt trivial);show T tt (yY v (n+1) x s);rw[yY];refine T.cp (λh=>T.gi (by omega) ((T.rt trivial:T tt (some _)).bd λ_ _=>?_)) λ_=>T.rt trivial;exact T.cd (λ_=>ih _ (by omega) trivial) λ_=>ih _ (by omega) trivial
def sok (l:List qO):Prop:=l.length<=24/\∀i,i<l.length->1<=(l.getD i du).Len/\(l.getD i du).Len<=20000
theorem qTJ (l:List qO):T (λe=>e=0->sok l) (PT l):=by
 unfold PT;refine T.eq (λ_=>T.rt λh=>absurd h (by decide)) λ_=>T.cp (λ_=>T.rt λh=>absurd h (by decide)) λh24=>?_;refine(T.lp (Q:=λu=>(∀e,u= .inl e->e≠0)/\(∀o,u= .inr o->sok l)) l.length (by omega) (λn s i=>WE l n s i) (λx s=>(0<=s/\s<=20000)/\∀i,i<x->1<=(l.getD i du).Len/\(l.getD i du).Len<=20000) (kw _) (λn x s hx hi ih=>?_) ⟨by omega,λi hi=>by omega⟩).bd λu hu=>T.el (λe he=>T.rt λh=>absurd h (hu.1 e he)) λo ho=>T.rt λ_=>hu.2 o ho;show T _ (WE l (n+1) s x)
 have no:∀{e:Int},e≠0->T (λu:Int⊕Unit=>(∀e,u= .inl e->e≠0)/\(∀o,u= .inr o->sok l)) (some (.inl e)):=λh=>T.rt ⟨λ_ q=>(by cases q;exact h),λ_ q=>(by cases q)⟩;rw[WE];refine T.cp (λh=>T.gi (by omega) ((tSecC _).bd λv _=>T.ne (λh=>no h) λ_=>T.eq (λ_=>no (by decide)) λ_=>T.cp (λ_=>no (by decide)) λh1=>T.cp (λ_=>no (by decide)) λh2=>?_)) λh=>T.rt ⟨λ_ q=>(by cases q),λ_ _=>⟨by omega,λi hi'=>hi.2 i (by omega)⟩⟩;rw[kg] at h1 h2⊢;rw[w64_o (by omega)] at h2;have hL:=hi.1;refine ih _ (by omega) ⟨?_,λi hx'=>?_⟩
 ·rw[w64_o (by omega)];omega
 ·by_cases hc:i=x
  ·subst hc;omega
  ·exact hi.2 i (by omega)
theorem qTQ (l:List qO):T sok (PS l):=by
 unfold PS;exact(qTJ l).bd λv hv=>T.ne (λ_=>T.rt ⟨by simp,λi hi=>by simp at hi⟩) λh=>T.rt (hv h)
theorem qTA (l:List qO):T (λn=>0<=n/\n<=480000) (XK l):=by
 unfold XK;refine(qTQ l).bd λv hv=>(T.lp v.length (by have:=hv.1;omega) (λn s i=>KJ v n s i) (λx s=>0<=s/\s<=20000*x) (kw _) (λn x s hx hi ih=>?_) (by omega)).id;show T _ (KJ v (n+1) s x);have h24:=hv.1;rw[KJ];refine T.cp (λh=>T.gi (by omega) (ih _ (by omega) ?_)) λ_=>T.rt (by omega);have:=hv.2 x (by omega);rw[kg,w64_o (by omega)];omega
theorem tSolB (l:List qO):T tt (HI l):=by
 unfold HI;refine(qTQ l).bd λv hv=>(T.lp v.length (by have:=hv.1;omega) (λn s i=>ZN v n i s) (λ_ _=>True) (kw _) (λn x s hx _ ih=>?_) trivial).id;show T tt (ZN v (n+1) x s);rw[ZN];exact T.cp (λh=>T.gi (by omega) ((tSecB _).bd λ_ _=>T.cd (λ_=>ih _ (by omega) trivial) λ_=>ih _ (by omega) trivial)) λ_=>T.rt trivial
theorem tSolVol (l:List qO):T tt (XM l):=by
 unfold XM;refine(qTQ l).bd λv hv=>(T.lp v.length (by have:=hv.1;omega) (λn s i=>XY v n s i) (λ_ _=>True) (kw _) (λn x s hx _ ih=>?_) trivial).id;show T tt (XY v (n+1) s x);rw[XY];exact T.cp (λh=>T.gi (by omega) ((tSecA _).bd λ_ _=>ih _ (by omega) trivial)) λ_=>T.rt trivial
theorem tExt (v:List qO) (hv:v.length<=24):T (λe=>e.length=v.length) (FK v):=by
 unfold FK;rw[qE1 (by omega) (by omega)];refine(T.lp v.length (by omega) (λn (s:List Span×Int) i=>YW v n s.1 s.2 i) (λ_ s=>s.1.length=v.length) (kw _) (λn x s hx hi ih=>?_) (s:=(_,_)) (by simp)).id;show T _ (YW v (n+1) s.1 s.2 x);rw[YW];exact T.cp (λh=>T.gi (by omega) (T.gi (by omega) (ih (_,_) (by omega) (by simp[hi])))) λ_=>T.rt hi
theorem tSolW (l:List qO) (b:Box):T tt (DF l b):=by
 unfold DF;refine(qTQ l).bd λv hv=>(tExt v hv.1).bd λe he=>(T.lp e.length (by have:=hv.1;omega) (λn s i=>ZJ b v e n s i) (λ_ _=>True) (kw _) (λn x s hx _ ih=>?_) trivial).id;show T tt (ZJ b v e (n+1) s x);rw[ZJ];refine T.cp (λh=>T.gi (by omega) ((qLN _ _).bd λ_ _=>(tLen _).bd λ_ _=>T.cp (λ_=>T.gi (by omega) ((tSecW _ _).bd λ_ _=>ih _ (by omega) trivial)) λ_=>ih _ (by omega) trivial)) λ_=>T.rt trivial
theorem qOO (l:List qO) (r:Rect) (z:Span):T tt (PR l r z):=(tSolW _ _).id
theorem tVolP (l:List qO) (r:Rect):T tt (PO l r):=(qTA _).bd λ_ _=>(tSolW _ _).id
theorem tFrame (l:List qO):T tt (PK l):=(tSolB _).id
theorem T.no {σ:Type} {K:σ->Prop} {e:Int} (h:e≠0):T (λu:Int⊕σ=>(∀e,u= .inl e->e≠0)/\∀o,u= .inr o->K o) (some (.inl e)):=T.rt ⟨λ_ q=>(by cases q;exact h),λ_ q=>(by cases q)⟩
theorem T.ok {σ:Type} {K:σ->Prop} {o:σ} (h:K o):T (λu:Int⊕σ=>(∀e,u= .inl e->e≠0)/\∀o,u= .inr o->K o) (some (.inr o)):=T.rt ⟨λ_ q=>(by cases q),λ_ q=>(by cases q;exact h)⟩
theorem T.er {P:Prop} {e:Int} (h:e≠0):T (λe=>e=0->P) (some e):=T.rt λq=>absurd q h
theorem T.end {σ:Type} {K:σ->Prop} {P:Prop} {x:Option (Int⊕σ)} {g:σ->Option Int} (h:T (λu=>(∀e,u= .inl e->e≠0)/\∀o,u= .inr o->K o) x) (k:∀o,K o->T (λe=>e=0->P) (g o)):T (λe=>e=0->P) (x.bind λu=>Sum.elim (λv=>some v) g u):=h.bd λ_ hu=>T.el (λ_ he=>T.er (hu.1 _ he)) λ_ ho=>k _ (hu.2 _ ho)
theorem tSize (a:Int):T (λb=>b=true↔1<=a/\a<=600) (PW a):=by
 unfold PW VW;refine T.cp (λh=>T.rt ?_) λh=>T.rt ?_
 ·rw[decide_eq_true_eq];omega
 ·exact⟨λq=>(by cases q),λq=>absurd q.1 h⟩
def pok (p:qD):Prop:=(5<=p.Thick/\p.Thick<=300)/\(5<=p.Width/\p.Width<=600)/\(0<=p.Allow/\p.Allow<=200)/\p.Lengths.length<=8
def b1k (g:Int):Prop:=1<=g/\g<=1000
theorem tGrow (a b:Int):T (λg=>(5<=a/\a<=600)->(0<=b/\b<=200)->b1k g) (MJ a b):=by
 refine T.rt λh1 h2=>?_;have m1:5*1000<=a*(1000+b):=Int.mul_le_mul h1.1 (by omega) (by omega) (by omega);have m2:a*(1000+b)<=600*1200:=Int.mul_le_mul h1.2 (by omega) (by omega) (by omega);rw[w64_o (n:=1000+b) (by omega)];generalize a*(1000+b)=m at*;rw[w64_o (n:=m) (by omega),w64_o (n:=m+999) (by omega),Int.tdiv_eq_ediv_of_nonneg (by omega),w64_o (by omega)];unfold b1k;omega
theorem qOS (p:qD):T (λg=>pok p->b1k g.1/\b1k g.2) (yS p):=by
 have bad:(¬pok p)->T (λg:Int×Int=>pok p->b1k g.1/\b1k g.2) (some (0,0)):=λh=>T.rt λq=>absurd q h;unfold yS;refine(tSize _).bd λb hb=>T.cd (λh=>bad λq=>?_) λ_=>(tSize _).bd λc hc=>T.cd (λh=>bad λq=>?_) λ_=>T.cp (λh=>bad λq=>?_) λ_=>?_
 ·have:=q.1;rw[hb.2 (by omega)] at h;cases h
 ·have:=q.2.1;rw[hc.2 (by omega)] at h;cases h
 ·have:=q.2.2.1;omega
 ·unfold YX;refine T.cp (λh=>bad λq=>?_) λ_=>(tGrow _ _).bd λx hx=>(tGrow _ _).bd λy hy=>T.rt λq=>⟨hx (by have:=q.1;omega) q.2.2.1,hy q.2.1 q.2.2.1⟩
  have:=q.2.2.1;omega
theorem tNum (p:qD):T (λe=>e=0->pok p) (JG p):=by
 unfold JG;refine T.cp (λ_=>T.er (e:=9) (by decide)) λh1=>T.cp (λ_=>T.er (e:=9) (by decide)) λh2=>T.cp (λ_=>T.er (e:=9) (by decide)) λh3=>?_;unfold yE;refine T.cp (λ_=>T.er (by decide)) λh4=>T.cp (λ_=>T.er (e:=9) (by decide)) λh5=>T.cp (λ_=>T.er (e:=9) (by decide)) λh6=>T.cp (λ_=>T.er (e:=9) (by decide)) λ_=>?_;unfold yF;refine T.cp (λ_=>T.er (by decide)) λ_=>(qOS p).bd λg _=>T.cp (λ_=>T.er (by decide)) λ_=>T.eq (λ_=>T.er (by decide)) λ_=>T.cp (λ_=>T.er (by decide)) λh8=>T.ne (λ_=>T.er (by decide)) λh9=>?_
 refine T.end (T.lp (Q:=λu=>(∀e,u= .inl e->e≠0)/\∀o,u= .inr o->True) p.Lengths.length (by omega) (λn (_:Unit) i=>wM p n i) (λ_ _=>True) (kw _) (λn x s hx _ ih=>?_) (s:=()) trivial) λ_ _=>T.end (T.lp (Q:=λu=>(∀e,u= .inl e->e≠0)/\∀o,u= .inr o->True) p.Prices.length (by omega) (λn (_:Unit) i=>wX p n i) (λ_ _=>True) (kw _) (λn x s hx _ ih=>?_) (s:=()) trivial) λ_ _=>T.rt λ_=>⟨by omega,by omega,by omega,by omega⟩
 ·show T _ (wM p (n+1) x);rw[wM];refine T.cp (λh=>T.gi (by omega) (T.cp (λ_=>T.no (e:=9) (by decide)) λ_=>?_)) λ_=>T.ok trivial;unfold JX;refine T.cp (λ_=>T.no (by decide)) λ_=>T.cp (λh0=>T.gi (by rw[w64_o (by omega)];omega) ?_) λ_=>ih () (by omega) trivial;unfold JU;exact T.cp (λ_=>T.no (by decide)) λ_=>ih () (by omega) trivial
 ·show T _ (wX p (n+1) x);rw[wX];refine T.cp (λh=>T.gi (by omega) (T.cp (λ_=>T.no (e:=9) (by decide)) λ_=>?_)) λ_=>T.ok trivial;unfold JY;exact T.cp (λ_=>T.no (by decide)) λ_=>ih () (by omega) trivial
theorem qYP (a:Int):T tt (TP a):=by
 unfold TP;exact T.cp (λ_=>T.rt trivial) λ_=>T.rt trivial
theorem tDigit (a:Int):T tt (NS a):=by
 unfold NS;exact T.cp (λ_=>T.rt trivial) λ_=>T.rt trivial
theorem tName (a:ByteArray):T tt (ME a):=by
 unfold ME;refine T.cp (λ_=>T.rt (a:=false) trivial) λh1=>T.cp (λ_=>T.rt (a:=false) trivial) λh2=>T.gi (by omega) ((qYP _).bd λv _=>?_);unfold UX;refine T.cd (λ_=>T.rt trivial) λ_=>(T.lp (Q:=tt) a.size (by omega) (λn (_:Unit) i=>QA a n i) (λ_ _=>True) (show 1<=a.size by omega) (λn x s hx _ ih=>?_) (s:=()) trivial).bd λu _=>T.el (λ_ _=>T.rt trivial) λ_ _=>T.rt trivial;show T tt (QA a (n+1) x);rw[QA]
 refine T.cp (λh=>T.gi (by omega) ((qYP _).bd λ_ _=>T.cd (λ_=>(tDigit _).bd λ_ _=>T.cd (λ_=>?_) λ_=>ih () (by omega) trivial) λ_=>ih () (by omega) trivial)) λ_=>T.rt trivial;unfold UI;exact T.cd (λ_=>T.rt trivial) λ_=>ih () (by omega) trivial
theorem tFind (l:List qD) (a:ByteArray) (hl:l.length<=16):T tt (HB l a):=by
 unfold HB;refine(T.lp (Q:=tt) l.length (by omega) (λn (_:Unit) i=>KB l a n i) (λ_ _=>True) (kw _) (λn x s hx _ ih=>?_) (s:=()) trivial).bd λu _=>T.el (λ_ _=>T.rt trivial) λ_ _=>T.rt trivial;show T tt (KB l a (n+1) x);rw[KB];exact T.cp (λh=>T.gi (by omega) (T.cd (λ_=>T.rt trivial) λ_=>ih () (by omega) trivial)) λ_=>T.rt trivial
def psok (l:List qD):Prop:=l.length<=16/\∀i,i<l.length->pok (l.getD i du)
theorem qQf (l:List qD):T (λe=>e=0->psok l) (ZW l):=by
 unfold ZW;refine T.cp (λ_=>T.er (by decide)) λh16=>T.end (T.lp (Q:=λu=>(∀e,u= .inl e->e≠0)/\∀o,u= .inr o->psok l) l.length (by omega) (λn (_:Unit) i=>YK l n i) (λx _=>∀i,i<x->pok (l.getD i du)) (kw _) (λn x s hx hi ih=>?_) (s:=()) λi hi=>by omega) λ_ k=>T.rt λ_=>k;show T _ (YK l (n+1) x);rw[YK]
 refine T.cp (λh=>T.gi (by omega) ((tName _).bd λ_ _=>T.cd (λ_=>T.no (by decide)) λ_=>T.gs (by omega) ((tFind _ _ ?_).bd λ_ _=>T.cd (λ_=>T.no (by decide)) λ_=>(tNum _).bd λv hv=>T.ne (λh=>T.no h) λh0=>ih () (by omega) λi hi'=>?_))) λh=>T.ok ⟨by omega,λi hi'=>hi i (by omega)⟩
 ·rw[uc];omega
 ·by_cases hc:i=x
  ·subst hc;exact hv h0
  ·exact hi i (by omega)
def sfit (l:List qD) (z w q:Int):Prop:=b1k w/\(0<=q/\q<l.length)/\∃g,yS (l.getD q.toNat du)=some g/\((z=g.1/\w=g.2)\/(z=g.2/\w=g.1))
def qOH (l:List qD) (z:Int) (r:List Int×List Int):Prop:=r.1.length=r.2.length/\∀i,i<r.1.length->sfit l z (r.1.getD i du) (r.2.getD i du)
theorem MK {α:Type} [Inhabited α] (l:List α) (x:α) (i:Nat):(l++[x]).getD i du=if i<l.length then l.getD i du else if i=l.length then x else du:=by
 rw[ka,ka];by_cases h:i<l.length
 ·rw[if_pos h,kD h]
 ·rw[if_neg h,kA (by omega)];by_cases h2:i=l.length
  ·subst h2;rw[if_pos rfl];simp
  ·rw[if_neg h2,List.getElem?_eq_none (by simp;omega)];rfl
theorem tSizes (l:List qD) (z:Int):T (λr=>qOH l z r/\r.1.length<=16) (UQ l z):=by
 unfold UQ;refine(qQf l).bd λe he=>T.ne (λ_=>T.rt ⟨⟨rfl,λi hi=>by simp at hi⟩,by simp⟩) λh0=>?_;obtain⟨h16,hp⟩:=he h0;refine(T.lp (Q:=λr:List Int×List Int=>qOH l z r/\r.1.length<=16) l.length (by omega) (λn (s:List Int×List Int) i=>yQ l z n s.1 s.2 i) (λx s=>qOH l z s/\s.1.length<=x) (kw _) (λn x s hx hi ih=>?_) (s:=([],[])) ⟨⟨rfl,λi hi=>by simp at hi⟩,by simp⟩).bd λ_ k=>T.rt k;show T _ (yQ l z (n+1) s.1 s.2 x);rw[yQ];obtain⟨⟨i1,i3⟩,i2⟩:=hi;refine T.cp (λh=>T.gi (by omega) ?_) λ_=>T.rt ⟨⟨i1,i3⟩,uu i2 (by omega)⟩;obtain⟨g,eg,hg⟩:=qOS (l.getD (x:Int).toNat du)
 rw[eg];have hg:=hg (by rw[kg];exact hp x (by omega));have k2:∀w,b1k w->((z=g.1/\w=g.2)\/(z=g.2/\w=g.1))->T (λr:List Int×List Int=>qOH l z r/\r.1.length<=16) (bif room (s.1.length+1) 8 then NT s.2 x (yQ l z n) (s.1++[w]) else none):=λw hw hz=>T.gr (by omega) (by
  unfold NT;refine T.gr (by omega) (ih (_,_) (by omega) ⟨⟨by simp[i1],λi hi=>?_⟩,by simp;omega⟩);simp only[kS,uo] at hi;rw[MK,MK,<-i1];by_cases hc:i<s.1.length
  ·rw[if_pos hc,if_pos hc];exact i3 i hc
  ·rw[if_neg hc,if_neg hc,if_pos (by omega),if_pos (by omega)];exact⟨hw,by omega,g,eg,hz⟩)
 exact T.eq (λq=>k2 _ hg.2 (.inl ⟨q,rfl⟩)) λ_=>T.eq (λq=>k2 _ hg.1 (.inr ⟨q,rfl⟩)) λ_=>ih s (by omega) ⟨⟨i1,i3⟩,by omega⟩
def rok (r:Rect):Prop:=(-600<=r.X.A/\r.X.A<r.X.B/\r.X.B<=600)/\(-600<=r.Y.A/\r.Y.A<r.Y.B/\r.Y.B<=600)
theorem tRect (r:Rect):T (λb=>b=true->rok r) (HZ r):=by
 unfold HZ;refine(T.lp (Q:=λu:Bool⊕Unit=>(∀b,u= .inl b->b=false)/\∀o,u= .inr o->rok r) 2 (by decide) (λn (_:Unit) i=>yZ r n i) (λx _=>(0<x->-600<=r.X.A/\r.X.A<r.X.B/\r.X.B<=600)/\(1<x->-600<=r.Y.A/\r.Y.A<r.Y.B/\r.Y.B<=600)) (kw _) (λn x s hx hi ih=>?_) (s:=()) ⟨λh=>by omega,λh=>by omega⟩).bd λu hu=>T.el (λb hb=>T.rt λq=>by rw[hu.1 b hb] at q;cases q) λo ho=>T.rt λ_=>hu.2 o ho;show T _ (yZ r (n+1) x);rw[yZ];have no:T (λu:Bool⊕Unit=>(∀b,u= .inl b->b=false)/\∀o,u= .inr o->rok r) (some (.inl false)):=T.rt ⟨λ_ q=>(by cases q;rfl),λ_ q=>(by cases q)⟩
 refine T.cp (λh=>T.gi (by omega) (T.cp (λ_=>no) λh1=>T.cp (λ_=>no) λh2=>?_)) λh=>T.rt ⟨λ_ q=>(by cases q),λ_ _=>⟨hi.1 (by omega),hi.2 (by omega)⟩⟩;unfold VH;refine T.cp (λ_=>no) λh3=>ih () (by omega) ?_;rcases(show x=0\/x=1 by omega) with rfl|rfl
 ·have h1:¬r.X.A< -600:=h1;have h2:¬r.X.B>600:=h2;have h3:¬r.X.A≥r.X.B:=h3;exact⟨λ_=>by omega,λh=>by omega⟩
 ·have h1:¬r.Y.A< -600:=h1;have h2:¬r.Y.B>600:=h2;have h3:¬r.Y.A≥r.Y.B:=h3;exact⟨λ_=>hi.1 (by omega),λ_=>by omega⟩
theorem tLacks (l:List qO) (r:Rect) (hl:l.length<=24) (hr:rok r):T (λz=>z.length<=24) (AW l r):=by
 unfold AW;refine(T.lp (Q:=λz:List qY=>z.length<=24) l.length (by omega) (λn (s:List qY×Int) i=>PX l r n s.1 s.2 i) (λx s=>s.1.length=x) (kw _) (λn x s hx hi ih=>?_) (s:=([],0)) rfl).id;show T _ (PX l r (n+1) s.1 s.2 x);rw[PX];unfold rok at hr;have m1:1*1<=(r.X.B-r.X.A)*(r.Y.B-r.Y.A):=Int.mul_le_mul (by omega) (by omega) (by omega) (by omega);have m2:(r.X.B-r.X.A)*(r.Y.B-r.Y.A)<=1200*1200:=Int.mul_le_mul (by omega) (by omega) (by omega) (by omega)
 refine T.cp (λh=>T.gi (by omega) ((tSecW _ _).bd λ_ _=>T.gn ?_ (T.gr (by omega) (ih (_,_) (by omega) (by simp[hi]))))) λ_=>T.rt (by omega);rw[w64_o (n:=r.X.B-r.X.A) (by omega),w64_o (n:=r.Y.B-r.Y.A) (by omega),w64_o (by omega)];omega
theorem qYX (d:qH) (b:Box):T tt (RA d b):=by
 unfold RA qCB;refine(T.bd (R:=tt) (qLN _ _) λ_ _=>(qLN _ _).bd λ_ _=>(qLN _ _).bd λ_ _=>(T.rt trivial:T tt (some _)).bd λ_ _=>T.cd (λ_=>T.rt (a:=(_,_)) trivial) λ_=>(T.rt trivial:T tt (some _)).bd λ_ _=>T.cd (λ_=>T.rt (a:=(_,_)) trivial) λ_=>(T.rt trivial:T tt (some _)).bd λ_ _=>?_:T tt _).bd λ_ _=>T.rt trivial;unfold DE;exact T.cd (λ_=>T.rt trivial) λ_=>T.rt trivial
def vok (p:qD) (v:zG×Bool):Prop:=v.2=true->(0<=v.1.length/\v.1.length<=480000)/\v.1.zones.length<=24/\v.1.defects.length<=64/\v.1.product.Lengths.length<=8/\p.Lengths.length<=8
theorem tLook (l:List qO) (d:List qH) (p:qD) (r:Rect):T (vok p) (qAj l d p r):=by
 have bad:∀{v:zG},T (vok p) (some (v,false)):=T.rt λq=>by cases q
 unfold qAj;refine(qTJ l).bd λe he=>T.ne (λ_=>bad) λh0=>T.bd (R:=λe=>e=0->d.length<=64) ⟨_,qE9 d,λq=>((NN _).1 q).1⟩ λe1 he1=>T.ne (λ_=>bad) λh1=>(qQf [p]).bd λe2 he2=>T.ne (λ_=>bad) λh2=>(tRect r).bd λb hb=>?_;have hp:pok p:=(he2 h2).2 0 (by simp);unfold UE;refine T.cd (λ_=>bad) λh3=>(qOS p).bd λg _=>?_;have k2:∀x,T (vok p) (FC l d p r x):=λx=>by
  unfold FC;refine T.cd (λ_=>bad) λ_=>(qTA l).bd λn hn=>(tLacks l r (he h0).1 (hb (by simpa using h3))).bd λz hz=>(T.rt trivial:T tt (some _)).bd λbx _=>(T.lp (Q:=λz:List qH=>z.length<=64) d.length (by have:=he1 h1;omega) (λn s i=>JN d bx n i s) (λx s=>s.length<=x) (kw _) (λn x s hx hi ih=>?_) (s:=[]) (by simp)).bd λy hy=>T.rt λ_=>⟨hn,hz,hy,hp.2.2.2,hp.2.2.2⟩
  show T _ (JN d bx (n+1) x s);have:=he1 h1;rw[JN];exact T.cp (λh=>T.gi (by omega) ((qYX _ _).bd λ_ _=>T.cd (λ_=>T.gr (by omega) (ih _ (by omega) (by simp;omega))) λ_=>ih _ (by omega) (by omega))) λ_=>T.rt (by omega)
 exact T.cd (λ_=>k2 _) λ_=>k2 _
theorem tPrice (p:qD) (n:Int) (hp:p.Lengths.length<=8):T tt (FD p n):=by
 unfold FD;refine(T.lp (Q:=tt) p.Lengths.length (by omega) (λm (_:Unit) i=>YQ p n m i) (λ_ _=>True) (kw _) (λm x s hx _ ih=>?_) (s:=()) trivial).bd λu _=>T.el (λ_ _=>T.rt trivial) λ_ _=>T.rt trivial;show T tt (YQ p n (m+1) x);rw[YQ];exact T.cp (λh=>T.gi (by omega) (T.cd (λ_=>ih () (by omega) trivial) λ_=>T.cp (λ_=>T.rt trivial) λh2=>T.gi (by omega) (T.rt trivial))) λ_=>T.rt trivial
theorem tWorst (z:List qY) (a:Span) (hz:z.length<=24):T tt (IF z a):=by
 unfold IF;refine(T.lp (Q:=tt) z.length (by omega) (λn s i=>ZF z a n s i) (λ_ _=>True) (kw _) (λn x s hx _ ih=>?_) trivial).id;show T tt (ZF z a (n+1) s x);rw[ZF];refine T.cp (λh=>T.gi (by omega) (T.cp (λ_=>?_) λ_=>ih _ (by omega) trivial)) λ_=>T.rt trivial;exact T.cd (λ_=>ih _ (by omega) trivial) λ_=>ih _ (by omega) trivial
theorem tWorth (v:zG) (z:Span) (f:Int) (h1:v.zones.length<=24) (h2:v.defects.length<=64) (h3:v.product.Lengths.length<=8):T tt (RQ v z f):=by
 unfold RQ EC;refine(T.cp (λ_=>T.cp (λ_=>T.rt trivial) λ_=>T.rt (a:=false) trivial) λ_=>T.rt (a:=false) trivial:T tt _).bd λb _=>T.cd (λ_=>T.rt trivial) λ_=>(tPrice _ _ h3).bd λp _=>T.cd (λ_=>T.rt (a:=(_,_)) trivial) λ_=>(tWorst _ _ h1).bd λw _=>?_;unfold TK;refine T.cp (λ_=>T.rt trivial) λ_=>(T.rt trivial:T tt (some _)).bd λbx _=>(T.lp (Q:=tt) v.defects.length (by omega) (λn s i=>jR v f bx n s i) (λ_ _=>True) (kw _) (λn x s hx _ ih=>?_) trivial).bd λu _=>T.el (λ_ _=>T.rt trivial) λ_ _=>T.rt trivial;show T tt (jR v f bx (n+1) s x)
 rw[jR];exact T.cp (λh=>T.gi (by omega) ((qYX _ _).bd λ_ _=>T.cd (λ_=>ih _ (by omega) trivial) λ_=>T.cd (λ_=>T.rt trivial) λ_=>ih _ (by omega) trivial)) λ_=>T.rt trivial
theorem T.ms {σ β:Type} {Q:β->Prop} (L:Nat->σ->Option β) (I:σ->Prop) (μ:σ->Nat) (h:∀n s,I s->(∀s',I s'->μ s'<μ s->T Q (L n s'))->T Q (L (n+1) s)) {s:σ} (hs:I s) (hb:μ s<=1000000000):T Q (L FUEL s):=by
 have k:∀n s,μ s<n->I s->T Q (L n s):=by
  intro n
  induction n with
  |zero=>intro s h1;omega
  |succ n ih=>exact λs h1 hi=>h n s hi λs' hi' hm=>ih s' (by omega) hi'
 exact k FUEL s (by rw[FUEL_eq];omega) hs
structure LM (a:Line):Prop where
 len:0<=a.Len/\a.Len<=2000
 kerf:0<=a.Kerf/\a.Kerf<=20
 pitch:1<=a.Pitch/\a.Pitch<=2000
 szl:a.Sizes.length<=32
 sz:∀i,i<a.Sizes.length->1<=a.Sizes.getD i du/\a.Sizes.getD i du<=2000
structure LV (a:Line):Prop extends LM a where
 gl:a.Gain.length=a.Sizes.length
 cl:(a.Chip.length:Int)=a.Len
 dl:(a.Dust.length:Int)=a.Len
 gr:∀i,i<a.Sizes.length->((a.Gain.getD i du).length:Int)=imax 0 (a.Len-a.Sizes.getD i du+1)
theorem tMeas (a:Line):T (λe=>e=0->LM a) (RH a):=by
 unfold RH;refine T.cp (λ_=>T.er (e:=9) (by decide)) λh1=>T.cp (λ_=>T.er (e:=9) (by decide)) λh2=>T.cp (λ_=>T.er (e:=9) (by decide)) λh3=>T.cp (λ_=>T.er (e:=9) (by decide)) λh4=>T.cp (λ_=>T.er (e:=9) (by decide)) λh5=>?_;unfold jP
 refine T.cp (λ_=>T.er (by decide)) λh6=>T.cp (λ_=>T.er (by decide)) λh7=>T.end (T.lp (Q:=λu=>(∀e,u= .inl e->e≠0)/\∀o,u= .inr o->∀i,i<a.Sizes.length->1<=a.Sizes.getD i du/\a.Sizes.getD i du<=2000) a.Sizes.length (by omega) (λn (_:Unit) i=>jQ a n i) (λx _=>∀i,i<x->1<=a.Sizes.getD i du/\a.Sizes.getD i du<=2000) (kw _) (λn x s hx hi ih=>?_) (s:=()) λi hi=>by omega) λ_ k=>T.rt λ_=>⟨by omega,by omega,by omega,by omega,k⟩
 show T _ (jQ a (n+1) x);rw[jQ];refine T.cp (λh=>T.gi (by omega) (T.cp (λ_=>T.no (e:=9) (by decide)) λh8=>?_)) λh=>T.ok λi hi'=>hi i (by omega);unfold TF;refine T.cp (λ_=>T.no (by decide)) λh9=>ih () (by omega) λi hi'=>?_;by_cases hc:i=x
 ·subst hc;rw[kg] at h8 h9;omega
 ·exact hi i (by omega)
theorem tSml (g:List (List Int)) (hg:g.length<=32) (hr:∀i,i<g.length->(g.getD i du).length<=3000):T tt (TU g):=by
 unfold TU;refine(T.lp (Q:=tt) g.length (by omega) (λn (_:Unit) i=>YY g n i) (λ_ _=>True) (kw _) (λn x s hx _ ih=>?_) (s:=()) trivial).bd λu _=>T.el (λ_ _=>T.rt trivial) λ_ _=>T.rt trivial;show T tt (YY g (n+1) x);rw[YY];refine T.cp (λh=>T.gi (by omega) ((T.lp (Q:=tt) (g.getD x du).length (by have:=hr x (by omega);omega) (λn (_:Unit) i=>QT g x n i) (λ_ _=>True) (kw _) (λm y s hy _ ih2=>?_) (s:=()) trivial).bd λu _=>T.el (λ_ _=>T.rt trivial) λ_ _=>ih () (by omega) trivial)) λ_=>T.rt trivial;show T tt (QT g x (m+1) y);rw[QT,kg]
 refine T.cp (λh=>T.gi (by omega) (T.cp (λ_=>T.rt (a:=(Sum.inl false:Bool⊕Unit)) trivial) λ_=>?_)) λ_=>T.rt trivial;unfold BX;exact T.cp (λ_=>T.rt trivial) λ_=>ih2 () (by omega) trivial
theorem tCutC (a:Line):T (λe=>e=0->LV a) (NQ a):=by
 unfold NQ;refine(tMeas a).bd λe he=>T.ne (λh=>T.er h) λh0=>T.ne (λ_=>T.er (e:=19) (by decide)) λh1=>T.ne (λ_=>T.er (e:=19) (by decide)) λh2=>?_;have m:=he h0;have m1:=m.len;have m2:=m.szl;unfold RP
 refine T.ne (λ_=>T.er (by decide)) λh3=>T.end (T.lp (Q:=λu=>(∀e,u= .inl e->e≠0)/\∀o,u= .inr o->LV a) a.Gain.length (by omega) (λn (_:Unit) i=>YJ a n i) (λx _=>∀i,i<x->((a.Gain.getD i du).length:Int)=imax 0 (a.Len-a.Sizes.getD i du+1)) (kw _) (λn x s hx hi ih=>?_) (s:=()) λi hi=>by omega) λ_ v=>(tSml a.Gain (by omega) λi hi=>?_).bd λ_ _=>T.cd (λ_=>T.er (e:=9) (by decide)) λ_=>(tSml [a.Chip,a.Dust] (by simp) λi hi=>?_).bd λ_ _=>T.cd (λ_=>T.er (by decide)) λ_=>T.rt λ_=>v
 ·show T _ (YJ a (n+1) x);rw[YJ];refine T.cp (λh=>T.gi (by omega) (T.gi (by omega) ((T.rt rfl:T (λz=>z=imax 0 (w64 (w64 (a.Len-a.Sizes.getD (x:Int).toNat du)+1))) (some _)).bd λz hz=>T.ne (λ_=>T.no (by decide)) λh4=>ih () (by omega) λi hi'=>?_))) λh=>T.ok ⟨m,by omega,by omega,by omega,λi hi'=>hi i (by omega)⟩;by_cases hc:i=x
  ·subst hc;have:=m.sz i (by omega);rw[kg] at h4 hz;rw[h4,hz,w64_o (n:=a.Len-a.Sizes.getD i du) (by omega),w64_o (by omega)]
  ·exact hi i (by omega)
 ·have:=v.gr i (by have:=v.gl;omega);have:=m.sz i (by have:=v.gl;omega);have:=qHZ 0 (a.Len-a.Sizes.getD i du+1);omega
 ·match i,hi with
  |0,_=>show a.Chip.length<=3000;omega
  |1,_=>show a.Dust.length<=3000;omega
  |i+2,hi=>simp at hi;omega
theorem tSums (l:List Int) (hl:l.length<=2000):T (λr=>r.length=l.length+1) (DV l):=by
 unfold DV;rw[wH (by omega),qE1 (by omega) (by omega),kg];refine(T.lp (Q:=λr:List Int=>r.length=l.length+1) l.length (by omega) (λn s i=>KA l n s i) (λ_ s=>s.length=l.length+1) (kw _) (λn x s hx hi ih=>?_) (by simp)).id;show T _ (KA l (n+1) s x);rw[KA];refine T.cp (λh=>T.gi (by omega) (T.gi (by omega) (T.gi ?_ (ih _ (by omega) (by simp[hi]))))) λ_=>T.rt hi;rw[wH (by omega)];omega
theorem tBeh {a:Line} (h:LM a) {p:Int} (h0:0<=p) (h1:p<=a.Len):T (λb=>b= -1\/(p<=b/\b<=a.Len)) (RE a p):=by
 unfold RE;have:=h.len;have:=h.kerf;refine T.eq (λ_=>T.rt (.inl rfl)) λ_=>T.rt (.inr ?_);rw[w64_o (by omega)];have:=qBA (p+a.Kerf) a.Len;omega
def vpc (a:Line) (x:zV):Prop:=0<=x.Size/\x.Size<a.Sizes.length/\0<=x.At/\x.At+a.Sizes.getD x.Size.toNat du<=a.Len/\0<=(a.Gain.getD x.Size.toNat du).getD x.At.toNat du
def vp (a:Line) (lo:Int) (c:qB):Prop:=(c.piece.Size= -1/\c.piece.At= -1)\/(vpc a c.piece/\lo<=c.piece.At)
theorem vp.mono {a:Line} {lo lo':Int} {c:qB} (h:vp a lo c) (hl:lo'<=lo):vp a lo' c:=h.imp id λq=>⟨q.1,by have:=q.2;omega⟩
theorem tStart {a:Line} (v:LV a) {p:Int} (h0:0<=p) (h1:p<=a.Len) (d:List Int) (e:List qB) (hd:(d.length:Int)=a.Len+1) (he:(e.length:Int)=a.Len+1):T (vp a p) (NR a p d e):=by
 have m1:=v.len;have m2:=v.szl;have m3:=v.gl;unfold NR;refine(T.lp (Q:=vp a p) a.Sizes.length (by omega) (λn s i=>wW a p d e n i s) (λ_ s=>vp a p s) (kw _) (λn x s hx hi ih=>?_) (.inl ⟨rfl,rfl⟩)).id;show T _ (wW a p d e (n+1) x s);rw[wW];refine T.cp (λh=>T.gi (by omega) ?_) λ_=>T.rt hi;have hs:=v.sz x (by omega);have hg:=v.gr x (by omega);have hm:=qHZ 0 (a.Len-a.Sizes.getD x du+1);rw[kg,w64_o (by omega)];refine T.cp (λ_=>ih s (by omega) hi) λhle=>T.gi (by omega) (T.gi (by omega) ?_)
 have k3:¬(a.Gain.getD x du).getD p.toNat du<0->∀c:qB,c.piece=⟨x,p⟩->T (vp a p) (RR x s (λi s=>wW a p d e n i s) c):=λhg0 c hc=>by
  have hv:vp a p c:= .inr ⟨by rw[hc];exact⟨show(0:Int)<=x by omega,show(x:Int)<_ by omega,h0,by show p+a.Sizes.getD (x:Int).toNat du<=a.Len;rw[kg];omega,by show 0<=(a.Gain.getD (x:Int).toNat du).getD p.toNat du;rw[kg];omega⟩,by rw[hc];exact kX p⟩;unfold RR;refine T.cd (λ_=>ih c (by omega) hv) λ_=>?_;unfold BH;exact T.cp (λ_=>ih c (by omega) hv) λ_=>ih s (by omega) hi
 unfold BN;rw[kg,w64_o (by omega)];refine T.cp (λ_=>ih s (by omega) hi) λhg0=>T.gi (by omega) (T.gi (by omega) ((tBeh v.toLM (by omega) (by omega)).bd λb hb=>T.cp (λhb0=>T.gi (by omega) (T.gi (by omega) (T.gi (by omega) (k3 hg0 _ rfl)))) λ_=>k3 hg0 _ rfl))
theorem qYh {α:Type} [Inhabited α] (l:List α) {i j:Nat} (x:α) (h:i≠j):(l.set i x).getD j du=l.getD j du:=by
 rw[ka,ka,gz h]
theorem qZm {α:Type} [Inhabited α] (l:List α) {i:Nat} (x:α) (h:i<l.length):(l.set i x).getD i du=x:=by
 rw[ka,uU h];rfl
def vps (a:Line) (p:Int) (l:List qB):Prop:=(l.length:Int)=a.Len+1/\∀j:Nat,p<j->(j:Int)<=a.Len->vp a j (l.getD j du)
theorem vps.set {a:Line} {p:Int} {l:List qB} (h:vps a p l) (h0:0<=p) (h1:p<=a.Len) {c:qB} (hc:vp a p c):vps a (p-1) (l.set p.toNat c):=by
 refine⟨by rw[uR];exact h.1,λj hj hl=>?_⟩;have:=h.1;by_cases e:p.toNat=j
 ·rw[<-e,qZm l c (by omega)];exact hc.mono (by omega)
 ·rw[qYh l c e];exact h.2 j (by omega) hl
theorem tL4 {a:Line} (v:LV a) {p:Int} (h0:0<=p) (h1:p<=a.Len) {c d:List Int} (hc:(c.length:Int)=a.Len+1) (hd:(d.length:Int)=a.Len+1) {l:List qB} (hl:vps a p l) (s:qB) {b:qB} (hb:vp a p b):T (vp a p) (wR a c d l p s FUEL (w64 (w64 (p+a.Pitch)+a.Kerf)) b):=by
 have m1:=v.len;have m2:=v.kerf;have m3:=v.pitch;have hl1:=hl.1;rw[w64_o (n:=p+a.Pitch) (by omega),w64_o (by omega)];refine T.ms (Q:=vp a p) (λn (t:Int×qB)=>wR a c d l p s n t.1 t.2) (λt=>(p+a.Pitch+a.Kerf<=t.1/\t.1<=6000)/\vp a p t.2) (λt=>(6000-t.1).toNat) (λn t hi ih=>?_) (s:=(_,_)) ⟨by omega,hb⟩ (by simp only;omega);show T _ (wR a c d l p s (n+1) t.1 t.2);obtain⟨hi,hv⟩:=hi;rw[wR];refine T.cp (λh=>?_) λ_=>T.rt hv;rw[w64_o (n:=t.1-a.Kerf) (by omega)];have k6:∀z,vp a p z->T (vp a p) (XF a t.1 (λx y=>wR a c d l p s n x y) z):=λz hz=>by
  unfold XF;rw[w64_o (by omega)];exact ih (_,_) ⟨by simp only;omega,hz⟩ (by simp only;omega)
 have hp:vp a p ((l.set p.toNat s).getD t.1.toNat du):=by
  rw[qYh l s (by omega)];exact(hl.2 t.1.toNat (by omega) (by omega)).mono (by omega)
 refine T.gi (by omega) (T.gi (by omega) (T.gi (by omega) (T.gi (by omega) (T.gi (by omega) (T.cd (λ_=>?_) λ_=>k6 _ hv)))));unfold UY;exact T.cd (λ_=>k6 _ hp) λ_=>k6 _ hv
theorem qZ9 {a:Line} (v:LV a):T (vps a (-1)) (UW a):=by
 have m1:=v.len;have m2:=v.cl;have m3:=v.dl;unfold UW;refine(tSums a.Chip (by omega)).bd λc hc=>(tSums a.Dust (by omega)).bd λd hd=>?_;rw[w64_o (n:=a.Len+1) (by omega),show a.Len+1=(((a.Len+1).toNat:Nat):Int) by omega,qE1 (by omega) (by omega),kg];have hr:∀z:qB,vps a a.Len (List.replicate (a.Len+1).toNat z):=λz=>⟨by simp;omega,λj h1 h2=>by omega⟩
 refine(T.ms (Q:=vps a (-1)) (λn (t:List qB×List qB×Int)=>jA a c d n t.1 t.2.1 t.2.2) (λt=>(-1<=t.2.2/\t.2.2<=a.Len)/\vps a t.2.2 t.1/\vps a t.2.2 t.2.1) (λt=>(t.2.2+1).toNat) (λn t hi ih=>?_) (s:=(_,_,_)) ⟨⟨show-1<=a.Len by omega,kX a.Len⟩,hr _,hr _⟩ (by show(a.Len+1).toNat<=1000000000;omega)).id;show T _ (jA a c d (n+1) t.1 t.2.1 t.2.2);obtain⟨hi,i7,i8⟩:=hi;have hl7:=i7.1;have hl8:=i8.1;rw[jA];refine T.cp (λh=>(tStart v (by omega) hi.2 d t.1 (by omega) hl7).bd λs hs=>T.gi (by omega) (T.gi (by omega) (T.gi (by omega) ?_))) λh=>T.rt (by rw[show t.2.2= -1 by omega] at i7;exact i7)
 have hS:=i8.set (by omega) hi.2 hs;have k3:∀b,vp a t.2.2 b->T (vps a (-1)) (XQ a c d t.1 t.2.1 t.2.2 (λx y z=>jA a c d n x y z) s b):=λb hb=>by
  unfold XQ;refine(tL4 v (by omega) hi.2 (by omega) (by omega) i8 s hb).bd λo ho=>T.gi (by omega) ?_;rw[w64_o (by omega)];exact ih (_,_,_) ⟨by simp only;omega,i7.set (by omega) hi.2 ho,hS⟩ (by simp only;omega)
 refine T.cd (λ_=>?_) λ_=>k3 _ (.inl ⟨rfl,rfl⟩);unfold UT;refine T.cd (λ_=>k3 _ ?_) λ_=>k3 _ (.inl ⟨rfl,rfl⟩);rw[qZm t.2.1 s (by omega)];exact hs
theorem tCut (a:Line):T (λr=>r.2.2=0->LV a/\r.1.length<=2002/\∀x∈r.1,vpc a x) (jY a):=by
 unfold jY;refine(tCutC a).bd λe he=>T.ne (λh=>T.rt λq=>absurd q h) λh0=>?_;have v:=he h0;have m1:=v.len;refine(qZ9 v).bd λch hc=>?_;have hl:=hc.1
 refine(T.ms (Q:=λr:List zV=>r.length<=2002/\∀x∈r,vpc a x) (λn (t:List zV×Int)=>XV a ch n t.1 t.2) (λt=>(-1<=t.2/\t.2<=a.Len)/\(t.1.length:Int)<=(if t.2<0 then 2001 else t.2)/\∀x∈t.1,vpc a x) (λt=>if t.2<0 then 0 else(a.Len+1-t.2).toNat) (λn t hi ih=>?_) (s:=([],0)) ⟨by simp only;omega,by simp,by simp⟩ (by show(if(0:Int)<0 then 0 else(a.Len+1-0).toNat)<=1000000000;rw[if_neg (by decide)];omega)).bd λr hr=>T.gi (by omega) (T.rt λ_=>⟨v,hr⟩);show T _ (XV a ch (n+1) t.1 t.2);obtain⟨hi,i1,i2⟩:=hi;rw[XV]
 have fin:T (λr:List zV=>r.length<=2002/\∀x∈r,vpc a x) (some t.1):=T.rt ⟨by split at i1<;>omega,i2⟩;refine T.cp (λh=>T.gi (by omega) (T.cd (λ_=>fin) λhn=>?_)) λ_=>fin;rw[if_neg (by omega)] at i1;rcases hc.2 t.2.toNat (by omega) (by omega) with hv|⟨hv,hlo⟩
 ·rw[hv.1,hv.2] at hn;cases hn
 ·have hs:=v.sz (ch.getD t.2.toNat du).piece.Size.toNat (by have:=hv.1;have:=hv.2.1;omega);have q1:=hv.2.2.1;have q2:=hv.2.2.2.1;rw[w64_o (n:=(ch.getD t.2.toNat du).piece.At+_) (by omega)];refine T.gr (by omega) (T.gi ⟨hv.1,hv.2.1⟩ ((tBeh v.toLM (by omega) q2).bd λb hb=>ih (_,_) ⟨by simp only;omega,?_,λx hx=>?_⟩ ?_))
  ·simp only[kS,uo];split<;>omega
  ·rcases ud.1 hx with hx|hx
   ·exact i2 x hx
   ·rw[un.1 hx];exact hv
  ·simp only;rw[if_neg (show¬t.2<0 by omega)];split<;>omega
def alg (r:Rect) (x:Int):Span:=if x=2 then r.X else r.Y
def wth (r:Rect) (x:Int) (s:Span):Rect:=if x=2 then⟨s,r.Y⟩ else⟨r.X,s⟩
def bfit (p:List qD) (r:Rect) (i:Int):Prop:=(0<=i/\i<p.length)/\∃g,yS (p.getD i.toNat du)=some g/\((r.X.B-r.X.A=g.1/\r.Y.B-r.Y.A=g.2)\/(r.X.B-r.X.A=g.2/\r.Y.B-r.Y.A=g.1))/\r.X.A<r.X.B/\r.Y.A<r.Y.B
inductive Tr (p:List qD) (k:Int):Rect->List Node->Prop where
 |waste (r:Rect):Tr p k r [⟨0,0⟩]
 |board (r:Rect) (i:Int) (h:bfit p r i):Tr p k r [⟨1,i⟩]
 |rip (r:Rect) (x c:Int) (a b:List Node) (hx:x=2\/x=3) (h1:(alg r x).A<c) (h2:c<(alg r x).B) (ha:Tr p k (wth r x ⟨(alg r x).A,c⟩) a) (hb:Tr p k (wth r x ⟨imin (c+k) (alg r x).B,(alg r x).B⟩) b):Tr p k r (⟨x,c⟩::(a++b))
def rin (r:Rect):Prop:=(-600<=r.X.A/\r.X.B<=600)/\(-600<=r.Y.A/\r.Y.B<=600)
theorem rin.al {r:Rect} (h:rin r) (x:Int): -600<=(alg r x).A/\(alg r x).B<=600:=by
 unfold alg;split
 ·exact h.1
 ·exact h.2
theorem rin.wt {r:Rect} (h:rin r) (x:Int) {s:Span} (h1: -600<=s.A) (h2:s.B<=600):rin (wth r x s):=by
 unfold wth;split
 ·exact⟨⟨h1,h2⟩,h.2⟩
 ·exact⟨h.1,⟨h1,h2⟩⟩
theorem wth_alg (r:Rect) (x:Int):wth r x (alg r x)=r:=by unfold wth alg;split<;>rfl
theorem qOa (r:Rect) (x:Int):KR r x=some (alg r x):=by
 unfold KR alg;by_cases h:x=2
 ·rw[if_pos h,show(x==2)=true from beq_iff_eq.2 h];rfl
 ·rw[if_neg h,show(x==2)=false from kT.2 h];rfl
theorem with_eq (r:Rect) (x:Int) (s:Span):TB r x s=some (wth r x s):=by
 unfold TB wth;by_cases h:x=2
 ·rw[if_pos h,show(x==2)=true from beq_iff_eq.2 h];rfl
 ·rw[if_neg h,show(x==2)=false from kT.2 h];rfl
theorem Tr.pos {p:List qD} {k:Int} {r:Rect} {l:List Node} (h:Tr p k r l):1<=l.length:=by cases h<;>simp
theorem qYU {p:List qD} {r:Rect} {i:Int} (h:bfit p r i) (hr:rin r):XR r i p=some 0:=by
 obtain⟨h0,g,hg,hf,hx,hy⟩:=h;unfold rin at hr;unfold XR UM;rw[kf (show¬i<0 by omega),kf (show¬i≥(p.length:Int) by omega),inb_t h0.1 h0.2,hg,qMX (by omega),qMX (by omega)];have l1:lenS r.X=r.X.B-r.X.A:=by unfold lenS empS;rw[kf (by omega)];rfl
 have l2:lenS r.Y=r.Y.B-r.Y.A:=by unfold lenS empS;rw[kf (by omega)];rfl
 simp only[kp,kv,kd,l1,l2];generalize r.X.B-r.X.A=a at*;generalize r.Y.B-r.Y.A=b at*;rcases hf with⟨rfl,rfl⟩|⟨rfl,rfl⟩
 ·simp[jK]
 ·by_cases c:g.2=g.1
  ·simp[jK,c]
  ·simp[jK,c]
theorem qRA {x:Int} (h:x=2\/x=3):KM x=some true:=by
 rcases h with rfl|rfl<;>rfl
theorem qG0 {A:Pattern} {p:List qD} {k:Int} {x:Nat} {st:List qV} {q:qV} (hst:st.length<=64) (hx:x<A.Nodes.length) (hA:A.Nodes.length<=127) (hc:JI (A.Nodes.getD x du) q=some 0) (hb:(A.Nodes.getD x du).Kind=1->XR q.rect (A.Nodes.getD x du).At p=some 0) (n:Nat) (u v:Int):
  wD A p A k (n+1) (st++[q]) (x:Int) u v=(KM (A.Nodes.getD x du).Kind).bind λb=>bif b then(FB q.rect (A.Nodes.getD x du) k).bind λw=>wD A p A k n (st++[⟨w.2.2,w64 (q.level+1)⟩,⟨w.1,w64 (q.level+1)⟩]) ((x+1:Nat):Int) u ((x+1:Nat):Int) else wD A p A k n st ((x+1:Nat):Int) u ((x+1:Nat):Int):=by
 have e0:(st++[q]).length=st.length+1:=by simp
 have e1:w64 ((((st++[q]).length:Nat):Int)-1)=(st.length:Int):=by rw[e0,w64_o (by omega)];omega
 have e2:(st++[q]).getD st.length du=q:=by
  rw[ka,kA (ke _)];simp
 have e3:(st++[q]).take st.length=st:=by rw[List.take_append_of_le_length (ke _),List.take_length]
 have hr:YC (x:Int) q A p u v=some (0,u,((x+1:Nat):Int)):=by
  unfold YC;rw[kf (by omega),zR (by omega),kg,hc];simp only[kv,kp,kd,gC];unfold XB;cases hk:(A.Nodes.getD x du).Kind==1 with
  |true=>
   rw[kg,hb (beq_iff_eq.1 hk)];simp only[kp,kd,ZR,kQ,kv,wH (show x<4611686018427387904 by omega)]
  |false=>simp only[ZR,kQ,kv,wH (show x<4611686018427387904 by omega)]
 rw[wD,e1,ki (by omega),zR (by omega),show slOk 0 (st.length:Int) (st++[q]).length=true from ki (by omega),kg,e2,e3,hr];simp only[kp,kd];rw[show Nat.beq 0 0=true from rfl,kf (show¬(x:Int)≥(A.Nodes.length:Int) by omega),zR (by omega),kg,yC (by omega)];simp only[ue,kv,kp,TE,wH (show x<4611686018427387904 by omega)]
theorem qRn {d:Node} {q:qV} (hl:q.level<=64) (h:d=⟨0,0⟩\/(∃i,d=⟨1,i⟩)\/((d.Kind=2\/d.Kind=3)/\(alg q.rect d.Kind).A<d.At/\d.At<(alg q.rect d.Kind).B)):JI d q=some 0:=by
 unfold JI ZC;rcases h with rfl|⟨i,rfl⟩|⟨hk,h1,h2⟩
 ·simp only[kf (show¬q.level>64 by omega)];rfl
 ·simp only[kf (show¬q.level>64 by omega)];rfl
 ·rw[kf (show¬d.Kind<0 by omega),kf (show¬d.Kind>3 by omega),show(d.Kind==0)=false from kT.2 (by omega),kf (show¬q.level>64 by omega),qRA hk,qOa];simp only[kv,kd,kp,kf (show¬d.At<=(alg q.rect d.Kind).A by omega),kf (show¬d.At≥(alg q.rect d.Kind).B by omega)];rfl
theorem qNI (pre:List Node) (d:Node) (l:List Node):(pre++d::l).getD pre.length du=d:=by
 rw[ka,kA (ke _)];simp
theorem Tr.walk {A:Pattern} {p:List qD} {k:Int} (hk:0<=k/\k<=20) (hA:A.Nodes.length<=127) {r:Rect} {l:List Node} (h:Tr p k r l):rin r->∀(st:List qV) (lv:Int) (pre post:List Node) (n:Nat) (u v:Int),A.Nodes=pre++l++post->2*lv+l.length<=129->st.length+1<=lv->
  wD A p A k (n+l.length) (st++[⟨r,lv⟩]) (pre.length:Int) u v=wD A p A k n st ((pre.length+l.length:Nat):Int) u ((pre.length+l.length:Nat):Int):=by
 induction h with
 |waste r=>
  intro hr st lv pre post n u v e hl hs;have hd:A.Nodes.getD pre.length du=⟨0,0⟩:=by rw[e,kI];exact qNI _ _ _
  have hx:pre.length<A.Nodes.length:=by rw[e];simp
  simp only[uo] at hl;rw[show[(⟨0,0⟩:Node)].length=1 from rfl,qG0 (by omega) hx hA (qRn (by simp only;omega) (.inl hd)) (λq=>by rw[hd] at q;cases q),hd];rfl
 |board r i hb=>
  intro hr st lv pre post n u v e hl hs;have hd:A.Nodes.getD pre.length du=⟨1,i⟩:=by rw[e,kI];exact qNI _ _ _
  have hx:pre.length<A.Nodes.length:=by rw[e];simp
  simp only[uo] at hl;rw[show[(⟨1,i⟩:Node)].length=1 from rfl,qG0 (by omega) hx hA (qRn (by simp only;omega) (.inr (.inl ⟨i,hd⟩))) (λq=>by rw[hd];exact qYU hb hr),hd];rfl
 |rip r x c a b hx h1 h2 ha hb iha ihb=>
  intro hr st lv pre post n u v e hl hs;have hd:A.Nodes.getD pre.length du=⟨x,c⟩:=by rw[e,kI];exact qNI _ _ _
  have hlt:pre.length<A.Nodes.length:=by rw[e];simp
  have al:=hr.al x;have pa:=ha.pos;have pb:=hb.pos;have hm:=qBA (c+k) (alg r x).B;simp only[uJ,kS] at hl⊢;rw[show n+(a.length+b.length+1)=n+b.length+a.length+1 by omega,qG0 (by omega) hlt hA (qRn (by simp only;omega) (.inr (.inr (by rw[hd];exact⟨hx,h1,h2⟩)))) (λq=>by rw[hd] at q;simp only at q;omega),hd,qRA hx];unfold FB;simp only[kd,kp,qOa,with_eq]
  rw[w64_o (n:=c+k) (by omega),w64_o (n:=lv+1) (by omega),show st++[(⟨wth r x ⟨imin (c+k) (alg r x).B,(alg r x).B⟩,lv+1⟩:qV),⟨wth r x ⟨(alg r x).A,c⟩,lv+1⟩]=(st++[⟨wth r x ⟨imin (c+k) (alg r x).B,(alg r x).B⟩,lv+1⟩])++[⟨wth r x ⟨(alg r x).A,c⟩,lv+1⟩] by simp];have e1:=iha (hr.wt x (s:=⟨(alg r x).A,c⟩) al.1 (by simp only;omega)) (st++[⟨wth r x ⟨imin (c+k) (alg r x).B,(alg r x).B⟩,lv+1⟩]) (lv+1) (pre++[⟨x,c⟩]) (b++post) (n+b.length) u ((pre.length+1:Nat):Int) (by rw[e];simp) (by omega) (by simp;omega)
  have e2:=ihb (hr.wt x (s:=⟨imin (c+k) (alg r x).B,(alg r x).B⟩) (by simp only;omega) al.2) st (lv+1) (pre++[⟨x,c⟩]++a) post n u ((pre.length+1+a.length:Nat):Int) (by rw[e];simp) (by omega) (by omega);simp only[kS,uo] at e1 e2;rw[e1,e2]
  congr 2<;>omega
theorem qZn {r:Rect} (h:rok r):ZM r=some true:=by
 unfold rok at h;have hf:FUEL=9223372036854775805+1+1+1:=FUEL_eq;generalize 9223372036854775805=n at hf;unfold ZM;have s0:zU r (n+1+1+1) 0=zU r (n+1+1) 1:=by
  rw[zU];show(bif decide (r.X.A< -600) then _ else bif decide (r.X.B>600) then _ else QK 0 _ (decide (r.X.A≥r.X.B)))=_;rw[kf (by omega),kf (by omega),kf (show¬r.X.A≥r.X.B by omega)];rfl
 have s1:zU r (n+1+1) 1=zU r (n+1) 2:=by
  rw[zU];show(bif decide (r.Y.A< -600) then _ else bif decide (r.Y.B>600) then _ else QK 1 _ (decide (r.Y.A≥r.Y.B)))=_;rw[kf (by omega),kf (by omega),kf (show¬r.Y.A≥r.Y.B by omega)];rfl
 rw[hf,s0,s1,zU];rfl
theorem Tr.check {p:List qD} {k:Int} (hk:0<=k/\k<=20) {r:Rect} {l:List Node} (hl:l.length<=127) (hr:rok r) (h:Tr p k r l):QW ⟨r,l⟩ p k=some 0:=by
 have hin:rin r:=by unfold rok at hr;unfold rin;omega
 unfold QW IN;rw[qZn hr];simp only[kd,ue,kv];rw[kf (show¬k<0 by omega),kf (show¬k>20 by omega)];unfold BF BO EK;simp only[kv,kd];rw[kf (by omega)];have w:=h.walk (A:=⟨r,l⟩) hk hl hin [] 1 [] [] (9223372036854775808-l.length) 0 0 (by simp) (by omega) (by simp);rw[show 9223372036854775808-l.length+l.length=FUEL by rw[FUEL_eq];omega] at w;have w':wD ⟨r,l⟩ p ⟨r,l⟩ k FUEL [⟨r,1⟩] 0 0 0=some (.inr ((l.length:Int),0)):=by
  refine Eq.trans w ?_;rw[show 9223372036854775808-l.length=(9223372036854775807-l.length)+1 by omega,wD];simp
 rw[w'];simp only[kv,kd,Sum.elim_inr];rw[show Nat.beq 0 0=true from rfl,kf (by omega)];rfl
end Saw
end Go.SL

import Derived.Test.YtigmogcdifllhaaGreatDoorEMa7
import Derived.Test.YtigmogcdifllhaaGreatDoorEMod
set_option linter.unusedVariables false
set_option linter.unusedSimpArgs false
namespace Go.SL
namespace Saw
theorem T.be {α β:Type} {Q:β->Prop} {R:α->Prop} {x:Option α} {f:α->Option β} (h:T R x) (k:∀a,x=some a->R a->T Q (f a)):T Q (x.bind f):=by
 obtain⟨a,e,h⟩:=h;rw[e];exact k a e h
theorem tStep (n:Int):T (λb=>b=true->1<=n/\n<=20000) (GN n):=by
 unfold GN LS;exact T.cp (λh=>T.rt λq=>⟨h,ul q⟩) λ_=>T.rt λq=>by cases q
theorem tFine (n:Int):T tt (GJ n):=by
 unfold GJ;exact T.cp (λ_=>T.rt trivial) λ_=>T.rt (a:=false) trivial
theorem tWBest (l:List qO) (d:List qH) (p:qD) (r:Rect) (st f:Int):T tt (qAH l d p r st f):=by
 unfold qAH;refine(tStep st).bd λb hb=>T.cd (λ_=>T.rt (a:=(_,_,_)) trivial) λhs=>(tFine f).bd λc _=>?_;have hs:=hb (by simpa using hs);unfold IW;refine T.cd (λ_=>T.rt trivial) λ_=>(tLook l d p r).bd λv hv=>T.cd (λ_=>T.rt trivial) λh=>?_;obtain⟨h1,h2,h3,h4,h5⟩:=hv (by simpa using h);refine(T.ms (Q:=tt) (λn (t:Int×Bool×Int×Span)=>TQ p st f v n t.1 t.2.1 t.2.2.1 t.2.2.2) (λt=>0<=t.2.2.1/\t.2.2.1<=600000) (λt=>(600000-t.2.2.1).toNat) (λn t hi ih=>?_) (s:=(_,_,_,_)) ⟨by simp only;omega,by simp only;omega⟩ (by simp only;omega)).bd λ_ _=>T.rt trivial
 show T tt (TQ p st f v (n+1) t.1 t.2.1 t.2.2.1 t.2.2.2);rw[TQ];refine T.cp (λh=>(T.lp (Q:=tt) p.Lengths.length (by omega) (λm (s:Int×Bool×Span) i=>yR p f v t.2.2.1 m s.1 s.2.1 i s.2.2) (λ_ _=>True) (kw _) (λm x s hx _ ih2=>?_) (s:=(_,_,_)) trivial).bd λo _=>?_) λ_=>T.rt trivial
 ·show T tt (yR p f v t.2.2.1 (m+1) s.1 s.2.1 x s.2.2);rw[yR];have k4:x<p.Lengths.length->∀w b,T tt (TX p t.2.2.1 s.1 s.2.1 x s.2.2 (λa b c d=>yR p f v t.2.2.1 m a b c d) w b):=λhx2 w b=>by
   unfold TX;exact T.cd (λ_=>ih2 (_,_,_) hx2 trivial) λ_=>ih2 (_,_,_) hx2 trivial
  exact T.cp (λh=>T.gi (by omega) ((tWorth _ _ _ h2 h3 h4).bd λw _=>T.cd (λ_=>T.cd (λ_=>k4 (by omega) _ _) λ_=>k4 (by omega) _ _) λ_=>k4 (by omega) _ _)) λ_=>T.rt trivial
 ·rw[w64_o (by omega)];exact ih (_,_,_,_) ⟨by simp only;omega,by simp only;omega⟩ (by simp only;omega)
theorem tGain (l:List qO) (d:List qH) (p:qD) (r:Rect) (s:Saw) (t:Rates):T tt (qDl l d p r s t):=by
 unfold qDl;exact(tWBest _ _ _ _ _ _).bd λ_ _=>T.cd (λ_=>T.rt trivial) λ_=>(qTA _).bd λ_ _=>(qOO _ _ _).bd λ_ _=>(qOO _ _ _).bd λ_ _=>(qOO _ _ _).bd λ_ _=>(qOO _ _ _).bd λ_ _=>T.rt trivial
def kok (s:Saw):Prop:=1<=s.Pitch/\0<=s.Kerf/\s.Kerf<=20
theorem tWChk (s:Saw) (r:Rates):T (λe=>e=0->kok s) (FX s r):=by
 have bad:T (λe:Int=>e=0->kok s) (some 9):=T.er (by decide);unfold FX;refine T.cp (λ_=>bad) λh1=>T.cp (λ_=>bad) λh2=>T.cp (λ_=>bad) λ_=>?_;unfold PU;refine T.cp (λ_=>bad) λ_=>T.cp (λ_=>bad) λh=>T.cp (λ_=>bad) λ_=>(tStep _).bd λ_ _=>?_;have k3:∀b,T (λe:Int=>e=0->kok s) (YI b):=λb=>T.cd (λ_=>bad) λ_=>T.rt λ_=>⟨by omega,by omega,by omega⟩
 unfold GC;exact T.cd (λ_=>bad) λ_=>T.cp (λ_=>k3 _) λ_=>T.cp (λ_=>k3 _) λ_=>T.cp (λ_=>k3 _) λ_=>T.cp (λ_=>k3 _) λ_=>(tFine _).bd λ_ _=>k3 _
def num4 (r:Rect) (i:Nat):Int:=[r.X.A,r.X.B,r.Y.A,r.Y.B].getD i 0
theorem rok4 {r:Rect} (h:∀i,i<4->-600<=num4 r i/\num4 r i<=600) (h1:¬r.X.A≥r.X.B) (h2:¬r.Y.A≥r.Y.B):rok r:=by
 have a0: -600<=r.X.A/\r.X.A<=600:=h 0 (by decide);have a1: -600<=r.X.B/\r.X.B<=600:=h 1 (by decide);have a2: -600<=r.Y.A/\r.Y.A<=600:=h 2 (by decide);have a3: -600<=r.Y.B/\r.Y.B<=600:=h 3 (by decide);unfold rok;omega
theorem tEChk (l:List qO) (d:List qH) (p:List qD) (r:Rect) (s:Saw) (t:Rates):T (λe=>e=0->kok s/\rok r) (qBc l d p r s t):=by
 unfold qBc;refine(qTJ l).bd λ_ _=>T.ne (λh=>T.er h) λ_=>T.bd (R:=tt) ⟨_,qE9 d,trivial⟩ λ_ _=>T.ne (λh=>T.er h) λ_=>(qQf p).bd λ_ _=>T.ne (λh=>T.er h) λ_=>(tWChk s t).bd λe he=>T.ne (λh=>T.er h) λh0=>T.cp (λ_=>T.er (e:=19) (by decide)) λh1=>?_;unfold OC
 refine T.cp (λ_=>T.er (by decide)) λh2=>T.end (T.lp (Q:=λu=>(∀e,u= .inl e->e≠0)/\∀o,u= .inr o->∀i,i<4->-600<=num4 r i/\num4 r i<=600) 4 (by decide) (λn (_:Unit) i=>JP r n i) (λx _=>∀i,i<x->-600<=num4 r i/\num4 r i<=600) (kw _) (λn x s hx hi ih=>?_) (s:=()) λi hi=>by omega) λ_ k=>T.rt λ_=>⟨he h0,rok4 k h1 h2⟩
 show T _ (JP r (n+1) x);rw[JP];refine T.cp (λh=>T.gi (by omega) (T.cp (λ_=>T.no (e:=9) (by decide)) λh3=>?_)) λh=>T.ok λi hi'=>hi i (by omega);unfold IS;refine T.cp (λ_=>T.no (by decide)) λh4=>ih () (by omega) λi hi'=>?_;by_cases hc:i=x
 ·subst hc;have h3:¬num4 r i< -600:=h3;have h4:¬num4 r i>600:=h4;omega
 ·exact hi i (by omega)
theorem tPart (r:Rect) (a b:Int):T tt (BC r a b):=T.rt trivial
theorem tELine (l:List qO) (d:List qH) (p:List qD) (r:Rect) (s:Saw) (t:Rates):T (λx=>x.2=0->kok s/\rok r/\∃z,UQ p (w64 (r.Y.B-r.Y.A))=some z/\qOH p (r.Y.B-r.Y.A) z/\x.1.Sizes=z.1/\x.1.Len=r.X.B-r.X.A) (CY l d p r s t):=by
 unfold CY;refine(tEChk l d p r s t).bd λe he=>T.ne (λh=>T.rt λq=>absurd q h) λh0=>(tSizes p _).be λz ez hz=>?_;obtain⟨hk,hr'⟩:=he h0;have hp:=hk.1;have hr:=hr';unfold rok at hr;rw[w64_o (n:=r.Y.B-r.Y.A) (by omega)] at hz;obtain⟨⟨z1,z3⟩,z2⟩:=hz;have hw:w64 (r.X.B-r.X.A)=r.X.B-r.X.A:=w64_o (by omega)
 refine(T.lp (Q:=tt) z.1.length (by omega) (λn s' i=>GV l d p r s t z n i s') (λx s'=>s'.length=x) (kw _) (λn x s' hx hi ih=>?_) rfl).bd λg _=>(qTA l).bd λm _=>(T.lp (Q:=tt) (r.X.B-r.X.A).toNat (by omega) (λn (s':List Int×List Int) i=>DZ l r t m n i s'.1 s'.2) (λx s'=>s'.1.length=x/\s'.2.length=x) (kw _) (λn x s' hx hi ih=>?_) (s:=(_,_)) ⟨rfl,rfl⟩).bd λ_ _=>T.rt λ_=>⟨hk,hr',z,ez,⟨z1,z3⟩,rfl,hw⟩
 ·show T tt (GV l d p r s t z (n+1) x s');rw[GV];refine T.cp (λh=>T.gi (by omega) ?_) λ_=>T.rt trivial;have hz:=z3 x (by omega);have hb:=hz.1;unfold b1k at hb;refine(T.ms (Q:=tt) (λn (u:List Int×Int)=>JC l d p r s t z x n u.1 u.2) (λu=>(0<=u.2/\u.2<=1300)/\(u.1.length:Int)=u.2) (λu=>(1300-u.2).toNat) (λn u hi ih=>?_) (s:=([],0)) ⟨by simp only;omega,rfl⟩ (by simp only;omega)).bd λ_ _=>T.gr (by omega) (ih _ (by omega) (by simp[hi]));show T tt (JC l d p r s t z x (n+1) u.1 u.2);obtain⟨hi,hl⟩:=hi;rw[JC,kg,hw,w64_o (n:=u.2+_) (by omega)]
  have k3:u.2+z.1.getD x du<=r.X.B-r.X.A->∀g,T tt (MI u.1 u.2 (λa b=>JC l d p r s t z x n a b) g):=λhle g=>by
   unfold MI;refine T.gr (by omega) ?_;rw[w64_o (by omega)];exact ih (_,_) ⟨by simp only;omega,by simp;omega⟩ (by simp only;omega)
  have hq:=hz.2.1;exact T.cp (λhle=>T.gn (by omega) (T.cd (λ_=>T.gi (by omega) (T.gi hq ((tPart _ _ _).bd λ_ _=>(tGain _ _ _ _ _ _).bd λ_ _=>k3 hle _))) λ_=>k3 hle _)) λ_=>T.rt trivial
 ·show T tt (DZ l r t m (n+1) x s'.1 s'.2);rw[DZ,hw];exact T.cp (λh=>(tPart _ _ _).bd λ_ _=>(qOO _ _ _).bd λ_ _=>T.gr (by omega) (T.gr (by omega) (ih (_,_) (by omega) ⟨by simp[hi.1],by simp[hi.2]⟩))) λ_=>T.rt trivial
theorem tIsF (r:Rect):T tt (ZM r):=by
 unfold ZM;refine(T.lp (Q:=tt) 2 (by decide) (λn (_:Unit) i=>zU r n i) (λ_ _=>True) (kw _) (λn x s hx _ ih=>?_) (s:=()) trivial).bd λu _=>T.el (λ_ _=>T.rt trivial) λ_ _=>T.rt trivial;show T tt (zU r (n+1) x);rw[zU];refine T.cp (λh=>T.gi (by omega) (T.cp (λ_=>T.rt (a:=(Sum.inl false:Bool⊕Unit)) trivial) λ_=>T.cp (λ_=>T.rt (a:=(Sum.inl false:Bool⊕Unit)) trivial) λ_=>?_)) λ_=>T.rt trivial;unfold QK;exact T.cp (λ_=>T.rt trivial) λ_=>ih () (by omega) trivial
def rowQ (p:List qD) (k:Int) (r:Rect) (z:List Node×Int):Prop:=z.1.length<=127/\(z.2=0->Tr p k r z.1)
structure rowI (p:List qD) (k:Int) (r:Rect) (x:Int) (y:Nat) (e:Int) (f:Bool) (m:List Node) (c:Int):Prop where
 cnt:0<=c/\c<=130*y
 len:m.length<=127/\(m.length:Int)<=c
 edge:(alg r x).A<=e/\e<=(alg r x).B
 opn:c<=127->f=false->∀rest,Tr p k (wth r x ⟨e,(alg r x).B⟩) rest->Tr p k r (m++rest)
 cls:c<=127->f=true->Tr p k r m
def rowU (p:List qD) (k:Int) (r:Rect) (x:Int) (N:Nat) (u:(List Node×Int)⊕(Bool×List Node×Int)):Prop:=(∀z,u= .inl z->rowQ p k r z)/\∀o,u= .inr o->∃e,rowI p k r x N e o.1 o.2.1 o.2.2
def sml (l:List (List Node)):Prop:=∀q∈l,q.length<=127
theorem sml.add {l:List (List Node)} (h:sml l) {q:List Node} (hq:q.length<=127):sml (l++[q]):=λz hz=>by
 rcases ud.1 hz with hz|hz
 ·exact h z hz
 ·rw[un.1 hz];exact hq
def spb (g:Span):Prop:=(-5000<=g.A/\g.A<=5000)/\-5000<=g.B/\g.B<=5000
def pcs (p:List qD) (k:Int) (r:Rect) (x:Int) (o:List Span×List (List Node)):Prop:=(∀i,i<o.1.length->spb (o.1.getD i du)/\Tr p k (wth r x (o.1.getD i du)) (o.2.getD i du))/\sml o.2
theorem pcs.nil {p:List qD} {k:Int} {r:Rect} {x:Int}:pcs p k r x ([],[]):=⟨λi hi=>by simp at hi,λq hq=>by simp at hq⟩
theorem pcs.add {p:List qD} {k:Int} {r:Rect} {x:Int} {a:List Span} {b:List (List Node)} (h:pcs p k r x (a,b)) (hl:a.length=b.length) {g:Span} {q:List Node} (hg:spb g) (hq:q.length<=127) (ht:Tr p k (wth r x g) q):pcs p k r x (a++[g],b++[q]):=by
 refine⟨λi hi=>?_,h.2.add hq⟩;simp only[kS,uo] at hi;simp only;rw[MK,MK,<-hl];by_cases hc:i<a.length
 ·rw[if_pos hc,if_pos hc];exact h.1 i hc
 ·rw[if_neg hc,if_neg hc,if_pos (by omega),if_pos (by omega)];exact⟨hg,ht⟩
theorem qTB (a:List Node) (c:Int) (l:List Node) (ha:a.length<=127) (hc:0<=c/\c<=1000000) (hl:l.length<=127/\(l.length:Int)<=c):T (λr=>r.1=c+a.length/\(r.2.length<=127/\(r.2.length:Int)<=r.1)/\(r.1<=127->r.2=l++a)) (QP a c l):=by
 unfold QP;rw[w64_o (n:=c+_) (by omega)];exact T.cp (λh=>T.gr (by omega) (T.rt ⟨rfl,⟨by simp;omega,by simp;omega⟩,λ_=>rfl⟩)) λh=>T.rt ⟨rfl,⟨hl.1,by simp only;omega⟩,λq=>absurd q h⟩
theorem tRow {p:List qD} {r:Rect} {x k:Int} {a:List Span} {b:List (List Node)} (hr:rok r) (hx:x=2\/x=3) (ha:a.length<=2002) (hp:pcs p k r x (a,b)):T (rowQ p k r) (WO r x k a b):=by
 have bad:∀e:Int,e≠0->T (rowQ p k r) (some ([],e)):=λe h=>T.rt ⟨by simp,λq=>absurd q h⟩;unfold WO;rw[qRA hx];refine(tIsF r).bd λ_ _=>T.cd (λ_=>bad 19 (by decide)) λ_=>?_;unfold SQ;refine T.ne (λ_=>bad _ (by decide)) λhl=>T.cp (λ_=>bad 9 (by decide)) λh1=>?_;unfold SW;refine T.cp (λ_=>bad _ (by decide)) λh2=>?_;rw[qOa];have hw:(-600<=(alg r x).A/\(alg r x).A<(alg r x).B)/\(alg r x).B<=600:=by unfold alg;unfold rok at hr;split<;>omega
 have wx:∀s s':Span,wth (wth r x s) x s'=wth r x s':=λs s'=>by unfold wth;split<;>rfl
 have ax:∀s:Span,alg (wth r x s) x=s:=λs=>by unfold alg wth;split<;>rfl
 refine T.bd (R:=rowU p k r x a.length) (T.lp (Q:=rowU p k r x a.length) a.length (by omega) (λn (s:Int×Bool×List Node×Int) i=>wT x k a b (alg r x) n s.1 s.2.1 i s.2.2.1 s.2.2.2) (λy s=>rowI p k r x y s.1 s.2.1 s.2.2.1 s.2.2.2) (kw _) (λn y s hy hi ih=>?_) (s:=(_,_,[],0)) ⟨by simp only;omega,by simp,⟨kX (alg r x).A,show(alg r x).A<=(alg r x).B by omega⟩,λ_ _ rest h=>by rw[wth_alg] at h;exact h,λ_ q=>by cases q⟩) λu hu=>T.el (λz hz=>T.rt (hu.1 z hz)) λo ho=>?_
 ·show T _ (wT x k a b (alg r x) (n+1) s.1 s.2.1 y s.2.2.1 s.2.2.2);have no:∀e:Int,e≠0->T (rowU p k r x a.length) (some (.inl ([],e))):=λe h=>T.rt ⟨λ_ q=>(by cases q;exact⟨by simp,λq=>absurd q h⟩),λ_ q=>(by cases q)⟩;rw[wT];refine T.cp (λh=>T.gi (by omega) ?_) λh=>T.rt ⟨λ_ q=>(by cases q),λ_ q=>(by cases q;obtain rfl:y=a.length:=(by omega);exact⟨_,hi⟩)⟩;rw[kg];have hyb:y<b.length:=by omega
  have hq:=hp.2 _ (wJ hyb);obtain⟨hss,hts⟩:=hp.1 y (by simp only;omega);unfold spb at hss;simp only at hss hts;obtain⟨i1,i2,i3,i4,i5⟩:=hi;generalize hg:a.getD y du=g at*;have k6:∀(e':Int) (f':Bool) (m:List Node) (c:Int),(0<=c/\c<=130*y+3)->(m.length<=127/\(m.length:Int)<=c)->((alg r x).A<=e'/\e'<=(alg r x).B)->(c<=127->f'=false->∀rest,Tr p k (wth r x ⟨e',(alg r x).B⟩) rest->Tr p k r ((m++b.getD y du)++rest))->(c<=127->f'=true->Tr p k r (m++b.getD y du))->T (rowU p k r x a.length) (DJ b y (wT x k a b (alg r x) n) e' f' m c):=λe' f' m c hc hm he ho hcl=>by
   unfold DJ;refine T.gi (by omega) ?_;rw[kg];refine(qTB _ _ _ hq ⟨hc.1,by omega⟩ hm).bd λv hv=>ih (_,_,_,_) (by omega) ⟨by show 0<=v.1/\v.1<=130*((y+1:Nat):Int);have:=hv.1;omega,hv.2.1,he,λh7 hf=>?_,λh7 hf=>?_⟩
   ·have h7:v.1<=127:=h7;show∀rest,_->Tr p k r (v.2++rest);rw[hv.2.2 h7];exact ho (by have:=hv.1;omega) hf
   ·have h7:v.1<=127:=h7;show Tr p k r v.2;rw[hv.2.2 h7];exact hcl (by have:=hv.1;omega) hf
  have k5:g.A<g.B->¬g.B>(alg r x).B->(alg r x).A<=g.A->s.2.1=false->∀(m:List Node) (c:Int),(0<=c/\c<=130*y+2)->(m.length<=127/\(m.length:Int)<=c)->(c<=127->∀rest,Tr p k (wth r x ⟨g.A,(alg r x).B⟩) rest->Tr p k r (m++rest))->T (rowU p k r x a.length) (GS x k a b (alg r x) s.1 s.2.1 y (wT x k a b (alg r x) n) m c):=λg1 g2 g3 hf m c hc hm hC=>by
   unfold GS;rw[kg,hg];have hmn:=qBA (g.B+k) (alg r x).B;refine T.cp (λh5=>(qTB _ _ _ (by simp) ⟨hc.1,by omega⟩ hm).bd λv hv=>k6 _ _ _ _ (by have:=hv.1;simp at this;omega) hv.2.1 (by rw[w64_o (by omega)];omega) (λh7 _ rest h=>?_) (λ_ q=>by rw[hf] at q;cases q)) λh5=>k6 _ _ _ _ (by omega) hm i3 (λ_ q=>by cases q) λh7 _=>?_
   ·rw[w64_o (by omega)] at h;have hl:=hv.1;simp only[uo] at hl;rw[hv.2.2 h7,show((m++[(⟨x,g.B⟩:Node)])++b.getD y du)++rest=m++(⟨x,g.B⟩::(b.getD y du++rest)) by simp];refine hC (by omega) _ (Tr.rip _ x g.B _ _ hx (by rw[ax];exact g1) (by rw[ax];exact h5) ?_ ?_)
    ·rw[ax,wx];exact hts
    ·rw[ax,wx];exact h
   ·refine hC h7 _ ?_;have e2:(⟨g.A,(alg r x).B⟩:Span)=g:=by
     have:g.B=(alg r x).B:=by omega
     rw[<-this]
    rw[e2];exact hts
  have k4:g.A<g.B->s.2.1=false->∀f:Bool,(f=false->g.A=s.1\/s.1+k+1<=g.A)->T (rowU p k r x a.length) (YS x k a b (alg r x) s.1 s.2.1 y s.2.2.1 s.2.2.2 (wT x k a b (alg r x) n) f):=λg1 hf f hff=>by
   unfold YS;rw[kg,hg];refine T.cd (λ_=>no _ (by decide)) λf0=>T.cp (λ_=>no _ (by decide)) λg2=>T.cp (λg4=>?_) λg4=>?_
   ·have hd:s.1+k+1<=g.A:=by have:=hff f0;omega
    have hmn:=qBA (g.A-k+k) (alg r x).B;rw[w64_o (n:=g.A-k) (by omega)];refine(qTB _ _ _ (by simp) ⟨i1.1,by omega⟩ i2).bd λv hv=>k5 g1 g2 (by omega) hf _ _ (by have:=hv.1;simp at this;omega) hv.2.1 λh7 rest h=>?_;have hl:=hv.1;simp only[uJ,gJ] at hl;rw[hv.2.2 h7,show(s.2.2.1++[(⟨x,g.A-k⟩:Node),⟨0,0⟩])++rest=s.2.2.1++(⟨x,g.A-k⟩::([⟨0,0⟩]++rest)) by simp];refine i4 (by omega) hf _ (Tr.rip _ x (g.A-k) _ _ hx (by rw[ax];simp only;omega) (by rw[ax];simp only;omega) (Tr.waste _) ?_);rw[ax,wx,show imin (g.A-k+k) (alg r x).B=g.A by omega];exact h
   ·have hd:g.A=s.1:=by have:=hff f0;omega
    exact k5 g1 g2 (by omega) hf _ _ (by omega) i2 λh7 rest h=>i4 h7 hf rest (by rw[<-hd];exact h)
  refine T.cp (λ_=>no _ (by decide)) λg1=>T.cd (λ_=>by
   unfold YS;exact no _ (by decide)) λhf=>T.ne (λ_=>?_) λh6=>k4 (by omega) hf _ λ_=> .inl h6
  rw[w64_o (n:=s.1+k) (by omega),w64_o (by omega)];exact k4 (by omega) hf _ λq=> .inr (by have:=of_decide_eq_false q;omega)
 ·obtain⟨e,i1,i2,i3,i4,i5⟩:=hu.2 o ho;have k7:∀(c:Int) (m:List Node),m.length<=127->(c<=127->Tr p k r m)->T (rowQ p k r) (SR c m):=λc m hm hc=>T.cp (λ_=>bad _ (by decide)) λh=>T.rt ⟨hm,λ_=>hc (by omega)⟩;refine T.cd (λhf=>(qTB _ _ _ (by simp) ⟨i1.1,by omega⟩ i2).bd λv hv=>k7 _ _ hv.2.1.1 λh7=>?_) λhf=>k7 _ _ i2.1 λh7=>i5 h7 (by simpa using hf);rw[hv.2.2 h7];have hl:=hv.1;simp only[uo] at hl;exact i4 (by omega) (by simpa using hf) _ (Tr.waste _)
theorem tEBest (l:List qO) (d:List qH) (p:List qD) (r:Rect) (s:Saw) (t:Rates):T (λz=>z.1.length<=127/\(z.2.2=0->Tr p s.Kerf r z.1)) (jC l d p r s t):=by
 unfold jC;refine(tELine l d p r s t).bd λx hx=>T.ne (λh=>T.rt ⟨by simp,λq=>absurd q h⟩) λh0=>(tCut x.1).bd λc hc=>T.ne (λh=>T.rt ⟨by simp,λq=>absurd q h⟩) λh1=>?_;obtain⟨hk,hr,z,ez,hz,z2,xl⟩:=hx h0;obtain⟨v,c1,c2⟩:=hc h1;obtain⟨z1,z3⟩:=hz;have v2:=v.szl;have hr':=hr;unfold rok at hr';rw[ez]
 refine(T.lp (Q:=λo:List Span×List (List Node)=>o.1.length<=2002/\pcs p s.Kerf r 2 o) c.1.length (by omega) (λn (u:List Span×List (List Node)) i=>RU r c z n u.1 u.2 i) (λy u=>(u.1.length=y/\u.2.length=y)/\pcs p s.Kerf r 2 u) (kw _) (λn y u hy hi ih=>?_) (s:=(_,_)) ⟨⟨rfl,rfl⟩,.nil⟩).bd λo ho=>(tRow hr (.inl rfl) ho.1 ho.2).bd λw hw=>T.ne (λh=>T.rt ⟨by simp,λq=>absurd q h⟩) λq0=>T.rt ⟨hw.1,λ_=>hw.2 q0⟩;show T _ (RU r c z (n+1) u.1 u.2 y);obtain⟨⟨i1,i2⟩,i5⟩:=hi;rw[RU];refine T.cp (λh=>T.gi (by omega) ?_) λ_=>T.rt ⟨by simp only;omega,i5⟩
 have hp:=c2 _ (wJ (show y<c.1.length by omega));rw[kg];obtain⟨e1,e2,e3,e4,_⟩:=hp;rw[z2] at e2 e4;generalize c.1.getD y du=g at*;obtain⟨f1,f2,gr,f3,f4⟩:=z3 g.Size.toNat (by omega);unfold b1k at f1;generalize hW:z.1.getD g.Size.toNat du=W at*;have ep:BC r g.At (w64 (g.At+W))=some ⟨⟨r.X.A+g.At,r.X.A+(g.At+W)⟩,r.Y⟩:=by
  unfold BC;rw[w64_o (n:=g.At+W) (by omega),w64_o (n:=r.X.A+g.At) (by omega),w64_o (by omega)]
 refine T.gi (by omega) ?_;rw[ep];refine T.gr (by omega) (T.gi (by omega) ?_);unfold LU VO;rw[yC (by simp),yC (by omega)];refine ih (_,_) (by omega) ⟨⟨by simp[i1],by simp[i2]⟩,pcs.add i5 (by omega) (by unfold spb;simp only;omega) (by simp) (Tr.board _ _ ⟨f2,gr,f3,?_,?_,?_⟩)⟩
 ·show(r.X.A+(g.At+W)-(r.X.A+g.At)=gr.1/\r.Y.B-r.Y.A=gr.2)\/(r.X.A+(g.At+W)-(r.X.A+g.At)=gr.2/\r.Y.B-r.Y.A=gr.1);omega
 ·show r.X.A+g.At<r.X.A+(g.At+W);omega
 ·show r.Y.A<r.Y.B;omega
def hok (l:List Int):Prop:=l.length<=32/\∀h∈l,b1k h
theorem hok.take {l:List Int} (h:hok l) (n:Nat):hok (l.take n):=⟨by rw[uc];have:=h.1;omega,λx hx=>h.2 x (List.mem_of_mem_take hx)⟩
theorem qZ6 (l:List Int) (hl:hok l):T (λr=>hok r.2) (YD l):=by
 have h32:=hl.1;unfold YD;refine T.cp (λ_=>T.rt hl) λh2=>(T.lp (Q:=λu:(List Int×List Int)⊕List Int=>(∀r,u= .inl r->hok r.2)/\∀o,u= .inr o->hok o) l.length (by omega) (λn s i=>yW n s i) (λx s=>1<=x/\s=l) (show 1<=l.length by omega) (λn x s hx hi ih=>?_) ⟨ke _,rfl⟩).bd λu hu=>T.el (λr hr=>T.rt (hu.1 r hr)) λo ho=>T.rt (hu.2 o ho);obtain⟨h1,rfl⟩:=hi;show T _ (yW (n+1) s x);rw[yW]
 refine T.cp (λh=>T.gi (by omega) (T.gi (by rw[w64_o (by omega)];omega) (T.cd (λ_=>T.gs (by omega) ?_) λ_=>ih _ (by omega) ⟨by omega,rfl⟩))) λ_=>T.rt ⟨λ_ q=>(by cases q),λ_ q=>(by cases q;exact hl)⟩
 refine(T.lp (Q:=λo:List Int×Int=>hok o.1/\0<=o.2/\o.2<=o.1.length) (s.length-x) (by omega) (λn (t:List Int×Int) i=>jB s x n t.1 t.2 i) (λy t=>1<=y/\t.1.length=s.length/\(∀h∈t.1,b1k h)/\(x:Int)<=t.2/\t.2+1<=x+y) (show 1<=s.length-x by omega) (λm y t hy hi ih2=>?_) (s:=(_,_)) ⟨ke _,rfl,hl.2,kX _,by show(x:Int)+1<=x+((1:Nat):Int);omega⟩).bd λo ho=>T.gs ⟨ho.2.1,ho.2.2,kX _⟩ (T.gs ⟨kX _,ho.2.1,ho.2.2⟩ (T.rt ⟨λ_ q=>(by cases q;exact ho.1.take _),λ_ q=>(by cases q)⟩));show T _ (jB s x (m+1) t.1 t.2 y);obtain⟨i0,i1,i2,i3,i4⟩:=hi;rw[jB,kg]
 refine T.cp (λh=>T.gi (by omega) (T.gb (by omega) (T.gi (by rw[w64_o (by omega)];omega) (T.cd (λ_=>T.gi (by omega) ?_) λ_=>ih2 (_,_) (by omega) ⟨by omega,i1,i2,i3,by omega⟩)))) λ_=>T.rt ⟨⟨by simp only;omega,i2⟩,by simp only;omega,by simp only;omega⟩;have hw:w64 (t.2+1)=t.2+1:=w64_o (by omega);refine ih2 (_,_) (by omega) ⟨by omega,by simp[i1],λz hz=>?_,by show(x:Int)<=w64 (t.2+1);rw[hw];omega,by show w64 (t.2+1)+1<=(x:Int)+((y+1:Nat):Int);rw[hw];omega⟩;rcases List.mem_or_eq_of_mem_set hz with hz|rfl
 ·exact i2 z hz
 ·exact i2 _ (wJ (by rw[kg];omega))
theorem tHts (p:List qD):T hok (DM p):=by
 unfold DM;refine(qQf p).bd λe he=>T.ne (λ_=>T.rt ⟨by simp,by simp⟩) λh0=>?_;obtain⟨h16,hp⟩:=he h0;refine(T.lp (Q:=hok) p.length (by omega) (λn s i=>KK p n s i) (λx s=>s.length=2*x/\∀h∈s,b1k h) (kw _) (λn x s hx hi ih=>?_) (s:=[]) ⟨rfl,by simp⟩).bd λo ho=>?_
 ·show T _ (KK p (n+1) s x);rw[KK];refine T.cp (λh=>T.gi (by omega) ((qOS _).bd λg hg=>T.gr (by omega) (ih _ (by omega) ⟨by simp[hi.1];omega,λz hz=>?_⟩))) λ_=>T.rt ⟨by omega,hi.2⟩;have hg:=hg (hp x (by omega));rcases ud.1 hz with hz|hz
  ·exact hi.2 z hz
  ·simp only[kW,List.not_mem_nil,or_false] at hz;rcases hz with rfl|rfl
   ·exact hg.1
   ·exact hg.2
 ·have o1:=ho.1;unfold NI;rw[show Nat.blt o.length 4611686018427387904=true by rw[kV];omega];have pm:=UK (λx y:Int=>decide (x<=y)) o;simp only[kp,kd];rw[show((WY (λx y:Int=>decide (x<=y)) o).length==o.length)=true by rw[pm.length_eq];simp];exact(qZ6 _ ⟨by rw[pm.length_eq];exact o1,λh hh=>ho.2 h (pm.mem_iff.1 hh)⟩).bd λr hr=>T.rt hr
theorem tPChk (l:List qO) (d:List qH) (p:List qD) (r:Rect) (s:Saw) (t:Rates):T (λe=>e=0->kok s/\rok r) (UH l d p r s t):=by
 unfold UH;refine(qTJ l).bd λ_ _=>T.ne (λh=>T.er h) λ_=>T.bd (R:=tt) ⟨_,qE9 d,trivial⟩ λ_ _=>T.ne (λh=>T.er h) λ_=>(qQf p).bd λ_ _=>T.ne (λh=>T.er h) λ_=>(tWChk s t).bd λe he=>T.ne (λh=>T.er h) λh0=>T.bd (R:=λe=>e=0->rok r) ?_ λf hf=>T.rt λq=>⟨he h0,hf q⟩
 unfold LX;refine T.cp (λ_=>T.er (e:=19) (by decide)) λh1=>?_;unfold VG;refine T.cp (λ_=>T.er (by decide)) λh2=>T.end (T.lp (Q:=λu=>(∀e,u= .inl e->e≠0)/\∀o,u= .inr o->∀i,i<4->-600<=num4 r i/\num4 r i<=600) 4 (by decide) (λn (_:Unit) i=>yB r n i) (λx _=>∀i,i<x->-600<=num4 r i/\num4 r i<=600) (kw _) (λn x s hx hi ih=>?_) (s:=()) λi hi=>by omega) λ_ k=>T.rt λ_=>rok4 k h1 h2;show T _ (yB r (n+1) x);rw[yB];refine T.cp (λh=>T.gi (by omega) (T.cp (λ_=>T.no (e:=9) (by decide)) λh3=>?_)) λh=>T.ok λi hi'=>hi i (by omega);unfold VE
 refine T.cp (λ_=>T.no (by decide)) λh4=>ih () (by omega) λi hi'=>?_;by_cases hc:i=x
 ·subst hc;have h3:¬num4 r i< -600:=h3;have h4:¬num4 r i>600:=h4;omega
 ·exact hi i (by omega)
theorem tHas (l:List Node) (hl:l.length<=127):T tt (TR l):=by
 unfold TR WJ XC;refine(((T.lp (Q:=tt) l.length (by omega) (λn (_:Unit) i=>jL l n i) (λ_ _=>True) (kw _) (λn x s hx _ ih=>?_) (s:=()) trivial).bd λu _=>T.el (λ_ _=>T.rt trivial) λ_ _=>T.rt trivial:T tt _).bd λ_ _=>T.rt trivial:T tt _).bd λ_ _=>T.rt trivial;show T tt (jL l (n+1) x);rw[jL];exact T.cp (λh=>T.gi (by omega) ((T.rt trivial:T tt (some _)).bd λ_ _=>T.cd (λ_=>T.rt trivial) λ_=>ih () (by omega) trivial)) λ_=>T.rt trivial
def stp (r:Rect) (j h:Int):Rect:=wth r 3 ⟨r.Y.A+j,r.Y.A+(j+h)⟩
def rowH (p:List qD) (k:Int) (r:Rect) (h:Int) (g:List Int) (b:List (List Node)):Prop:=g.length=b.length/\sml b/\∀j,j<b.length->0<=g.getD j du->Tr p k (stp r j h) (b.getD j du)
def rows2 (p:List qD) (k:Int) (r:Rect) (z:List Int) (g:List (List Int)) (b:List (List (List Node))):Prop:=g.length=b.length/\∀i,i<b.length->rowH p k r (z.getD i du) (g.getD i du) (b.getD i du)
theorem qUB {r:Rect} (hr:rok r) {a h:Int} (h1:0<=a) (h2:a<=3000) (h3:0<=h) (h4:h<=3000):PH r a (a+h)=some (stp r a h):=by
 unfold rok at hr;unfold PH stp wth;rw[if_neg (by decide),w64_o (by omega),w64_o (by omega)]
theorem tPLine {l:List qO} {d:List qH} {p:List qD} {r:Rect} {s:Saw} {t:Rates} (hp:1<=s.Pitch) (hr:rok r):T (λx=>hok x.1.Sizes/\rows2 p s.Kerf r x.1.Sizes x.1.Gain x.2/\x.1.Len=r.Y.B-r.Y.A) (PQ l d p r s t):=by
 unfold PQ;have hr':=hr;unfold rok at hr';have hw:w64 (r.Y.B-r.Y.A)=r.Y.B-r.Y.A:=w64_o (by omega)
 refine(tHts p).bd λz hz=>(T.lp (Q:=λo:List (List (List Node))×List (List Int)=>rows2 p s.Kerf r z o.2 o.1) z.length (by have:=hz.1;omega) (λn (u:List (List (List Node))×List (List Int)) i=>yO l d p r s t z n u.1 i u.2) (λx u=>u.1.length=x/\rows2 p s.Kerf r z u.2 u.1) (kw _) (λn x u hx hi ih=>?_) (s:=(_,_)) ⟨rfl,rfl,λi hi=>by simp at hi⟩).bd λo ho=>(T.lp (Q:=tt) (r.Y.B-r.Y.A).toNat (by omega) (λn (u:List Int×List Int) i=>RO l r t n i u.1 u.2) (λx u=>u.1.length=x/\u.2.length=x) (kw _) (λn x u hx hi ih=>?_) (s:=(_,_)) ⟨rfl,rfl⟩).bd λ_ _=>T.rt ⟨hz,ho,hw⟩
 ·show T _ (yO l d p r s t z (n+1) u.1 x u.2);obtain⟨i1,i2,i3⟩:=hi;have h32:=hz.1;rw[yO];refine T.cp (λh=>T.gi (by omega) ?_) λ_=>T.rt ⟨i2,i3⟩;have hb:=hz.2 _ (wJ (show x<z.length by omega));unfold b1k at hb
  refine(T.ms (Q:=λo:List Int×List (List Node)=>rowH p s.Kerf r (z.getD x du) o.1 o.2) (λn (u:List Int×List (List Node)×Int)=>zS l d p r s t z x n u.1 u.2.1 u.2.2) (λu=>(0<=u.2.2/\u.2.2<=1300)/\(u.2.1.length:Int)=u.2.2/\rowH p s.Kerf r (z.getD x du) u.1 u.2.1) (λu=>(1300-u.2.2).toNat) (λn u hi ih=>?_) (s:=(_,_,_)) ⟨by simp only;omega,rfl,rfl,λq hq=>by simp at hq,λj hj=>by simp at hj⟩ (by simp only;omega)).bd λo ho=>T.gr (by omega) (T.gr (by omega) (ih (_,_) (by omega) ⟨by simp[i1],by simp[i2],λi hi'=>?_⟩))
  ·show T _ (zS l d p r s t z x (n+1) u.1 u.2.1 u.2.2);obtain⟨hi,hl,h1,hs,hT⟩:=hi;rw[zS,kg,hw,w64_o (n:=u.2.2+_) (by omega)];have k4:u.2.2+z.getD x du<=r.Y.B-r.Y.A->∀g b,b.length<=127->(0<=g->Tr p s.Kerf (stp r u.2.2 (z.getD x du)) b)->T (λo:List Int×List (List Node)=>rowH p s.Kerf r (z.getD x du) o.1 o.2) (XN u.1 u.2.1 u.2.2 (zS l d p r s t z x n) g b):=λhle g b hb hg=>by
    unfold XN;refine T.gr (by omega) (T.gr (by omega) ?_);rw[w64_o (by omega)];refine ih (_,_,_) ⟨by simp only;omega,by simp;omega,by simp[h1],hs.add hb,λj hj=>?_⟩ (by simp only;omega);simp only[kS,uo] at hj;rw[MK,MK,h1];by_cases hc:j<u.2.1.length
    ·rw[if_pos hc,if_pos hc];exact hT j hc
    ·obtain rfl:j=u.2.1.length:=by omega
     rw[if_neg hc,if_neg hc,if_pos rfl,if_pos rfl,hl];exact hg
   have no:∀hle,T _ _:=λhle=>k4 hle (-1) [] (by simp) (λq=>absurd q (by decide));refine T.cp (λhle=>T.gn (by omega) (T.cd (λ_=>?_) λ_=>no hle)) λ_=>T.rt ⟨h1,hs,hT⟩;rw[qUB hr (by omega) (by omega) (by omega) (by omega)];refine(tEBest _ _ _ _ _ _).bd λv hv=>T.eq (λq=>(tHas _ hv.1).bd λ_ _=>?_) λ_=>?_
   ·unfold MM;exact T.cd (λ_=>k4 hle _ _ hv.1 λ_=>hv.2 q) λ_=>no hle
   ·exact no hle
  ·simp only[kS,uo] at hi';rw[MK,MK,i2];by_cases hc:i<u.1.length
   ·rw[if_pos hc,if_pos hc];exact i3 i hc
   ·obtain rfl:i=u.1.length:=by omega
    rw[if_neg hc,if_neg hc,if_pos rfl,if_pos rfl,i1];exact ho
 ·show T tt (RO l r t (n+1) x u.1 u.2);rw[RO,hw];exact T.cp (λh=>(T.rt trivial:T tt (PH _ _ _)).bd λ_ _=>(tVolP _ _).bd λ_ _=>T.gr (by omega) (T.gr (by omega) (ih (_,_) (by omega) ⟨by simp[hi.1],by simp[hi.2]⟩))) λ_=>T.rt trivial
theorem tPlan (l:List qO) (d:List qH) (p:List qD) (r:Rect) (s:Saw) (t:Rates):T (λz=>z.1.Nodes.length<=127/\(z.2.2=0->QW z.1 p s.Kerf=some 0)) (JL l d p r s t):=by
 unfold JL;refine(tPChk l d p r s t).bd λe he=>T.ne (λh=>T.rt ⟨by simp,λq=>absurd q h⟩) λh0=>?_;obtain⟨hk,hr⟩:=he h0;have hr':=hr;unfold rok at hr';refine(tPLine hk.1 hr).bd λx hx=>(tCut x.1).bd λc hc=>T.ne (λh=>T.rt ⟨by simp,λq=>absurd q h⟩) λh1=>?_;obtain⟨v,c1,c2⟩:=hc h1;have v2:=v.szl;have v3:=v.gl;obtain⟨hz,⟨x1,x2⟩,xl⟩:=hx
 refine(T.lp (Q:=λo:List Span×List (List Node)=>o.1.length<=2002/\pcs p s.Kerf r 3 o) c.1.length (by omega) (λn (u:List Span×List (List Node)) i=>JA r x c n u.1 u.2 i) (λy u=>(u.1.length=y/\u.2.length=y)/\pcs p s.Kerf r 3 u) (kw _) (λn y u hy hi ih=>?_) (s:=(_,_)) ⟨⟨rfl,rfl⟩,.nil⟩).bd λo ho=>(tRow hr (.inr rfl) ho.1 ho.2).bd λw hw=>T.ne (λ_=>T.rt ⟨by simp,λq=>absurd q (by decide)⟩) λq0=>(tSolVol l).bd λ_ _=>(tVolP _ _).bd λ_ _=>T.rt ⟨hw.1,λ_=>(hw.2 q0).check hk.2 hw.1 hr⟩;show T _ (JA r x c (n+1) u.1 u.2 y);obtain⟨⟨i1,i2⟩,i5⟩:=hi;rw[JA]
 refine T.cp (λh=>T.gi (by omega) ?_) λ_=>T.rt ⟨by simp only;omega,i5⟩;have hp:=c2 _ (wJ (show y<c.1.length by omega));rw[kg];obtain⟨e1,e2,e3,e4,e5⟩:=hp;generalize c.1.getD y du=g at*;have hg:=v.gr g.Size.toNat (by omega);have hb:=hz.2 _ (wJ (show g.Size.toNat<x.1.Sizes.length by omega));unfold b1k at hb;have hm:=qHZ 0 (x.1.Len-x.1.Sizes.getD g.Size.toNat du+1);obtain⟨y1,y2,y3⟩:=x2 g.Size.toNat (by omega);refine T.gi (by omega) ?_;rw[w64_o (n:=g.At+_) (by omega),qUB hr (by omega) (by omega) (by omega) (by omega)];refine T.gr (by omega) (T.gi (by omega) (T.gi (by omega) ?_))
 have hn:=y3 g.At.toNat (by omega) e5;rw[show(g.At.toNat:Int)=g.At by omega] at hn;unfold LQ;rw[yC (by omega)];exact ih (_,_) (by omega) ⟨⟨by simp[i1],by simp[i2]⟩,pcs.add i5 (by omega) (by unfold spb;show(-5000<=r.Y.A+g.At/\r.Y.A+g.At<=5000)/\-5000<=r.Y.A+(g.At+x.1.Sizes.getD g.Size.toNat du)/\r.Y.A+(g.At+x.1.Sizes.getD g.Size.toNat du)<=5000;omega) (y2 _ (wJ (by omega))) hn⟩
def qJg (P:Option (List qO×List qH×Int)) (c:List qD) (s:Saw) (r:Rates):Option (Int⊕(Pattern×Int)):=
 P.bind λv=>bif v.2.2 !=0 then some (.inl v.2.2) else(PK v.1).bind λf=>(JL v.1 v.2.1 c f s r).bind λw=>bif w.2.2 !=0 then some (.inl w.2.2) else some (.inr (w.1,w.2.1))
def qBk (c:List qD) (s:Saw) (o:Int⊕(Pattern×Int)):Prop:=(∀e,o= .inl e->e≠0)/\∀p,o= .inr p->p.1.Nodes.length<=127/\QW p.1 c s.Kerf=some 0
theorem qTC (v:List qO×List qH×Int) (c:List qD) (s:Saw) (r:Rates):T (qBk c s) (qJg (some v) c s r):=by
 show T (qBk c s) (bif v.2.2 !=0 then _ else _);have no:∀{e:Int},e≠0->T (qBk c s) (some (.inl e)):=λh=>T.rt ⟨λ_ q=>(by cases q;exact h),λ_ q=>(by cases q)⟩;exact T.ne (λh=>no h) λ_=>(tFrame _).bd λf _=>(tPlan _ _ _ _ _ _).bd λw hw=>T.ne (λh=>no h) λh0=>T.rt ⟨λ_ q=>(by cases q),λ_ q=>(by cases q;exact⟨hw.1,hw.2 h0⟩)⟩
def qEy (o0 o1 o2 o3:Int⊕(Pattern×Int)):List qI×Int:=match o0 with
 | .inl e=>([],e)
 | .inr p0=>match o1 with
  | .inl e=>([],e)
  | .inr p1=>match o2 with
   | .inl e=>([],e)
   | .inr p2=>match o3 with
    | .inl e=>([],e)
    | .inr p3=>([⟨0,p0.1,p0.2⟩,⟨1,p1.1,p1.2⟩,⟨2,p2.1,p2.2⟩,⟨3,p3.1,p3.2⟩],0)
theorem qIW {x:Scan} {c:List qD} {s:Saw} {r:Rates} {l m k k':Int} {o:Int⊕(Pattern×Int)} (h0:decide (k<4)=true) (hk:w64 (k+1)=k') (h:qJg (wU x k l m) c s r=some o) (n:Nat) (out:List qI) (hr:room (out.length+1) 72=true):jW x c s r l m (n+1) out k=Sum.elim (λe=>some (.inl ([],e))) (λp=>jW x c s r l m n (out++[⟨k,p.1,p.2⟩]) k') o:=by
 rw[jW,h0];unfold qJg at h;cases hp:wU x k l m with
 |none=>rw[hp] at h;cases h
 |some v=>
  rw[hp] at h;simp only[kd,kp] at h⊢;cases hv:v.2.2 !=0 with
  |true=>rw[hv] at h;cases h;rfl
  |false=>
   rw[hv] at h;simp only[kv] at h⊢;cases hf:PK v.1 with
   |none=>rw[hf] at h;cases h
   |some f=>
    rw[hf] at h;simp only[kd] at h⊢;cases hb:JL v.1 v.2.1 c f s r with
    |none=>rw[hb] at h;cases h
    |some w=>
     rw[hb] at h;simp only[kd] at h⊢;cases hw:w.2.2 !=0 with
     |true=>rw[hw] at h;cases h;rfl
     |false=>
      rw[hw] at h;cases h;simp only[kv,hr,kp,hk,Sum.elim_inr]
theorem All_end {x:Scan} {c:List qD} {s:Saw} {r:Rates} {l m:Int} (n:Nat) (out:List qI):jW x c s r l m (n+1) out 4=some (.inr out):=by
 rw[jW,show decide ((4:Int)<4)=false from rfl];rfl
theorem All_eq {x:Scan} {c:List qD} {s:Saw} {r:Rates} {l m:Int} {o0 o1 o2 o3:Int⊕(Pattern×Int)} (h0:qJg (wU x 0 l m) c s r=some o0) (h1:qJg (wU x 1 l m) c s r=some o1) (h2:qJg (wU x 2 l m) c s r=some o2) (h3:qJg (wU x 3 l m) c s r=some o3):WA x c s r l m=some (qEy o0 o1 o2 o3):=by
 unfold WA;have hf:FUEL=9223372036854775803+1+1+1+1+1:=FUEL_eq;generalize 9223372036854775803=n at hf;rw[hf,qIW (k':=1) rfl rfl h0 _ [] rfl];cases o0 with
 |inl e=>rfl
 |inr p0=>
  simp only[Sum.elim_inr];rw[qIW (k:=1) (k':=2) rfl rfl h1 _ _ rfl];cases o1 with
  |inl e=>rfl
  |inr p1=>
   simp only[Sum.elim_inr];rw[qIW (k:=2) (k':=3) rfl rfl h2 _ _ rfl];cases o2 with
   |inl e=>rfl
   |inr p2=>
    simp only[Sum.elim_inr];rw[qIW (k:=3) (k':=4) rfl rfl h3 _ _ rfl];cases o3 with
    |inl e=>rfl
    |inr p3=>
     simp only[Sum.elim_inr];rw[All_end];rfl
def qT9 (l:List qI) (n:Nat) (t:qI):Prop:=∃i,i<n/\t=l.getD i du/\(∀j,j<n->(l.getD j du).Value<=t.Value)/\∀j,j<i->(l.getD j du).Value<t.Value
theorem Best_T {x:Scan} {c:List qD} {s:Saw} {r:Rates} {l m:Int} {A:List qI×Int} (h:WA x c s r l m=some A) (hA:A.2=0->A.1.length=4):T (λb=>b.2=A.2/\(A.2=0->qT9 A.1 4 b.1)/\(A.2≠0->b.1=⟨0,⟨⟨⟨0,0⟩,⟨0,0⟩⟩,[]⟩,0⟩)) (ZT x c s r l m):=by
 unfold ZT;rw[h];refine T.ne (λh=>T.rt ⟨rfl,λq=>absurd q h,λ_=>rfl⟩) λh0=>?_;have h4:=hA h0;refine T.gi (by omega) (T.gs (by omega) ((T.lp (Q:=λo:Int×Int×Int×Int×Int×List Node×Int=>∃t,qT9 A.1 4 t/\o=(t.Quarters,t.Pattern.Frame.X.A,t.Pattern.Frame.X.B,t.Pattern.Frame.Y.A,t.Pattern.Frame.Y.B,t.Pattern.Nodes,t.Value)) 3 (by decide) (λn t i=>JO A n i t) (λx t=>qT9 A.1 (x+1) t) (kw _) (λn x t hx hi ih=>?_) (s:=A.1.getD 0 du) ⟨0,by decide,rfl,λj hj=>?_,λj hj=>by omega⟩).bd λo ⟨t,ht,e⟩=>T.rt ⟨h0.symm,λ_=>by rw[e];exact ht,λq=>absurd h0 q⟩))
 rotate_left
 ·obtain rfl:j=0:=by omega
  exact kX _
 show T _ (JO A (n+1) x t);rw[JO];refine T.cp (λh=>T.gi ⟨by omega,h⟩ (T.gb (by rw[show(1:Int).toNat=1 from rfl];omega) ?_)) λh=>T.rt ⟨t,?_,rfl⟩
 ·rw[show(1:Int).toNat=1 from rfl,h4] at h;have hx3:x<3:=by omega
  rw[kg,show(1:Int).toNat+x=x+1 by rw[show(1:Int).toNat=1 from rfl];omega];obtain⟨i,h1,h2,h3,h5⟩:=hi;refine T.cp (λhg=>ih (A.1.getD (x+1) du) hx3 ⟨x+1,by omega,rfl,λj hj=>?_,λj hj=>?_⟩) λhg=>ih t hx3 ⟨i,by omega,h2,λj hj=>?_,h5⟩
  ·by_cases hc:j=x+1
   ·subst hc;exact kX _
   ·have:=h3 j (by omega);omega
  ·have:=h3 j (by omega);omega
  ·by_cases hc:j=x+1
   ·subst hc;omega
   ·exact h3 j (by omega)
 ·rw[show(1:Int).toNat=1 from rfl,h4] at h;obtain rfl:x=3:=by omega
  exact hi
theorem qMW (c:qI) (h:c.Pattern.Nodes.length<=127):ED c ⟨c.Quarters,c.Pattern,c.Value⟩=some true:=by
 have L:KU c.Pattern c.Pattern FUEL 0=some (findN (λ_=>(none:Option Bool)) 0 c.Pattern.Nodes.length):=by
  refine qQV c.Pattern.Nodes.length (KU c.Pattern c.Pattern) _ 0 (by omega) (by omega) (λn i _ hi=>?_) (λn=>?_)
  ·rw[KU,ki (by omega),zR (by omega)];simp only[kp,kv,gC,Bool.and_self,ue,wH (show i<4611686018427387904 by omega)]
  ·rw[KU,kf (by omega)];rfl
 rw[qID.2 (λ_ _ _=>rfl)] at L;unfold ED qEC qEw;simp only[gC,kp,Bool.and_self,ue,kv,kQ,OG,L,kd,Sum.elim_inr,FG]
theorem qIy (a b c:Int):T tt (WT a b c):=by
 unfold WT;exact T.cp (λ_=>T.rt trivial) λ_=>T.rt (a:=false) trivial
theorem tRChk (s:Saw) (r:Rates):T tt (AU s r):=by
 have k2:∀b,T tt (GF b):=λb=>T.cd (λ_=>T.rt trivial) λ_=>T.rt trivial;have k1:∀b,T tt (PV r b):=λb=>T.cd (λ_=>T.rt trivial) λ_=>(qIy _ _ _).bd λ_ _=>T.cd (λ_=>k2 _) λ_=>(qIy _ _ _).bd λ_ _=>T.cd (λ_=>k2 _) λ_=>(qIy _ _ _).bd λ_ _=>k2 _;unfold AU;exact(qIy _ _ _).bd λ_ _=>T.cd (λ_=>k1 _) λ_=>(qIy _ _ _).bd λ_ _=>T.cd (λ_=>k1 _) λ_=>(qIy _ _ _).bd λ_ _=>T.cd (λ_=>k1 _) λ_=>(qIy _ _ _).bd λ_ _=>k1 _
theorem tLight (a:wF) (m:zH):T (λb=>b=true->qFn a.Scan) (FY a m):=by
 have nf:T (λb:Bool=>b=true->qFn a.Scan) (some false):=T.rt λq=>by cases q
 unfold FY;refine T.cp (λ_=>nf) λh1=>T.cp (λ_=>nf) λh2=>?_;unfold GB;have no:∀{K:Prop},T (λu:Bool⊕Unit=>(∀b,u= .inl b->b=false)/\∀o,u= .inr o->K) (some (.inl false)):=T.rt ⟨λ_ q=>(by cases q;rfl),λ_ q=>(by cases q)⟩;have ok:∀{K:Prop},K->T (λu:Bool⊕Unit=>(∀b,u= .inl b->b=false)/\∀o,u= .inr o->K) (some (.inr ())):=λh=>T.rt ⟨λ_ q=>(by cases q),λ_ _=>h⟩
 refine T.cp (λ_=>nf) λh3=>(T.lp (Q:=λu:Bool⊕Unit=>(∀b,u= .inl b->b=false)/\∀o,u= .inr o->∀i,i<a.Scan.Rings.length->(a.Scan.Rings.getD i du).Read.length<=40) a.Scan.Rings.length (by omega) (λn (_:Unit) i=>WG a n i) (λx _=>∀i,i<x->(a.Scan.Rings.getD i du).Read.length<=40) (kw _) (λn x s hx hi ih=>?_) (s:=()) λi hi=>by omega).bd λu hu=>T.el (λb hb=>T.rt λq=>by rw[hu.1 b hb] at q;cases q) λo ho=>(T.lp (Q:=λu:Bool⊕Unit=>(∀b,u= .inl b->b=false)/\∀o,u= .inr o->True) m.Products.length (by omega) (λn (_:Unit) i=>ZE m n i) (λ_ _=>True) (kw _) (λn x s hx _ ih=>?_) (s:=()) trivial).bd λw hw=>T.el (λb hb=>T.rt λq=>by rw[hw.1 b hb] at q;cases q) λ_ _=>?_
 ·show T _ (WG a (n+1) x);rw[WG];refine T.cp (λh=>T.gi (by omega) (T.cp (λ_=>no) λh4=>?_)) λh=>ok λi hi'=>hi i (by omega);rw[kg] at h4;unfold SS;refine T.cp (λ_=>no) λ_=>(T.lp (Q:=λu:Bool⊕Unit=>(∀b,u= .inl b->b=false)/\∀o,u= .inr o->True) (a.Scan.Rings.getD x du).Read.length (by omega) (λn (_:Unit) i=>yV a x n i) (λ_ _=>True) (kw _) (λm y s hy _ ih2=>?_) (s:=()) trivial).bd λu hu=>T.el (λb hb=>by rw[hu.1 b hb];exact no) λ_ _=>ih () (by omega) λi hi'=>?_
  ·show T _ (yV a x (m+1) y);rw[yV,kg];refine T.gi (by omega) (T.cp (λh=>T.gi (by omega) (T.cp (λ_=>no) λ_=>T.cp (λ_=>no) λ_=>T.cp (λ_=>no) λ_=>?_)) λ_=>ok trivial);exact T.cp (λ_=>no) λ_=>ih2 () (by omega) trivial
  ·by_cases hc:i=x
   ·subst hc;omega
   ·exact hi i (by omega)
 ·show T _ (ZE m (n+1) x);rw[ZE];refine T.cp (λh=>T.gi (by omega) (T.cp (λ_=>no) λ_=>T.cp (λ_=>no) λ_=>?_)) λ_=>ok trivial;exact T.cp (λ_=>no) λ_=>ih () (by omega) trivial
 ·have fin:∀b:Bool,T (λb=>b=true->qFn a.Scan) (some b):=λb=>T.rt λ_=>⟨by omega,by omega,λi hi=>by have:=hu.2 o ho i hi;unfold rgs;omega⟩
  exact(tRChk _ _).bd λ_ _=>T.cd (λ_=>fin _) λ_=>T.cp (λ_=>fin _) λ_=>fin _
theorem all_bad {c:List qD} {s:Saw} {o0 o1 o2 o3:Int⊕(Pattern×Int)} (g0:qBk c s o0) (g1:qBk c s o1) (g2:qBk c s o2) (g3:qBk c s o3):(∃p0 p1 p2 p3,o0= .inr p0/\o1= .inr p1/\o2= .inr p2/\o3= .inr p3)\/((qEy o0 o1 o2 o3).2≠0/\(qEy o1 o2 o3 o0).2≠0/\(qEy o0 o1 o2 o3).1=[]):=by
 cases o0 with
 |inl e0=>
  refine .inr ⟨g0.1 _ rfl,?_,rfl⟩;cases o1 with
  |inl e=>exact g1.1 _ rfl
  |inr p=>cases o2 with
   |inl e=>exact g2.1 _ rfl
   |inr p=>cases o3 with
    |inl e=>exact g3.1 _ rfl
    |inr p=>exact g0.1 _ rfl
 |inr p0=>cases o1 with
  |inl e=>exact .inr ⟨g1.1 _ rfl,g1.1 _ rfl,rfl⟩
  |inr p1=>cases o2 with
   |inl e=>exact .inr ⟨g2.1 _ rfl,g2.1 _ rfl,rfl⟩
   |inr p2=>cases o3 with
    |inl e=>exact .inr ⟨g3.1 _ rfl,g3.1 _ rfl,rfl⟩
    |inr p3=>exact .inl ⟨p0,p1,p2,p3,rfl,rfl,rfl,rfl⟩
theorem all_len {c:List qD} {s:Saw} {o0 o1 o2 o3:Int⊕(Pattern×Int)} (g0:qBk c s o0) (g1:qBk c s o1) (g2:qBk c s o2) (g3:qBk c s o3):(qEy o0 o1 o2 o3).2=0->(qEy o0 o1 o2 o3).1.length=4:=λh=>by
 rcases all_bad g0 g1 g2 g3 with⟨p0,p1,p2,p3,rfl,rfl,rfl,rfl⟩|q
 ·rfl
 ·exact absurd h q.1
def bm :Scan:=⟨[⟨0,[⟨⟨60,30⟩,true⟩,⟨⟨0,30⟩,true⟩,⟨⟨-60,30⟩,true⟩,⟨⟨-60,0⟩,true⟩,⟨⟨-60,-30⟩,true⟩,⟨⟨0,-30⟩,true⟩,⟨⟨60,-30⟩,true⟩,⟨⟨60,0⟩,true⟩]⟩,⟨3000,[⟨⟨60,30⟩,true⟩,⟨⟨0,30⟩,true⟩,⟨⟨-60,30⟩,true⟩,⟨⟨-60,0⟩,true⟩,⟨⟨-60,-30⟩,true⟩,⟨⟨0,-30⟩,true⟩,⟨⟨60,-30⟩,true⟩,⟨⟨60,0⟩,true⟩]⟩],[]⟩
def sl0 :List qO:=[⟨3000,⟨-3,[⟨-60,60⟩,⟨-60,60⟩,⟨-60,60⟩,⟨-60,60⟩,⟨-60,60⟩,⟨-60,60⟩]⟩⟩]
def sl1 :List qO:=[⟨3000,⟨-6,[⟨-30,30⟩,⟨-30,30⟩,⟨-30,30⟩,⟨-30,30⟩,⟨-30,30⟩,⟨-30,30⟩,⟨-30,30⟩,⟨-30,30⟩,⟨-30,30⟩,⟨-30,30⟩,⟨-30,30⟩,⟨-30,30⟩]⟩⟩]
def f0 :Rect:=⟨⟨-60,60⟩,⟨-30,30⟩⟩
def f1 :Rect:=⟨⟨-30,30⟩,⟨-60,60⟩⟩
def c25 :List qD:=[⟨ByteArray.mk #[112,108,97,110,107],50,100,0,0,[3000],[80]⟩]
def w25 :Saw:=⟨4,0,10,1000⟩
def r25 :Rates:=⟨0,0,0⟩
def nd0 :List Node:=[⟨2,40⟩,⟨1,0⟩,⟨0,0⟩]
def nd1 :List Node:=[⟨2,20⟩,⟨1,0⟩,⟨0,0⟩]
def z60 :List Int:=List.replicate 60 0
def z120 :List Int:=List.replicate 120 0
def g0r :List Int:=[80000000,-1,-1,-1,-1,-1,-1,-1,-1,-1,80000000]
def g1r :List Int:=[80000000,-1,-1,-1,-1,-1,-1,-1,-1,-1,80000000,-1,-1,-1,-1,-1,-1,-1,-1,-1,80000000]
def LP0 :Line:=⟨60,4,1,[50,100],[g0r,[]],z60,z60⟩
def LP1 :Line:=⟨120,4,1,[50,100],[List.replicate 71 (-1),g1r],z120,z120⟩
def pt0 :List Node:=[⟨3,20⟩,⟨2,40⟩,⟨1,0⟩,⟨0,0⟩,⟨0,0⟩]
def pt1 :List Node:=[⟨3,40⟩,⟨2,20⟩,⟨1,0⟩,⟨0,0⟩,⟨0,0⟩]
theorem beam_eq :NH=some bm:=by kernel_rfl
theorem place_0 :wU bm 0 200 2=some (sl0,[],0):=by kernel_rfl
theorem qXu :wU bm 1 200 2=some (sl1,[],0):=by kernel_rfl
theorem place_2 :wU bm 2 200 2=some (sl0,[],0):=by kernel_rfl
theorem place_3 :wU bm 3 200 2=some (sl1,[],0):=by kernel_rfl
theorem fr_0 :PK sl0=some f0:=by kernel_rfl
theorem fr_1 :PK sl1=some f1:=by kernel_rfl
theorem ck_0 :UH sl0 [] c25 f0 w25 r25=some 0:=by kernel_rfl
theorem ck_1 :UH sl1 [] c25 f1 w25 r25=some 0:=by kernel_rfl
theorem rest_0 :JA f0 (LP0,[[nd0,[],[],[],[],[],[],[],[],[],nd0],[]]) ([⟨0,0⟩],80000000,0) FUEL [] [] 0=some ([⟨-30,20⟩],[nd0]):=by kernel_rfl
theorem rest_1 :JA f1 (LP1,[List.replicate 71 ([]:List Node),[nd1,[],[],[],[],[],[],[],[],[],nd1,[],[],[],[],[],[],[],[],[],nd1]]) ([⟨1,0⟩],80000000,0) FUEL [] [] 0=some ([⟨-60,40⟩],[nd1]):=by kernel_rfl
theorem row_0 :WO f0 3 4 [⟨-30,20⟩] [nd0]=some (pt0,0):=by kernel_rfl
theorem row_1 :WO f1 3 4 [⟨-60,40⟩] [nd1]=some (pt1,0):=by kernel_rfl
theorem vol_0 :XM sl0=some 21600000:=by kernel_rfl
theorem vol_1 :XM sl1=some 21600000:=by kernel_rfl
theorem whole_0 :PO sl0 f0=some 21600000:=by kernel_rfl
theorem whole_1 :PO sl1 f1=some 21600000:=by kernel_rfl
theorem short_0 :ZT ⟨[],[]⟩ c25 w25 r25 200 2=some (⟨0,⟨⟨⟨0,0⟩,⟨0,0⟩⟩,[]⟩,0⟩,3):=by kernel_rfl
theorem cut_0 :jY LP0=some ([⟨0,0⟩],80000000,0):=by kernel_rfl
end Saw
end Go.SL

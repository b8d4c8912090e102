/- Totality of the plan's functions, part 4: the edge, rows of patterns. -/
import Derived.Test.YtigmogcdifllhaaGreatDoorEMa14
import Derived.Test.YtigmogcdifllhaaGreatDoorEMa13
import Derived.Test.YtigmogcdifllhaaGreatDoorEMod
set_option linter.unusedVariables false
set_option linter.unusedSimpArgs false
namespace Go.SL
namespace Saw
theorem T.be {α β:Type} {Q:β->Prop} {R:α->Prop} {x:Option α} {f:α->Option β} (h:T R x) (k:∀a,x=some a->R a->T Q (f a)):T Q (x.bind f):=by
 obtain⟨a,e,h⟩:=h;rw[e];exact k a e h
theorem tStep (n:Int):T (λb=>b=true->1<=n/\n<=20000) (GQ n):=by
 unfold GQ FH;exact T.cp (λh=>T.rt λq=>⟨h,ug q⟩) λ_=>T.rt λq=>by cases q
theorem tFine (n:Int):T tt (GN n):=by
 unfold GN;exact T.cp (λ_=>T.rt trivial) λ_=>T.rt (a:=false) trivial
theorem tWBest (l:List qN) (d:List qG) (p:qF) (r:Rect) (st f:Int):T tt (qAL l d p r st f):=by
 unfold qAL;refine(tStep st).bd λb hb=>T.cd (λ_=>T.rt (a:=(_,_,_)) trivial) λhs=>(tFine f).bd λc _=>?_;have hs:=hb (by simpa using hs);unfold AN;refine T.cd (λ_=>T.rt trivial) λ_=>(tLook l d p r).bd λv hv=>T.cd (λ_=>T.rt trivial) λh=>?_;obtain⟨h1,h2,h3,h4,h5⟩:=hv (by simpa using h);refine(T.ms (Q:=tt) (λn (t:Int×Bool×Int×Span)=>TE p st f v n t.1 t.2.1 t.2.2.1 t.2.2.2) (λt=>0<=t.2.2.1/\t.2.2.1<=600000) (λt=>(600000-t.2.2.1).toNat) (λn t hi ih=>?_) (s:=(_,_,_,_)) ⟨by simp only;omega,by simp only;omega⟩ (by simp only;omega)).bd λ_ _=>T.rt trivial
 show T tt (TE p st f v (n+1) t.1 t.2.1 t.2.2.1 t.2.2.2);rw[TE];refine T.cp (λh=>(T.lp (Q:=tt) p.Lengths.length (by omega) (λm (s:Int×Bool×Span) i=>yI p f v t.2.2.1 m s.1 s.2.1 i s.2.2) (λ_ _=>True) (kv _) (λm x s hx _ ih2=>?_) (s:=(_,_,_)) trivial).bd λo _=>?_) λ_=>T.rt trivial
 ·show T tt (yI p f v t.2.2.1 (m+1) s.1 s.2.1 x s.2.2);rw[yI];have k4:x<p.Lengths.length->∀w b,T tt (TF p t.2.2.1 s.1 s.2.1 x s.2.2 (λa b c d=>yI p f v t.2.2.1 m a b c d) w b):=λhx2 w b=>by
   unfold TF;exact T.cd (λ_=>ih2 (_,_,_) hx2 trivial) λ_=>ih2 (_,_,_) hx2 trivial
  exact T.cp (λh=>T.gi (by omega) ((tWorth _ _ _ h2 h3 h4).bd λw _=>T.cd (λ_=>T.cd (λ_=>k4 (by omega) _ _) λ_=>k4 (by omega) _ _) λ_=>k4 (by omega) _ _)) λ_=>T.rt trivial
 ·rw[qX (by omega)];exact ih (_,_,_,_) ⟨by simp only;omega,by simp only;omega⟩ (by simp only;omega)
theorem tGain (l:List qN) (d:List qG) (p:qF) (r:Rect) (s:Saw) (t:Rates):T tt (qCD l d p r s t):=by
 unfold qCD;exact(tWBest _ _ _ _ _ _).bd λ_ _=>T.cd (λ_=>T.rt trivial) λ_=>(qSU _).bd λ_ _=>(qNW _ _ _).bd λ_ _=>(qNW _ _ _).bd λ_ _=>(qNW _ _ _).bd λ_ _=>(qNW _ _ _).bd λ_ _=>T.rt trivial
theorem tWChk (s:Saw) (r:Rates):T (λe=>e=0->1<=s.Pitch) (NJ s r):=by
 have bad:T (λe:Int=>e=0->1<=s.Pitch) (some 9):=T.er (by decide);unfold NJ;refine T.cp (λ_=>bad) λ_=>T.cp (λ_=>bad) λ_=>T.cp (λ_=>bad) λ_=>?_;unfold PL;refine T.cp (λ_=>bad) λ_=>T.cp (λ_=>bad) λh=>T.cp (λ_=>bad) λ_=>(tStep _).bd λ_ _=>?_;have k3:∀b,T (λe:Int=>e=0->1<=s.Pitch) (JU b):=λb=>T.cd (λ_=>bad) λ_=>T.rt λ_=>by omega
 unfold GE;exact T.cd (λ_=>bad) λ_=>T.cp (λ_=>k3 _) λ_=>T.cp (λ_=>k3 _) λ_=>T.cp (λ_=>k3 _) λ_=>T.cp (λ_=>k3 _) λ_=>(tFine _).bd λ_ _=>k3 _
def num4 (r:Rect) (i:Nat):Int:=[r.X.A,r.X.B,r.Y.A,r.Y.B].getD i 0
theorem rok4 {r:Rect} (h:∀i,i<4->-600<=num4 r i/\num4 r i<=600) (h1:¬r.X.A≥r.X.B) (h2:¬r.Y.A≥r.Y.B):rok r:=by
 have a0: -600<=r.X.A/\r.X.A<=600:=h 0 (by decide);have a1: -600<=r.X.B/\r.X.B<=600:=h 1 (by decide);have a2: -600<=r.Y.A/\r.Y.A<=600:=h 2 (by decide);have a3: -600<=r.Y.B/\r.Y.B<=600:=h 3 (by decide);unfold rok;omega
theorem tEChk (l:List qN) (d:List qG) (p:List qF) (r:Rect) (s:Saw) (t:Rates):T (λe=>e=0->1<=s.Pitch/\rok r) (CL l d p r s t):=by
 unfold CL;refine(qST l).bd λ_ _=>T.ne (λh=>T.er h) λ_=>T.bd (R:=tt) ⟨_,qE9 d,trivial⟩ λ_ _=>T.ne (λh=>T.er h) λ_=>(qO2 p).bd λ_ _=>T.ne (λh=>T.er h) λ_=>(tWChk s t).bd λe he=>T.ne (λh=>T.er h) λh0=>T.cp (λ_=>T.er (e:=19) (by decide)) λh1=>?_;unfold AV
 refine T.cp (λ_=>T.er (by decide)) λh2=>T.end (T.lp (Q:=λu=>(∀e,u= .inl e->e≠0)/\∀o,u= .inr o->∀i,i<4->-600<=num4 r i/\num4 r i<=600) 4 (by decide) (λn (_:Unit) i=>JF r n i) (λx _=>∀i,i<x->-600<=num4 r i/\num4 r i<=600) (kv _) (λn x s hx hi ih=>?_) (s:=()) λi hi=>by omega) λ_ k=>T.rt λ_=>⟨he h0,rok4 k h1 h2⟩
 show T _ (JF r (n+1) x);rw[JF];refine T.cp (λh=>T.gi (by omega) (T.cp (λ_=>T.no (e:=9) (by decide)) λh3=>?_)) λh=>T.ok λi hi'=>hi i (by omega);unfold AI;refine T.cp (λ_=>T.no (by decide)) λh4=>ih () (by omega) λi hi'=>?_;by_cases hc:i=x
 ·subst hc;have h3:¬num4 r i< -600:=h3;have h4:¬num4 r i>600:=h4;omega
 ·exact hi i (by omega)
theorem tPart (r:Rect) (a b:Int):T tt (OT r a b):=T.rt trivial
theorem tELine (l:List qN) (d:List qG) (p:List qF) (r:Rect) (s:Saw) (t:Rates):T (λx=>x.2=0->∃z,UD p (w64 (r.Y.B-r.Y.A))=some z/\z.1.length=z.2.length/\x.1.Sizes=z.1) (CD l d p r s t):=by
 unfold CD;refine(tEChk l d p r s t).bd λe he=>T.ne (λh=>T.rt λq=>absurd q h) λh0=>(tSizes p _).be λz ez hz=>?_;obtain⟨hp,hr⟩:=he h0;unfold rok at hr;obtain⟨z1,z2,z3,z4⟩:=hz;have hw:w64 (r.X.B-r.X.A)=r.X.B-r.X.A:=qX (by omega)
 refine(T.lp (Q:=tt) z.1.length (by omega) (λn s' i=>GH l d p r s t z n i s') (λx s'=>s'.length=x) (kv _) (λn x s' hx hi ih=>?_) rfl).bd λg _=>(qSU l).bd λm _=>(T.lp (Q:=tt) (r.X.B-r.X.A).toNat (by omega) (λn (s':List Int×List Int) i=>VP l r t m n i s'.1 s'.2) (λx s'=>s'.1.length=x/\s'.2.length=x) (kv _) (λn x s' hx hi ih=>?_) (s:=(_,_)) ⟨rfl,rfl⟩).bd λ_ _=>T.rt λ_=>⟨z,ez,z1,rfl⟩
 ·show T tt (GH l d p r s t z (n+1) x s');rw[GH];refine T.cp (λh=>T.gi (by omega) ?_) λ_=>T.rt trivial;have hb:=z3 _ (wD (show x<z.1.length by omega));unfold b1k at hb;refine(T.ms (Q:=tt) (λn (u:List Int×Int)=>WU l d p r s t z x n u.1 u.2) (λu=>(0<=u.2/\u.2<=1300)/\(u.1.length:Int)=u.2) (λu=>(1300-u.2).toNat) (λn u hi ih=>?_) (s:=([],0)) ⟨by simp only;omega,rfl⟩ (by simp only;omega)).bd λ_ _=>T.gr (by omega) (ih _ (by omega) (by simp[hi]));show T tt (WU l d p r s t z x (n+1) u.1 u.2);obtain⟨hi,hl⟩:=hi;rw[WU,ki,hw,qX (n:=u.2+_) (by omega)]
  have k3:u.2+z.1.getD x dd<=r.X.B-r.X.A->∀g,T tt (LT u.1 u.2 (λa b=>WU l d p r s t z x n a b) g):=λhle g=>by
   unfold LT;refine T.gr (by omega) ?_;rw[qX (by omega)];exact ih (_,_) ⟨by simp only;omega,by simp;omega⟩ (by simp only;omega)
  have hq:=z4 _ (wD (show x<z.2.length by omega));exact T.cp (λhle=>T.gn (by omega) (T.cd (λ_=>T.gi (by omega) (T.gi hq ((tPart _ _ _).bd λ_ _=>(tGain _ _ _ _ _ _).bd λ_ _=>k3 hle _))) λ_=>k3 hle _)) λ_=>T.rt trivial
 ·show T tt (VP l r t m (n+1) x s'.1 s'.2);rw[VP,hw];exact T.cp (λh=>(tPart _ _ _).bd λ_ _=>(qNW _ _ _).bd λ_ _=>T.gr (by omega) (T.gr (by omega) (ih (_,_) (by omega) ⟨by simp[hi.1],by simp[hi.2]⟩))) λ_=>T.rt trivial
theorem tAdd (a:List Node) (c:Int) (l:List Node) (ha:a.length<=127) (hc:0<=c/\c<=1000000) (hl:l.length<=127/\(l.length:Int)<=c):T (λr=>r.1=c+a.length/\r.2.length<=127/\(r.2.length:Int)<=r.1) (QE a c l):=by
 unfold QE;rw[qX (n:=c+_) (by omega)];exact T.cp (λh=>T.gr (by omega) (T.rt ⟨rfl,by simp;omega,by simp;omega⟩)) λ_=>T.rt ⟨rfl,hl.1,by simp only;omega⟩
theorem tIsF (r:Rect):T tt (UH r):=by
 unfold UH;refine(T.lp (Q:=tt) 2 (by decide) (λn (_:Unit) i=>jF r n i) (λ_ _=>True) (kv _) (λn x s hx _ ih=>?_) (s:=()) trivial).bd λu _=>T.el (λ_ _=>T.rt trivial) λ_ _=>T.rt trivial;show T tt (jF r (n+1) x);rw[jF];refine T.cp (λh=>T.gi (by omega) (T.cp (λ_=>T.rt (a:=(Sum.inl false:Bool⊕Unit)) trivial) λ_=>T.cp (λ_=>T.rt (a:=(Sum.inl false:Bool⊕Unit)) trivial) λ_=>?_)) λ_=>T.rt trivial;unfold YQ;exact T.cp (λ_=>T.rt trivial) λ_=>ih () (by omega) trivial
theorem tRow (r:Rect) (x k:Int) (a:List Span) (b:List (List Node)) (ha:a.length<=2002) (hb:∀q∈b,q.length<=127):T (λz=>z.1.length<=127) (WG r x k a b):=by
 have bad:∀e:Int,T (λz:List Node×Int=>z.1.length<=127) (some ([],e)):=λe=>T.rt (by simp);unfold WG AK;refine(T.cd (λ_=>T.rt (a:=true) trivial) λ_=>T.rt trivial:T tt _).bd λ_ _=>T.cd (λ_=>bad _) λ_=>(tIsF r).bd λ_ _=>T.cd (λ_=>bad 19) λ_=>?_;unfold HM;refine T.ne (λ_=>bad _) λhl=>T.cp (λ_=>bad 9) λh1=>?_;unfold MV;refine T.cp (λ_=>bad _) λh2=>(T.cd (λ_=>T.rt trivial) λ_=>T.rt trivial:T tt (IA r x)).bd λw _=>?_
 refine(T.lp (Q:=λu:(List Node×Int)⊕(Bool×List Node×Int)=>(∀z,u= .inl z->z.1.length<=127)/\∀o,u= .inr o->(0<=o.2.2/\o.2.2<=300000)/\o.2.1.length<=127/\(o.2.1.length:Int)<=o.2.2) a.length (by omega) (λn (s:Int×Bool×List Node×Int) i=>wR x k a b w n s.1 s.2.1 i s.2.2.1 s.2.2.2) (λy s=>(0<=s.2.2.2/\s.2.2.2<=130*y)/\s.2.2.1.length<=127/\(s.2.2.1.length:Int)<=s.2.2.2) (kv _) (λn y s hx hi ih=>?_) (s:=(_,_,[],0)) ⟨by simp only;omega,by simp,by simp⟩).bd λu hu=>T.el (λz hz=>T.rt (hu.1 z hz)) λo ho=>?_
 ·show T _ (wR x k a b w (n+1) s.1 s.2.1 y s.2.2.1 s.2.2.2);obtain⟨i1,i2,i3⟩:=hi;have no:∀e:Int,T (λu:(List Node×Int)⊕(Bool×List Node×Int)=>(∀z,u= .inl z->z.1.length<=127)/\∀o,u= .inr o->(0<=o.2.2/\o.2.2<=300000)/\o.2.1.length<=127/\(o.2.1.length:Int)<=o.2.2) (some (.inl ([],e))):=λe=>T.rt ⟨λ_ q=>(by cases q;simp),λ_ q=>(by cases q)⟩;rw[wR];refine T.cp (λh=>T.gi (by omega) ?_) λh=>T.rt ⟨λ_ q=>(by cases q),λ_ q=>(by cases q;exact⟨by simp only;omega,i2,i3⟩)⟩;have hy:y<b.length:=by omega
  have hq:=hb _ (wD hy);have k6:∀(e:Int) (f:Bool) (m:List Node) (c:Int),(0<=c/\c<=130*y+3)->(m.length<=127/\(m.length:Int)<=c)->T _ (GP b y (λp q r s t=>wR x k a b w n p q r s t) e f m c):=λe f m c hc hm=>by
   unfold GP;refine T.gi (by omega) ?_;rw[ki];exact(tAdd _ _ _ hq ⟨hc.1,by omega⟩ hm).bd λv hv=>ih (_,_,_,_) (by omega) ⟨by show 0<=v.1/\v.1<=130*((y+1:Nat):Int);have:=hv.1;omega,hv.2.1,hv.2.2⟩
  have k5:∀(m:List Node) (c:Int),(0<=c/\c<=130*y+2)->(m.length<=127/\(m.length:Int)<=c)->T _ (VQ x k a b w s.1 s.2.1 y (λp q r s t=>wR x k a b w n p q r s t) m c):=λm c hc hm=>by
   unfold VQ;refine T.cp (λ_=>(tAdd _ _ _ (by simp) ⟨hc.1,by omega⟩ hm).bd λv hv=>k6 _ _ _ _ (by have:=hv.1;simp at this;omega) ⟨hv.2.1,hv.2.2⟩) λ_=>k6 _ _ _ _ (by omega) hm
  have k4:∀f,T _ (PF x k a b w s.1 s.2.1 y s.2.2.1 s.2.2.2 (λp q r s t=>wR x k a b w n p q r s t) f):=λf=>by
   unfold PF;refine T.cd (λ_=>no _) λ_=>T.cp (λ_=>no _) λ_=>T.cp (λ_=>(tAdd _ _ _ (by simp) ⟨i1.1,by omega⟩ ⟨i2,i3⟩).bd λv hv=>k5 _ _ (by have:=hv.1;simp at this;omega) ⟨hv.2.1,hv.2.2⟩) λ_=>k5 _ _ (by omega) ⟨i2,i3⟩
  exact T.cp (λ_=>no _) λ_=>T.cd (λ_=>k4 _) λ_=>T.cd (λ_=>k4 _) λ_=>k4 _
 ·obtain⟨o1,o2,o3⟩:=hu.2 o ho;have k7:∀(c:Int) (m:List Node),m.length<=127->T (λz=>z.1.length<=127) (HH c m):=λc m hm=>T.cp (λ_=>bad _) λ_=>T.rt hm;exact T.cd (λ_=>(tAdd _ _ _ (by simp) ⟨o1.1,by omega⟩ ⟨o2,o3⟩).bd λv hv=>k7 _ _ hv.2.1) λ_=>k7 _ _ o2
theorem tEBest (l:List qN) (d:List qG) (p:List qF) (r:Rect) (s:Saw) (t:Rates):T (λz=>z.1.length<=127) (wX l d p r s t):=by
 unfold wX;refine(tELine l d p r s t).bd λx hx=>T.ne (λ_=>T.rt (by simp)) λh0=>(tCut x.1).bd λc hc=>T.ne (λ_=>T.rt (by simp)) λh1=>?_;obtain⟨z,ez,z1,z2⟩:=hx h0;obtain⟨v,c1,c2⟩:=hc h1;have v2:=v.szl;rw[ez]
 refine(T.lp (Q:=λo:List Span×List (List Node)=>o.1.length<=2002/\∀q∈o.2,q.length<=127) c.1.length (by omega) (λn (u:List Span×List (List Node)) i=>RD r c z n u.1 u.2 i) (λy u=>(u.1.length=y/\u.2.length=y)/\∀q∈u.2,q.length<=127) (kv _) (λn y u hy hi ih=>?_) (s:=(_,_)) ⟨⟨rfl,rfl⟩,by simp⟩).bd λo ho=>(tRow _ _ _ _ _ ho.1 ho.2).bd λw hw=>T.ne (λ_=>T.rt (by simp)) λ_=>T.rt hw;show T _ (RD r c z (n+1) u.1 u.2 y);obtain⟨⟨i1,i2⟩,i3⟩:=hi;rw[RD];refine T.cp (λh=>T.gi (by omega) ?_) λ_=>T.rt ⟨by simp only;omega,i3⟩;have hp:=c2 _ (wD (show y<c.1.length by omega));rw[ki]
 have e1:=hp.1;have e2:=hp.2.1;rw[z2] at e2;refine T.gi (by omega) ((tPart _ _ _).bd λ_ _=>T.gr (by omega) (T.gi (by omega) ?_));unfold FL TW;rw[ZK (by simp),ZK (by omega)];refine ih (_,_) (by omega) ⟨⟨by simp[i1],by simp[i2]⟩,λq hq=>?_⟩;rcases kU.1 hq with hq|hq
 ·exact i3 q hq
 ·rw[kX.1 hq];simp
def hok (l:List Int):Prop:=l.length<=32/\∀h∈l,b1k h
theorem hok.take {l:List Int} (h:hok l) (n:Nat):hok (l.take n):=⟨by rw[ub];have:=h.1;omega,λx hx=>h.2 x (List.mem_of_mem_take hx)⟩
theorem qZm (l:List Int) (hl:hok l):T (λr=>hok r.2) (JP l):=by
 have h32:=hl.1;unfold JP;refine T.cp (λ_=>T.rt hl) λh2=>(T.lp (Q:=λu:(List Int×List Int)⊕List Int=>(∀r,u= .inl r->hok r.2)/\∀o,u= .inr o->hok o) l.length (by omega) (λn s i=>yN n s i) (λx s=>1<=x/\s=l) (show 1<=l.length by omega) (λn x s hx hi ih=>?_) ⟨ke _,rfl⟩).bd λu hu=>T.el (λr hr=>T.rt (hu.1 r hr)) λo ho=>T.rt (hu.2 o ho);obtain⟨h1,rfl⟩:=hi;show T _ (yN (n+1) s x);rw[yN]
 refine T.cp (λh=>T.gi (by omega) (T.gi (by rw[qX (by omega)];omega) (T.cd (λ_=>T.gs (by omega) ?_) λ_=>ih _ (by omega) ⟨by omega,rfl⟩))) λ_=>T.rt ⟨λ_ q=>(by cases q),λ_ q=>(by cases q;exact hl)⟩
 refine(T.lp (Q:=λo:List Int×Int=>hok o.1/\0<=o.2/\o.2<=o.1.length) (s.length-x) (by omega) (λn (t:List Int×Int) i=>wZ s x n t.1 t.2 i) (λy t=>1<=y/\t.1.length=s.length/\(∀h∈t.1,b1k h)/\(x:Int)<=t.2/\t.2+1<=x+y) (show 1<=s.length-x by omega) (λm y t hy hi ih2=>?_) (s:=(_,_)) ⟨ke _,rfl,hl.2,kV _,by show(x:Int)+1<=x+((1:Nat):Int);omega⟩).bd λo ho=>T.gs ⟨ho.2.1,ho.2.2,kV _⟩ (T.gs ⟨kV _,ho.2.1,ho.2.2⟩ (T.rt ⟨λ_ q=>(by cases q;exact ho.1.take _),λ_ q=>(by cases q)⟩));show T _ (wZ s x (m+1) t.1 t.2 y);obtain⟨i0,i1,i2,i3,i4⟩:=hi;rw[wZ,ki]
 refine T.cp (λh=>T.gi (by omega) (T.gb (by omega) (T.gi (by rw[qX (by omega)];omega) (T.cd (λ_=>T.gi (by omega) ?_) λ_=>ih2 (_,_) (by omega) ⟨by omega,i1,i2,i3,by omega⟩)))) λ_=>T.rt ⟨⟨by simp only;omega,i2⟩,by simp only;omega,by simp only;omega⟩;have hw:w64 (t.2+1)=t.2+1:=qX (by omega);refine ih2 (_,_) (by omega) ⟨by omega,by simp[i1],λz hz=>?_,by show(x:Int)<=w64 (t.2+1);rw[hw];omega,by show w64 (t.2+1)+1<=(x:Int)+((y+1:Nat):Int);rw[hw];omega⟩;rcases List.mem_or_eq_of_mem_set hz with hz|rfl
 ·exact i2 z hz
 ·exact i2 _ (wD (by rw[ki];omega))
theorem tHts (p:List qF):T hok (VG p):=by
 unfold VG;refine(qO2 p).bd λe he=>T.ne (λ_=>T.rt ⟨by simp,by simp⟩) λh0=>?_;obtain⟨h16,hp⟩:=he h0;refine(T.lp (Q:=hok) p.length (by omega) (λn s i=>XJ p n s i) (λx s=>s.length=2*x/\∀h∈s,b1k h) (kv _) (λn x s hx hi ih=>?_) (s:=[]) ⟨rfl,by simp⟩).bd λo ho=>?_
 ·show T _ (XJ p (n+1) s x);rw[XJ];refine T.cp (λh=>T.gi (by omega) ((qPx _).bd λg hg=>T.gr (by omega) (ih _ (by omega) ⟨by simp[hi.1];omega,λz hz=>?_⟩))) λ_=>T.rt ⟨by omega,hi.2⟩;have hg:=hg (hp x (by omega));rcases kU.1 hz with hz|hz
  ·exact hi.2 z hz
  ·simp only[kW,List.not_mem_nil,or_false] at hz;rcases hz with rfl|rfl
   ·exact hg.1
   ·exact hg.2
 ·have o1:=ho.1;unfold DF;rw[show Nat.blt o.length 4611686018427387904=true by rw[kS];omega];have pm:=TJ (λx y:Int=>decide (x<=y)) o;simp only[kp,kd];rw[show((WI (λx y:Int=>decide (x<=y)) o).length==o.length)=true by rw[pm.length_eq];simp];exact(qZm _ ⟨by rw[pm.length_eq];exact o1,λh hh=>ho.2 h (pm.mem_iff.1 hh)⟩).bd λr hr=>T.rt hr
theorem tPChk (l:List qN) (d:List qG) (p:List qF) (r:Rect) (s:Saw) (t:Rates):T (λe=>e=0->1<=s.Pitch/\rok r) (TL l d p r s t):=by
 unfold TL;refine(qST l).bd λ_ _=>T.ne (λh=>T.er h) λ_=>T.bd (R:=tt) ⟨_,qE9 d,trivial⟩ λ_ _=>T.ne (λh=>T.er h) λ_=>(qO2 p).bd λ_ _=>T.ne (λh=>T.er h) λ_=>(tWChk s t).bd λe he=>T.ne (λh=>T.er h) λh0=>T.bd (R:=λe=>e=0->rok r) ?_ λf hf=>T.rt λq=>⟨he h0,hf q⟩
 unfold FA;refine T.cp (λ_=>T.er (e:=19) (by decide)) λh1=>?_;unfold TT;refine T.cp (λ_=>T.er (by decide)) λh2=>T.end (T.lp (Q:=λu=>(∀e,u= .inl e->e≠0)/\∀o,u= .inr o->∀i,i<4->-600<=num4 r i/\num4 r i<=600) 4 (by decide) (λn (_:Unit) i=>jZ r n i) (λx _=>∀i,i<x->-600<=num4 r i/\num4 r i<=600) (kv _) (λn x s hx hi ih=>?_) (s:=()) λi hi=>by omega) λ_ k=>T.rt λ_=>rok4 k h1 h2;show T _ (jZ r (n+1) x);rw[jZ];refine T.cp (λh=>T.gi (by omega) (T.cp (λ_=>T.no (e:=9) (by decide)) λh3=>?_)) λh=>T.ok λi hi'=>hi i (by omega);unfold UP
 refine T.cp (λ_=>T.no (by decide)) λh4=>ih () (by omega) λi hi'=>?_;by_cases hc:i=x
 ·subst hc;have h3:¬num4 r i< -600:=h3;have h4:¬num4 r i>600:=h4;omega
 ·exact hi i (by omega)
theorem tHas (l:List Node) (hl:l.length<=127):T tt (TA l):=by
 unfold TA WE YP;refine(((T.lp (Q:=tt) l.length (by omega) (λn (_:Unit) i=>jJ l n i) (λ_ _=>True) (kv _) (λn x s hx _ ih=>?_) (s:=()) trivial).bd λu _=>T.el (λ_ _=>T.rt trivial) λ_ _=>T.rt trivial:T tt _).bd λ_ _=>T.rt trivial:T tt _).bd λ_ _=>T.rt trivial;show T tt (jJ l (n+1) x);rw[jJ];exact T.cp (λh=>T.gi (by omega) ((T.rt trivial:T tt (some _)).bd λ_ _=>T.cd (λ_=>T.rt trivial) λ_=>ih () (by omega) trivial)) λ_=>T.rt trivial
theorem qUM (r:Rect) (a b:Int):T tt (DP r a b):=T.rt trivial
def sml (l:List (List Node)):Prop:=∀q∈l,q.length<=127
theorem sml.add {l:List (List Node)} (h:sml l) {q:List Node} (hq:q.length<=127):sml (l++[q]):=λz hz=>by
 rcases kU.1 hz with hz|hz
 ·exact h z hz
 ·rw[kX.1 hz];exact hq
theorem qVi {α:Type} [Inhabited α] (l:List α) (x:α) (i:Nat):(l++[x]).getD i dd=if i<l.length then l.getD i dd else if i=l.length then x else dd:=by
 rw[ka,ka];by_cases h:i<l.length
 ·rw[if_pos h,kD h]
 ·rw[if_neg h,kB (by omega)];by_cases h2:i=l.length
  ·subst h2;rw[if_pos rfl];simp
  ·rw[if_neg h2,List.getElem?_eq_none (by simp;omega)];rfl
def rows2 (g:List (List Int)) (b:List (List (List Node))):Prop:=g.length=b.length/\∀i,i<b.length->(g.getD i dd).length=(b.getD i dd).length/\sml (b.getD i dd)
theorem tPLine {l:List qN} {d:List qG} {p:List qF} {r:Rect} {s:Saw} {t:Rates} (hp:1<=s.Pitch) (hr:rok r):T (λx=>rows2 x.1.Gain x.2) (KT l d p r s t):=by
 unfold KT;unfold rok at hr;have hw:w64 (r.Y.B-r.Y.A)=r.Y.B-r.Y.A:=qX (by omega)
 refine(tHts p).bd λz hz=>(T.lp (Q:=λo:List (List (List Node))×List (List Int)=>rows2 o.2 o.1) z.length (by have:=hz.1;omega) (λn (u:List (List (List Node))×List (List Int)) i=>yM l d p r s t z n u.1 i u.2) (λx u=>u.1.length=x/\rows2 u.2 u.1) (kv _) (λn x u hx hi ih=>?_) (s:=(_,_)) ⟨rfl,rfl,λi hi=>by simp at hi⟩).bd λo ho=>(T.lp (Q:=tt) (r.Y.B-r.Y.A).toNat (by omega) (λn (u:List Int×List Int) i=>RK l r t n i u.1 u.2) (λx u=>u.1.length=x/\u.2.length=x) (kv _) (λn x u hx hi ih=>?_) (s:=(_,_)) ⟨rfl,rfl⟩).bd λ_ _=>T.rt ho
 ·show T _ (yM l d p r s t z (n+1) u.1 x u.2);obtain⟨i1,i2,i3⟩:=hi;have h32:=hz.1;rw[yM];refine T.cp (λh=>T.gi (by omega) ?_) λ_=>T.rt ⟨i2,i3⟩;have hb:=hz.2 _ (wD (show x<z.length by omega));unfold b1k at hb
  refine(T.ms (Q:=λo:List Int×List (List Node)=>o.1.length=o.2.length/\sml o.2) (λn (u:List Int×List (List Node)×Int)=>zO l d p r s t z x n u.1 u.2.1 u.2.2) (λu=>(0<=u.2.2/\u.2.2<=1300)/\((u.1.length:Int)=u.2.2/\(u.2.1.length:Int)=u.2.2)/\sml u.2.1) (λu=>(1300-u.2.2).toNat) (λn u hi ih=>?_) (s:=(_,_,_)) ⟨by simp only;omega,⟨rfl,rfl⟩,λq hq=>by simp at hq⟩ (by simp only;omega)).bd λo ho=>T.gr (by omega) (T.gr (by omega) (ih (_,_) (by omega) ⟨by simp[i1],by simp[i2],λi hi'=>?_⟩))
  ·show T _ (zO l d p r s t z x (n+1) u.1 u.2.1 u.2.2);obtain⟨hi,hl,hs⟩:=hi;rw[zO,ki,hw,qX (n:=u.2.2+_) (by omega)];have k4:u.2.2+z.getD x dd<=r.Y.B-r.Y.A->∀g b,b.length<=127->T _ (YW u.1 u.2.1 u.2.2 (λa b c=>zO l d p r s t z x n a b c) g b):=λhle g b hb=>by
    unfold YW;refine T.gr (by omega) (T.gr (by omega) ?_);rw[qX (by omega)];exact ih (_,_,_) ⟨by simp only;omega,⟨by simp;omega,by simp;omega⟩,hs.add hb⟩ (by simp only;omega)
   have k3:u.2.2+z.getD x dd<=r.Y.B-r.Y.A->∀v y,v.1.length<=127->T _ (LO u.1 u.2.1 u.2.2 (λa b c=>zO l d p r s t z x n a b c) v y):=λhle v y hv=>T.cd (λ_=>k4 hle _ _ hv) λ_=>k4 hle _ _ (by simp);exact T.cp (λhle=>T.gn (by omega) (T.cd (λ_=>(qUM _ _ _).bd λ_ _=>(tEBest _ _ _ _ _ _).bd λv hv=>T.eq (λ_=>(tHas _ hv).bd λ_ _=>k3 hle _ _ hv) λ_=>k3 hle _ _ hv) λ_=>k4 hle _ _ (by simp))) λ_=>T.rt ⟨by simp only;omega,hs⟩
  ·simp only[ud,List.length_singleton] at hi';rw[qVi,qVi,i2];by_cases hc:i<u.1.length
   ·rw[if_pos hc,if_pos hc];exact i3 i hc
   ·rw[if_neg hc,if_neg hc,if_pos (by omega),if_pos (by omega)];exact ho
 ·show T tt (RK l r t (n+1) x u.1 u.2);rw[RK,hw];exact T.cp (λh=>(qUM _ _ _).bd λ_ _=>(tVolP _ _).bd λ_ _=>T.gr (by omega) (T.gr (by omega) (ih (_,_) (by omega) ⟨by simp[hi.1],by simp[hi.2]⟩))) λ_=>T.rt trivial
theorem tPlan (l:List qN) (d:List qG) (p:List qF) (r:Rect) (s:Saw) (t:Rates):T (λz=>z.1.Nodes.length<=127) (JH l d p r s t):=by
 unfold JH;refine(tPChk l d p r s t).bd λe he=>T.ne (λ_=>T.rt (by simp)) λh0=>(tPLine (he h0).1 (he h0).2).bd λx hx=>(tCut x.1).bd λc hc=>T.ne (λ_=>T.rt (by simp)) λh1=>?_;obtain⟨v,c1,c2⟩:=hc h1;have v2:=v.szl;have v3:=v.gl;obtain⟨x1,x2⟩:=hx
 refine(T.lp (Q:=λo:List Span×List (List Node)=>o.1.length<=2002/\sml o.2) c.1.length (by omega) (λn (u:List Span×List (List Node)) i=>WP r x c n u.1 u.2 i) (λy u=>(u.1.length=y/\u.2.length=y)/\sml u.2) (kv _) (λn y u hy hi ih=>?_) (s:=(_,_)) ⟨⟨rfl,rfl⟩,λq hq=>by simp at hq⟩).bd λo ho=>(tRow _ _ _ _ _ ho.1 ho.2).bd λw hw=>T.ne (λ_=>T.rt (by simp)) λ_=>(tSolVol l).bd λ_ _=>(tVolP _ _).bd λ_ _=>T.rt hw;show T _ (WP r x c (n+1) u.1 u.2 y);obtain⟨⟨i1,i2⟩,i3⟩:=hi;rw[WP];refine T.cp (λh=>T.gi (by omega) ?_) λ_=>T.rt ⟨by simp only;omega,i3⟩
 have hp:=c2 _ (wD (show y<c.1.length by omega));rw[ki];obtain⟨e1,e2,e3,e4⟩:=hp;have hs:=v.sz (c.1.getD y dd).Size.toNat (by omega);have hg:=v.gr (c.1.getD y dd).Size.toNat (by omega);have hm:=qG0 0 (x.1.Len-x.1.Sizes.getD (c.1.getD y dd).Size.toNat dd+1);obtain⟨y1,y2⟩:=x2 (c.1.getD y dd).Size.toNat (by omega);refine T.gi (by omega) ((qUM _ _ _).bd λ_ _=>T.gr (by omega) (T.gi (by omega) (T.gi (by omega) ?_)));unfold FE;rw[ZK (by omega)];exact ih (_,_) (by omega) ⟨⟨by simp[i1],by simp[i2]⟩,i3.add (y2 _ (wD (by omega)))⟩
def qID (P:Option (List qN×List qG×Int)) (c:List qF) (s:Saw) (r:Rates):Option (Int⊕(Pattern×Int)):=
 P.bind λv=>bif v.2.2 !=0 then some (.inl v.2.2) else(KI v.1).bind λf=>(JH v.1 v.2.1 c f s r).bind λw=>bif w.2.2 !=0 then some (.inl w.2.2) else some (.inr (w.1,w.2.1))
def CY (o:Int⊕(Pattern×Int)):Prop:=(∀e,o= .inl e->e≠0)/\∀p,o= .inr p->p.1.Nodes.length<=127
theorem qS7 (v:List qN×List qG×Int) (c:List qF) (s:Saw) (r:Rates):T CY (qID (some v) c s r):=by
 show T CY (bif v.2.2 !=0 then _ else _);have no:∀{e:Int},e≠0->T CY (some (.inl e)):=λh=>T.rt ⟨λ_ q=>(by cases q;exact h),λ_ q=>(by cases q)⟩;exact T.ne (λh=>no h) λ_=>(tFrame _).bd λf _=>(tPlan _ _ _ _ _ _).bd λw hw=>T.ne (λh=>no h) λ_=>T.rt ⟨λ_ q=>(by cases q),λ_ q=>(by cases q;exact hw)⟩
def qN6 (o0 o1 o2 o3:Int⊕(Pattern×Int)):List qI×Int:=match o0 with
 | .inl e=>([],e)
 | .inr p0=>match o1 with
  | .inl e=>([],e)
  | .inr p1=>match o2 with
   | .inl e=>([],e)
   | .inr p2=>match o3 with
    | .inl e=>([],e)
    | .inr p3=>([⟨0,p0.1,p0.2⟩,⟨1,p1.1,p1.2⟩,⟨2,p2.1,p2.2⟩,⟨3,p3.1,p3.2⟩],0)
theorem qH2 {x:Scan} {c:List qF} {s:Saw} {r:Rates} {l m k k':Int} {o:Int⊕(Pattern×Int)} (h0:decide (k<4)=true) (hk:w64 (k+1)=k') (h:qID (wS x k l m) c s r=some o) (n:Nat) (out:List qI) (hr:room (out.length+1) 72=true):jT x c s r l m (n+1) out k=Sum.elim (λe=>some (.inl ([],e))) (λp=>jT x c s r l m n (out++[⟨k,p.1,p.2⟩]) k') o:=by
 rw[jT,h0];unfold qID at h;cases hp:wS x k l m with
 |none=>rw[hp] at h;cases h
 |some v=>
  rw[hp] at h;simp only[kd,kp] at h⊢;cases hv:v.2.2 !=0 with
  |true=>rw[hv] at h;cases h;rfl
  |false=>
   rw[hv] at h;simp only[ku] at h⊢;cases hf:KI v.1 with
   |none=>rw[hf] at h;cases h
   |some f=>
    rw[hf] at h;simp only[kd] at h⊢;cases hb:JH v.1 v.2.1 c f s r with
    |none=>rw[hb] at h;cases h
    |some w=>
     rw[hb] at h;simp only[kd] at h⊢;cases hw:w.2.2 !=0 with
     |true=>rw[hw] at h;cases h;rfl
     |false=>
      rw[hw] at h;cases h;simp only[ku,hr,kp,hk,Sum.elim_inr]
theorem All_end {x:Scan} {c:List qF} {s:Saw} {r:Rates} {l m:Int} (n:Nat) (out:List qI):jT x c s r l m (n+1) out 4=some (.inr out):=by
 rw[jT,show decide ((4:Int)<4)=false from rfl];rfl
theorem qYt {x:Scan} {c:List qF} {s:Saw} {r:Rates} {l m:Int} {o0 o1 o2 o3:Int⊕(Pattern×Int)} (h0:qID (wS x 0 l m) c s r=some o0) (h1:qID (wS x 1 l m) c s r=some o1) (h2:qID (wS x 2 l m) c s r=some o2) (h3:qID (wS x 3 l m) c s r=some o3):QJ x c s r l m=some (qN6 o0 o1 o2 o3):=by
 unfold QJ;have hf:FUEL=9223372036854775803+1+1+1+1+1:=FUEL_eq;generalize 9223372036854775803=n at hf;rw[hf,qH2 (k':=1) rfl rfl h0 _ [] rfl];cases o0 with
 |inl e=>rfl
 |inr p0=>
  simp only[Sum.elim_inr];rw[qH2 (k:=1) (k':=2) rfl rfl h1 _ _ rfl];cases o1 with
  |inl e=>rfl
  |inr p1=>
   simp only[Sum.elim_inr];rw[qH2 (k:=2) (k':=3) rfl rfl h2 _ _ rfl];cases o2 with
   |inl e=>rfl
   |inr p2=>
    simp only[Sum.elim_inr];rw[qH2 (k:=3) (k':=4) rfl rfl h3 _ _ rfl];cases o3 with
    |inl e=>rfl
    |inr p3=>
     simp only[Sum.elim_inr];rw[All_end];rfl
def qNS (l:List qI) (n:Nat) (t:qI):Prop:=∃i,i<n/\t=l.getD i dd/\(∀j,j<n->(l.getD j dd).Value<=t.Value)/\∀j,j<i->(l.getD j dd).Value<t.Value
theorem qYw {x:Scan} {c:List qF} {s:Saw} {r:Rates} {l m:Int} {A:List qI×Int} (h:QJ x c s r l m=some A) (hA:A.2=0->A.1.length=4):T (λb=>b.2=A.2/\(A.2=0->qNS A.1 4 b.1)/\(A.2≠0->b.1=⟨0,⟨⟨⟨0,0⟩,⟨0,0⟩⟩,[]⟩,0⟩)) (yW x c s r l m):=by
 unfold yW;rw[h];refine T.ne (λh=>T.rt ⟨rfl,λq=>absurd q h,λ_=>rfl⟩) λh0=>?_;have h4:=hA h0;refine T.gi (by omega) (T.gs (by omega) ((T.lp (Q:=λo:Int×Int×Int×Int×Int×List Node×Int=>∃t,qNS A.1 4 t/\o=(t.Quarters,t.Pattern.Frame.X.A,t.Pattern.Frame.X.B,t.Pattern.Frame.Y.A,t.Pattern.Frame.Y.B,t.Pattern.Nodes,t.Value)) 3 (by decide) (λn t i=>JG A n i t) (λx t=>qNS A.1 (x+1) t) (kv _) (λn x t hx hi ih=>?_) (s:=A.1.getD 0 dd) ⟨0,by decide,rfl,λj hj=>?_,λj hj=>by omega⟩).bd λo ⟨t,ht,e⟩=>T.rt ⟨h0.symm,λ_=>by rw[e];exact ht,λq=>absurd h0 q⟩))
 rotate_left
 ·obtain rfl:j=0:=by omega
  exact kV _
 show T _ (JG A (n+1) x t);rw[JG];refine T.cp (λh=>T.gi ⟨by omega,h⟩ (T.gb (by rw[show(1:Int).toNat=1 from rfl];omega) ?_)) λh=>T.rt ⟨t,?_,rfl⟩
 ·rw[show(1:Int).toNat=1 from rfl,h4] at h;have hx3:x<3:=by omega
  rw[ki,show(1:Int).toNat+x=x+1 by rw[show(1:Int).toNat=1 from rfl];omega];obtain⟨i,h1,h2,h3,h5⟩:=hi;refine T.cp (λhg=>ih (A.1.getD (x+1) dd) hx3 ⟨x+1,by omega,rfl,λj hj=>?_,λj hj=>?_⟩) λhg=>ih t hx3 ⟨i,by omega,h2,λj hj=>?_,h5⟩
  ·by_cases hc:j=x+1
   ·subst hc;exact kV _
   ·have:=h3 j (by omega);omega
  ·have:=h3 j (by omega);omega
  ·by_cases hc:j=x+1
   ·subst hc;omega
   ·exact h3 j (by omega)
 ·rw[show(1:Int).toNat=1 from rfl,h4] at h;obtain rfl:x=3:=by omega
  exact hi
theorem qB3 (c:qI) (h:c.Pattern.Nodes.length<=127):DY c ⟨c.Quarters,c.Pattern,c.Value⟩=some true:=by
 have L:KA c.Pattern c.Pattern FUEL 0=some (findN (λ_=>(none:Option Bool)) 0 c.Pattern.Nodes.length):=by
  refine qPI c.Pattern.Nodes.length (KA c.Pattern c.Pattern) _ 0 (by omega) (by omega) (λn i _ hi=>?_) (λn=>?_)
  ·rw[KA,kf (by omega),zU (by omega)];simp only[kp,ku,gz,Bool.and_self,um,wH (show i<4611686018427387904 by omega)]
  ·rw[KA,ko (by omega)];rfl
 rw[qH5.2 (λ_ _ _=>rfl)] at L;unfold DY qD1 qD5;simp only[gz,kp,Bool.and_self,um,ku,kQ,AR,L,kd,Sum.elim_inr,BS]
theorem qIE (a b c:Int):T tt (WO a b c):=by
 unfold WO;exact T.cp (λ_=>T.rt trivial) λ_=>T.rt (a:=false) trivial
theorem tRChk (s:Saw) (r:Rates):T tt (ET s r):=by
 have k2:∀b,T tt (VY b):=λb=>T.cd (λ_=>T.rt trivial) λ_=>T.rt trivial;have k1:∀b,T tt (KZ r b):=λb=>T.cd (λ_=>T.rt trivial) λ_=>(qIE _ _ _).bd λ_ _=>T.cd (λ_=>k2 _) λ_=>(qIE _ _ _).bd λ_ _=>T.cd (λ_=>k2 _) λ_=>(qIE _ _ _).bd λ_ _=>k2 _;unfold ET;exact(qIE _ _ _).bd λ_ _=>T.cd (λ_=>k1 _) λ_=>(qIE _ _ _).bd λ_ _=>T.cd (λ_=>k1 _) λ_=>(qIE _ _ _).bd λ_ _=>T.cd (λ_=>k1 _) λ_=>(qIE _ _ _).bd λ_ _=>k1 _
theorem tLight (a:zX) (m:zN):T tt (ER a m):=by
 unfold ER;refine T.cp (λ_=>T.rt (a:=false) trivial) λh1=>T.cp (λ_=>T.rt (a:=false) trivial) λh2=>?_;unfold GK
 refine T.cp (λ_=>T.rt trivial) λh3=>(T.lp (Q:=tt) a.Scan.Rings.length (by omega) (λn (_:Unit) i=>ZY a n i) (λ_ _=>True) (kv _) (λn x s hx _ ih=>?_) (s:=()) trivial).bd λu _=>T.el (λ_ _=>T.rt trivial) λ_ _=>(T.lp (Q:=tt) m.Products.length (by omega) (λn (_:Unit) i=>QR m n i) (λ_ _=>True) (kv _) (λn x s hx _ ih=>?_) (s:=()) trivial).bd λu _=>T.el (λ_ _=>T.rt trivial) λ_ _=>(tRChk _ _).bd λ_ _=>T.cd (λ_=>T.rt trivial) λ_=>T.cp (λ_=>T.rt trivial) λ_=>T.rt trivial
 ·show T tt (ZY a (n+1) x);rw[ZY];refine T.cp (λh=>T.gi (by omega) (T.cp (λ_=>T.rt (a:=(Sum.inl false:Bool⊕Unit)) trivial) λh4=>?_)) λ_=>T.rt trivial;unfold MZ;refine T.cp (λ_=>T.rt trivial) λ_=>(T.lp (Q:=tt) (a.Scan.Rings.getD x dd).Read.length (by rw[ki] at h4;omega) (λn (_:Unit) i=>yP a x n i) (λ_ _=>True) (kv _) (λm y s hy _ ih2=>?_) (s:=()) trivial).bd λu _=>T.el (λ_ _=>T.rt trivial) λ_ _=>ih () (by omega) trivial;show T tt (yP a x (m+1) y);rw[yP,ki];have no:T (tt:Bool⊕Unit->Prop) (some (.inl false)):=T.rt trivial
  refine T.gi (by omega) (T.cp (λh=>T.gi (by omega) (T.cp (λ_=>no) λ_=>T.cp (λ_=>no) λ_=>T.cp (λ_=>no) λ_=>?_)) λ_=>T.rt trivial);exact T.cp (λ_=>no) λ_=>ih2 () (by omega) trivial
 ·show T tt (QR m (n+1) x);rw[QR];have no:T (tt:Bool⊕Unit->Prop) (some (.inl false)):=T.rt trivial;refine T.cp (λh=>T.gi (by omega) (T.cp (λ_=>no) λ_=>T.cp (λ_=>no) λ_=>?_)) λ_=>T.rt trivial;exact T.cp (λ_=>no) λ_=>ih () (by omega) trivial
theorem all_bad {o0 o1 o2 o3:Int⊕(Pattern×Int)} (g0:CY o0) (g1:CY o1) (g2:CY o2) (g3:CY o3):(∃p0 p1 p2 p3,o0= .inr p0/\o1= .inr p1/\o2= .inr p2/\o3= .inr p3)\/((qN6 o0 o1 o2 o3).2≠0/\(qN6 o1 o2 o3 o0).2≠0):=by
 cases o0 with
 |inl e0=>
  refine .inr ⟨g0.1 _ rfl,?_⟩;cases o1 with
  |inl e=>exact g1.1 _ rfl
  |inr p=>cases o2 with
   |inl e=>exact g2.1 _ rfl
   |inr p=>cases o3 with
    |inl e=>exact g3.1 _ rfl
    |inr p=>exact g0.1 _ rfl
 |inr p0=>cases o1 with
  |inl e=>exact .inr ⟨g1.1 _ rfl,g1.1 _ rfl⟩
  |inr p1=>cases o2 with
   |inl e=>exact .inr ⟨g2.1 _ rfl,g2.1 _ rfl⟩
   |inr p2=>cases o3 with
    |inl e=>exact .inr ⟨g3.1 _ rfl,g3.1 _ rfl⟩
    |inr p3=>exact .inl ⟨p0,p1,p2,p3,rfl,rfl,rfl,rfl⟩
theorem qWG {p0 p1 p2 p3:qI} {t:qI} (h:qNS [p0,p1,p2,p3] 4 t):(p0.Value<=t.Value/\p1.Value<=t.Value/\p2.Value<=t.Value/\p3.Value<=t.Value)/\(t.Value=p0.Value\/t.Value=p1.Value\/t.Value=p2.Value\/t.Value=p3.Value):=by
 obtain⟨i,hi,e,h3,_⟩:=h;refine⟨⟨h3 0 (by decide),h3 1 (by decide),h3 2 (by decide),h3 3 (by decide)⟩,?_⟩;subst e
 match i,hi with
 |0,_=>exact .inl rfl
 |1,_=>exact .inr (.inl rfl)
 |2,_=>exact .inr (.inr (.inl rfl))
 |3,_=>exact .inr (.inr (.inr rfl))
theorem qWJ (o0 o1 o2 o3:Int⊕(Pattern×Int)) (g0:CY o0) (g1:CY o1) (g2:CY o2) (g3:CY o3):(qN6 o0 o1 o2 o3).2=0->(qN6 o0 o1 o2 o3).1.length=4:=λh=>by
 rcases all_bad g0 g1 g2 g3 with⟨p0,p1,p2,p3,rfl,rfl,rfl,rfl⟩|q
 ·rfl
 ·exact absurd h q.1
theorem TT_bad (aw:QN=some true) {A B:List qI×Int} {x y:qI×Int} (hA:A.2≠0) (hB:B.2≠0) (x1:x.2=A.2) (y1:y.2=B.2):wV A B x y true=some true:=by
 unfold wV;rw[show(A.2==0)=false from kR.2 hA,show(B.2==0)=false from kR.2 hB,x1,y1];simp only[kp,gz,aw,kd,QP]
theorem TT_L5 {A B:List qI×Int} (hA:A.1.length=4) (hB:B.1.length=4) (h:∀k,k<4->DY (B.1.getD k dd) ⟨k,(A.1.getD ((k+1) % 4) dd).Pattern,(A.1.getD ((k+1) % 4) dd).Value⟩=some true):yE A B FUEL 0=some (.inr ()):=by
 obtain⟨o,e,h⟩:=T.lp (Q:=λu:Bool⊕Unit=>u= .inr ()) 4 (by decide) (λn (_:Unit) i=>yE A B n i) (λ_ _=>True) (kv _) (λn k s hk _ ih=>by
  show T _ (yE A B (n+1) k);rw[yE];refine T.cp (λhk'=>?_) λ_=>T.rt rfl;have hm:Int.tmod (w64 ((k:Int)+1)) 4=(((k+1) % 4:Nat):Int):=by rw[wH (by omega),gu (by omega)];omega
  rw[hm,hA,hB];refine T.gi (by omega) (T.gi (by omega) ?_);rw[ki,ki,h k (by omega)];exact ih () (by omega) trivial) (s:=()) trivial
 rw[h] at e;exact e
theorem TT_ok (aw:QN=some true) {A B:List qI×Int} {x y:qI×Int} (hA:A.1.length=4) (hB:B.1.length=4) (x1:x.2=0) (y1:y.2=0) (hv:x.1.Value=y.1.Value) (h:∀k,k<4->DY (B.1.getD k dd) ⟨k,(A.1.getD ((k+1) % 4) dd).Pattern,(A.1.getD ((k+1) % 4) dd).Value⟩=some true):wV A B x y false=some true:=by
 unfold wV;rw[hA,hB,x1,y1,hv];simp only[ku,kQ];rw[show(((4:Nat):Int) !=4)=false from rfl];unfold yD;rw[TT_L5 hA hB h];simp only[ku,kd,Sum.elim_inr,aw]
theorem TT_k1 (aw:QN=some true) {a:zX} {m:zN} {t:Scan} {A B:List qI×Int} {x y:qI×Int} (e:ZE a.Scan 1=some t) (hA:QJ a.Scan m.Products m.Saw m.Rates a.Limit a.Most=some A) (hB:QJ t m.Products m.Saw m.Rates a.Limit a.Most=some B) (hx:yW a.Scan m.Products m.Saw m.Rates a.Limit a.Most=some x) (hy:yW t m.Products m.Saw m.Rates a.Limit a.Most=some y)
  (h:(A.2≠0/\wV A B x y true=some true)\/(A.2=0/\B.2=0/\wV A B x y false=some true)):jE a m false=some true:=by
 unfold jE;rw[e];simp only[ku,kd,hA,hB,hx,hy];rcases h with⟨h1,h2⟩|⟨h1,h2,h3⟩
 ·rw[show(A.2 !=0)=true from gx.2 h1];exact h2
 ·rw[h1,h2];exact h3
theorem qZr (aw:QN=some true) (a:zX) (m:zN) (v:V15 a.Scan):jE a m false=some true:=by
 obtain⟨t,u0,e1,v1,f0,w0,g0⟩:=qFq v 1 0;obtain⟨_,u1,e1',_,f1,w1,g1⟩:=qFq v 1 1;obtain⟨_,u2,e2',_,f2,w2,g2⟩:=qFq v 1 2;obtain⟨_,u3,e3',_,f3,w3,g3⟩:=qFq v 1 3;obtain rfl:=kC (e1.symm.trans e1');obtain rfl:=kC (e1.symm.trans e2');obtain rfl:=kC (e1.symm.trans e3');have g4:=qX4 v 0;rw[show(1:Int)+0=1 from rfl] at g0;rw[show(1:Int)+1=2 from rfl] at g1;rw[show(1:Int)+2=3 from rfl] at g2;rw[show(1:Int)+3=4 from rfl] at g3;rw[show(0:Int)+4=4 from rfl,g3] at g4;have P0:=LI a.Limit a.Most _ g4.symm w3.small;have P1:=LI a.Limit a.Most _ g0 w0.small;have P2:=LI a.Limit a.Most _ g1 w1.small
 have P3:=LI a.Limit a.Most _ g2 w2.small;have R0:=LI a.Limit a.Most _ f0 w0.small;have R1:=LI a.Limit a.Most _ f1 w1.small;have R2:=LI a.Limit a.Most _ f2 w2.small;have R3:=LI a.Limit a.Most _ f3 w3.small;obtain⟨o0,h0,d0⟩:=qS7 (qEg u3 a.Limit a.Most) m.Products m.Saw m.Rates;obtain⟨o1,h1,d1⟩:=qS7 (qEg u0 a.Limit a.Most) m.Products m.Saw m.Rates;obtain⟨o2,h2,d2⟩:=qS7 (qEg u1 a.Limit a.Most) m.Products m.Saw m.Rates;obtain⟨o3,h3,d3⟩:=qS7 (qEg u2 a.Limit a.Most) m.Products m.Saw m.Rates;have A:=qYt (by rw[P0];exact h0) (by rw[P1];exact h1) (by rw[P2];exact h2) (by rw[P3];exact h3)
 have B:=qYt (by rw[R0];exact h1) (by rw[R1];exact h2) (by rw[R2];exact h3) (by rw[R3];exact h0);obtain⟨x,X,x1,x2,_⟩:=qYw A (qWJ _ _ _ _ d0 d1 d2 d3);obtain⟨y,Y,y1,y2,_⟩:=qYw B (qWJ _ _ _ _ d1 d2 d3 d0);refine TT_k1 aw e1 A B X Y ?_;rcases all_bad d0 d1 d2 d3 with⟨p0,p1,p2,p3,rfl,rfl,rfl,rfl⟩|⟨q1,q2⟩
 ·have x2:=qWG (x2 rfl);have y2:=qWG (y2 rfl);refine .inr ⟨rfl,rfl,TT_ok aw rfl rfl x1 y1 (by simp only at x2 y2;omega) λk hk=>?_⟩
  match k,hk with
  |0,_=>exact qB3 ⟨0,p1.1,p1.2⟩ (d1.2 _ rfl)
  |1,_=>exact qB3 ⟨1,p2.1,p2.2⟩ (d2.2 _ rfl)
  |2,_=>exact qB3 ⟨2,p3.1,p3.2⟩ (d3.2 _ rfl)
  |3,_=>exact qB3 ⟨3,p0.1,p0.2⟩ (d0.2 _ rfl)
 ·exact .inl ⟨q1,TT_bad aw q1 q2 x1 y1⟩
theorem qQG (aw:QN=some true) (a:zX) (m:zN):KH a m=some true:=by
 unfold KH;obtain⟨b,e,_⟩:=tLight a m;rw[e];simp only[kd];have k1:jE a m true=some true:=by unfold jE;simp only[kp,aw,kd]
 cases b with
 |false=>simp only[gL,kp,k1]
 |true=>
  simp only[um,ku];rw[qXI];simp only[kd];by_cases c:HS a.Scan=0
  ·rw[c];simp only[kQ];exact qZr aw a m ((qIs _).1 c)
  ·rw[show(HS a.Scan !=0)=true from gx.2 c,k1]
end Saw
end Go.SL

namespace Go.SL.Saw
def bm :Scan:=⟨[⟨0,[⟨⟨60,30⟩,true⟩,⟨⟨0,30⟩,true⟩,⟨⟨-60,30⟩,true⟩,⟨⟨-60,0⟩,true⟩,⟨⟨-60,-30⟩,true⟩,⟨⟨0,-30⟩,true⟩,⟨⟨60,-30⟩,true⟩,⟨⟨60,0⟩,true⟩]⟩,⟨3000,[⟨⟨60,30⟩,true⟩,⟨⟨0,30⟩,true⟩,⟨⟨-60,30⟩,true⟩,⟨⟨-60,0⟩,true⟩,⟨⟨-60,-30⟩,true⟩,⟨⟨0,-30⟩,true⟩,⟨⟨60,-30⟩,true⟩,⟨⟨60,0⟩,true⟩]⟩],[]⟩
def sl0 :List qN:=[⟨3000,⟨-3,[⟨-60,60⟩,⟨-60,60⟩,⟨-60,60⟩,⟨-60,60⟩,⟨-60,60⟩,⟨-60,60⟩]⟩⟩]
def sl1 :List qN:=[⟨3000,⟨-6,[⟨-30,30⟩,⟨-30,30⟩,⟨-30,30⟩,⟨-30,30⟩,⟨-30,30⟩,⟨-30,30⟩,⟨-30,30⟩,⟨-30,30⟩,⟨-30,30⟩,⟨-30,30⟩,⟨-30,30⟩,⟨-30,30⟩]⟩⟩]
def f0 :Rect:=⟨⟨-60,60⟩,⟨-30,30⟩⟩
def f1 :Rect:=⟨⟨-30,30⟩,⟨-60,60⟩⟩
def c25 :List qF:=[⟨ByteArray.mk #[112,108,97,110,107],50,100,0,0,[3000],[80]⟩]
def w25 :Saw:=⟨4,0,10,1000⟩
def r25 :Rates:=⟨0,0,0⟩
def nd0 :List Node:=[⟨2,40⟩,⟨1,0⟩,⟨0,0⟩]
def nd1 :List Node:=[⟨2,20⟩,⟨1,0⟩,⟨0,0⟩]
def z60 :List Int:=List.replicate 60 0
def z120 :List Int:=List.replicate 120 0
def g0r :List Int:=[80000000,-1,-1,-1,-1,-1,-1,-1,-1,-1,80000000]
def g1r :List Int:=[80000000,-1,-1,-1,-1,-1,-1,-1,-1,-1,80000000,-1,-1,-1,-1,-1,-1,-1,-1,-1,80000000]
def LP0 :Line:=⟨60,4,1,[50,100],[g0r,[]],z60,z60⟩
def LP1 :Line:=⟨120,4,1,[50,100],[List.replicate 71 (-1),g1r],z120,z120⟩
def pt0 :List Node:=[⟨3,20⟩,⟨2,40⟩,⟨1,0⟩,⟨0,0⟩,⟨0,0⟩]
def pt1 :List Node:=[⟨3,40⟩,⟨2,20⟩,⟨1,0⟩,⟨0,0⟩,⟨0,0⟩]
theorem beam_eq :DQ=some bm:=by kernel_rfl
end Go.SL.Saw

namespace Go.SL.Saw
theorem place_0 :wS bm 0 200 2=some (sl0,[],0):=by kernel_rfl
theorem qWW :wS bm 1 200 2=some (sl1,[],0):=by kernel_rfl
theorem place_2 :wS bm 2 200 2=some (sl0,[],0):=by kernel_rfl
theorem place_3 :wS bm 3 200 2=some (sl1,[],0):=by kernel_rfl
theorem fr_0 :KI sl0=some f0:=by kernel_rfl
theorem fr_1 :KI sl1=some f1:=by kernel_rfl
theorem ck_0 :TL sl0 [] c25 f0 w25 r25=some 0:=by kernel_rfl
theorem ck_1 :TL sl1 [] c25 f1 w25 r25=some 0:=by kernel_rfl
theorem rest_0 :WP f0 (LP0,[[nd0,[],[],[],[],[],[],[],[],[],nd0],[]]) ([⟨0,0⟩],80000000,0) FUEL [] [] 0=some ([⟨-30,20⟩],[nd0]):=by kernel_rfl
theorem rest_1 :WP f1 (LP1,[List.replicate 71 ([]:List Node),[nd1,[],[],[],[],[],[],[],[],[],nd1,[],[],[],[],[],[],[],[],[],nd1]]) ([⟨1,0⟩],80000000,0) FUEL [] [] 0=some ([⟨-60,40⟩],[nd1]):=by kernel_rfl
theorem row_0 :WG f0 3 4 [⟨-30,20⟩] [nd0]=some (pt0,0):=by kernel_rfl
theorem row_1 :WG f1 3 4 [⟨-60,40⟩] [nd1]=some (pt1,0):=by kernel_rfl
theorem vol_0 :YY sl0=some 21600000:=by kernel_rfl
theorem vol_1 :YY sl1=some 21600000:=by kernel_rfl
theorem whole_0 :KQ sl0 f0=some 21600000:=by kernel_rfl
theorem whole_1 :KQ sl1 f1=some 21600000:=by kernel_rfl
theorem short_0 :yW ⟨[],[]⟩ c25 w25 r25 200 2=some (⟨0,⟨⟨⟨0,0⟩,⟨0,0⟩⟩,[]⟩,0⟩,3):=by kernel_rfl
end Go.SL.Saw

namespace Go.SL.Saw
theorem cut_0 :jU LP0=some ([⟨0,0⟩],80000000,0):=by kernel_rfl
end Go.SL.Saw

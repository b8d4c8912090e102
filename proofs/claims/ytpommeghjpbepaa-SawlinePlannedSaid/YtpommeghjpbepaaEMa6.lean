/- Yields: the parts of a log. -/
import Derived.Test.YtpommeghjpbepaaEMa5
set_option linter.unusedVariables false
set_option linter.unusedSimpArgs false
namespace Go.SL.Saw
variable {s :List qG} {d:List qJ} {p:List Product} {pt:Pattern} {w:Saw} {t:Rates}
theorem brd_trm (_hs:VSol s) {trim:Int} (ht:0<=trim) {c:qI} (hc:LH s c):brdV s c+trmV s trim c<=yZ s ⟨c.Box.X,c.Box.Y⟩:=by
 obtain⟨z1,z2,z3⟩:=hc.z;unfold brdV trmV ES qAB yZ;have m1:=GR 0 (c.Box.Z.A-trim);have m2:=imin_or (c.Box.Z.B+trim) (qY s);have e1:=qGe s c.Box.X c.Box.Y (A:=imax 0 (c.Box.Z.A-trim)) (m:=c.Box.Z.A) (B:=c.Box.Z.B) (by omega) (by omega);have e2:=qGe s c.Box.X c.Box.Y (A:=imax 0 (c.Box.Z.A-trim)) (m:=c.Box.Z.B) (B:=imin (c.Box.Z.B+trim) (qY s)) (by omega) (by omega);have e3:=qOs s c.Box.X c.Box.Y (A:=imax 0 (c.Box.Z.A-trim)) (B:=imin (c.Box.Z.B+trim) (qY s)) (C:=0) (D:=qY s) (by omega) (by omega);have ez:c.Box.Z=⟨c.Box.Z.A,c.Box.Z.B⟩:=rfl;rw[ez];simp only;omega
theorem qMk {ε:Type} (N:Nat) (L:Nat->Int->Option (ε⊕Unit)) (hN:N<=1000000000) (h0:∀n i,i<N->L (n+1) (i:Int)=L n ((i+1:Nat):Int)) (h1:∀n,L (n+1) (N:Int)=some (.inr ())):L FUEL 0=some (.inr ()):=by
 have key:∀(k i n:Nat),i+k=N->k<n->L n (i:Int)=some (.inr ()):=by
  intro k
  induction k with
  |zero=>
   intro i n hi hn;obtain⟨n,rfl⟩:∃m,n=m+1:=⟨n-1,by omega⟩
   have:i=N:=by omega
   subst this;exact h1 n
  |succ k ih=>
   intro i n hi hn;obtain⟨n,rfl⟩:∃m,n=m+1:=⟨n-1,by omega⟩
   rw[h0 n i (by omega)];exact ih (i+1) n (by omega) (by omega)
 exact key N 0 FUEL (by omega) (by rw[yU];omega)
end Go.SL.Saw

namespace Go.SL.Saw
variable {s :List qG} {d:List qJ} {p:List Product}
theorem wV {α:Type} [Inhabited α] (l:List α) (i:Nat) (f:α->α):(updL l i f).length=l.length:=by unfold updL;rw[List.length_set]
theorem qBL {α:Type} [Inhabited α] {l:List α} {i:Nat} (f:α->α) (h:i<l.length):(updL l i f).getD i du=f (l.getD i du):=by
 unfold updL;rw[kd,uO h];rfl
theorem qLV {α:Type} [Inhabited α] {l:List α} {i k:Nat} (f:α->α) (h:k≠i):(updL l i f).getD k du=l.getD k du:=by
 unfold updL;rw[kd,uW (Ne.symm h),<-kd]
theorem qNO {α:Type} [Inhabited α] {l:List α} {i:Nat} (f g:α->α) (h:i<l.length):updL (updL l i f) i g=updL l i (λx=>g (f x)):=by
 show(updL l i f).set i (g ((updL l i f).getD i du))=l.set i (g (f (l.getD i du)));rw[qBL f h];unfold updL;rw[List.set_set]
def FZ (r q:Rect):Bool:=decide (r.X.B-r.X.A<q.X.B-q.X.A)||decide (r.Y.B-r.Y.A<q.Y.B-q.Y.A)
def brdR (r q:Rect):Rect:=⟨⟨r.X.A,r.X.A+(q.X.B-q.X.A)⟩,⟨r.Y.A,r.Y.A+(q.Y.B-q.Y.A)⟩⟩
def BW (s:List qG) (d:List qJ) (p:List Product) (step fine:Int) (r:Rect) (y:qA):Int×Bool×Span:=bestR s d (p.getD y.at_.toNat du) (brdR r y.planned) step fine
def giv (s:List qG) (d:List qJ) (p:List Product) (step fine:Int) (r:Rect) (y:qA):Bool:=y.kind==1&&(!FZ r y.planned&&(BW s d p step fine r y).2.1)
def brd (s:List qG) (d:List qJ) (p:List Product) (step fine:Int) (r:Rect) (y:qA):qI:=⟨y.leaf,y.at_,⟨(brdR r y.planned).X,(brdR r y.planned).Y,(BW s d p step fine r y).2.2⟩,(BW s d p step fine r y).1⟩
def stN (s:List qG) (d:List qJ) (p:List Product) (step fine:Int) (r:Rect) (y:qA):qA:=
 bif giv s d p step fine r y then⟨y.kind,y.at_,y.first,y.second,true,r,y.leaf,y.planned,true,brd s d p step fine r y⟩ else⟨y.kind,y.at_,y.first,y.second,true,r,y.leaf,y.planned,y.gives,y.board⟩
def qJs (p:List Product) (y:qA):Prop:=y.kind=1->qD3 p ⟨y.planned,y.at_⟩/\y.at_≠-1
theorem qIS {r q:Rect} (h:FZ r q=false):q.X.B-q.X.A<=r.X.B-r.X.A/\q.Y.B-q.Y.A<=r.Y.B-r.Y.A:=by
 unfold FZ at h;simp only[uj,decide_eq_false_iff_not] at h;omega
theorem qLK {r q:Rect} (hw:WR r) (hq:VR q) (h:FZ r q=false):VR (brdR r q)/\subR (brdR r q) r:=by
 obtain⟨⟨x1,x2,x3⟩,y1,y2,y3⟩:=hw;obtain⟨⟨a1,a2,a3⟩,b1,b2,b3⟩:=hq;obtain⟨n1,n2⟩:=qIS h;unfold brdR VR subR subS;simp only;omega
theorem qCa (j:Nat) (r:Rect) (N:List qA) (e1 e2 e3 step e5 e6 fine e8:Int) (ri:List Int) (sw:List Rect) (hj:j<N.length) (hs:VSol s) (hd:LK d=0) (hp:ZL p=0) (hst:1<=step/\step<=20000) (hf:0<=fine/\fine<=1000000) (hw:WR r) (hg:qJs p (N.getD j du)):
  ZU (j:Int) r s d p e1 e2 e3 step e5 e6 fine e8 ri N=some (updL N j (stN s d p step fine r))/\wA (j:Int) r s d p e1 e2 e3 step e5 e6 fine e8 ri N sw=some (updL N j (stN s d p step fine r)):=by
 obtain⟨⟨x1,x2,x3⟩,y1,y2,y3⟩:=hw;have hst':∀y:qA,stN s d p step fine r y=if giv s d p step fine r y=true then⟨y.kind,y.at_,y.first,y.second,true,r,y.leaf,y.planned,true,brd s d p step fine r y⟩ else⟨y.kind,y.at_,y.first,y.second,true,r,y.leaf,y.planned,y.gives,y.board⟩:=λy=>by
  unfold stN;cases giv s d p step fine r y<;>rfl
 unfold ZU wA YR WO;rw[zJ (by omega)];simp only[ks,kn,qNO _ _ hj,qBL _ hj,kp];unfold updL;rw[hst'];generalize N.getD j du=y at hg;by_cases c:y.kind=1
 ·obtain⟨gl,ga⟩:=hg c;obtain⟨g1,g2,g3,g4,gv,g6⟩:=qEd hp gl ga;have hvr:VR y.planned:=gv;replace g1:0<=y.at_:=g1;replace g2:y.at_<(p.length:Int):=g2;have h9:=hvr;unfold VR at h9;obtain⟨⟨a1,a2,a3⟩,b1,b2,b3⟩:=h9;have ck:(y.kind !=1)=false:=by simp[c]
  rw[ck,qU (n:=r.X.B-r.X.A) (by omega),qU (n:=r.Y.B-r.Y.A) (by omega),qU (n:=y.planned.X.B-y.planned.X.A) (by omega),qU (n:=y.planned.Y.B-y.planned.Y.A) (by omega)];simp only[kp];cases cs:FZ r y.planned with
  |true=>
   have hgv:giv s d p step fine r y=false:=by unfold giv;rw[cs];simp
   rw[hgv];unfold FZ at cs;cases c1:decide (r.X.B-r.X.A<y.planned.X.B-y.planned.X.A) with
   |true=>simp
   |false=>rw[c1] at cs;simp only[uq] at cs;rw[cs];simp
  |false=>
   obtain⟨hv,hsb⟩:=qLK ⟨⟨x1,x2,x3⟩,y1,y2,y3⟩ hvr cs;have cs':=cs;unfold FZ at cs;rw[uj] at cs;rw[cs.1,cs.2];obtain⟨n1,n2⟩:=qIS cs';rw[qU (n:=r.X.A+(y.planned.X.B-y.planned.X.A)) (by omega),qU (n:=r.Y.A+(y.planned.Y.B-y.planned.Y.A)) (by omega)];have eb:=qKR hs hd g4 g3 hv hst hf;unfold brdR at eb;simp only[kp];rw[qGd g1 g2,kn,eb];simp only[kg];have hgv:giv s d p step fine r y=(BW s d p step fine r y).2.1:=by unfold giv;rw[cs',c];simp
   rw[hgv];have hbb:(bestR s d (p.getD y.at_.toNat du) ⟨⟨r.X.A,r.X.A+(y.planned.X.B-y.planned.X.A)⟩,⟨r.Y.A,r.Y.A+(y.planned.Y.B-y.planned.Y.A)⟩⟩ step fine)=BW s d p step fine r y:=rfl;rw[hbb];unfold brd;cases hb:(BW s d p step fine r y).2.1<;>simp[brdR]
 ·have ck:(y.kind !=1)=true:=by simpa using c
  have hgv:giv s d p step fine r y=false:=by
   unfold giv;have:(y.kind==1)=false:=by simpa using c
   rw[this,Bool.false_and]
  rw[ck,hgv];simp
end Go.SL.Saw

namespace Go.SL.Saw
structure G29 where
  s:List qG
  d:List qJ
  p:List Product
  step:Int
  fine:Int
  kerf:Int
  trim:Int
  pl:Bool
structure Ok29 (g:G29):Prop where
  hs:VSol g.s
  hd:LK g.d=0
  hp:ZL g.p=0
  hst:1<=g.step/\g.step<=20000
  hf:0<=g.fine/\g.fine<=1000000
  hk:0<=g.kerf/\g.kerf<=20
  ht:0<=g.trim/\g.trim<=20
def G29.giv (g:G29) (r:Rect) (y:qA):Bool:=Saw.giv g.s g.d g.p g.step g.fine r y
def G29.brd (g:G29) (r:Rect) (y:qA):qI:=Saw.brd g.s g.d g.p g.step g.fine r y
def G29.stN (g:G29) (r:Rect) (y:qA):qA:=Saw.stN g.s g.d g.p g.step g.fine r y
def G29.mu (g:G29) (r:Rect):Int:=yZ g.s r
def G29.bt (g:G29) (c:qI):Int:=brdV g.s c+trmV g.s g.trim c
def G29.used (g:G29) (S O:List Rect) (B:List qI):Int:=sumL g.mu S+sumL g.mu O+sumL g.bt B
theorem G29.mu_nn (g:G29) (r:Rect):0<=g.mu r:=qKs _ _
theorem G29.mu_add (g:G29):AddR g.mu:=qND g.s
def nAt (N:List qA) (i:Nat):qA:=N.getD i du
def szT (t:T):Nat:=(wO t).length
theorem KT (n:Node):szT (.leaf n)=1:=rfl
theorem wQ (n:Node) (a b:T):szT (.rip n a b)=1+szT a+szT b:=by simp[szT,wO];omega
theorem YW (t:T):1<=szT t:=qMx t
structure EE (y z:qA):Prop where
  k:z.kind=y.kind
  a:z.at_=y.at_
  f:z.first=y.first
  s:z.second=y.second
  l:z.leaf=y.leaf
  p:z.planned=y.planned
theorem EE.rfl' (y:qA):EE y y:=⟨rfl,rfl,rfl,rfl,rfl,rfl⟩
theorem qCm (g:G29) (r:Rect) (y:qA):EE y (g.stN r y):=by
  unfold G29.stN Saw.stN;cases Saw.giv g.s g.d g.p g.step g.fine r y<;>exact⟨rfl,rfl,rfl,rfl,rfl,rfl⟩
theorem qIC (g:G29) {y z:qA} (h:EE y z) (r:Rect):BW g.s g.d g.p g.step g.fine r z=BW g.s g.d g.p g.step g.fine r y:=by
  unfold BW;rw[h.a,h.p]
theorem qNQ (g:G29) {y z:qA} (h:EE y z) (r:Rect):g.giv r z=g.giv r y:=by
  unfold G29.giv Saw.giv;rw[qIC g h,h.k,h.p]
theorem qN2 (g:G29) {y z:qA} (h:EE y z) (r:Rect):g.brd r z=g.brd r y:=by
  unfold G29.brd Saw.brd;rw[qIC g h,h.l,h.a,h.p]
theorem qGm (g:G29) (r:Rect) (y:qA):(g.stN r y).stands=true/\(g.stN r y).rect=r/\(y.gives=false->(g.stN r y).gives=g.giv r y)/\(g.giv r y=true->(g.stN r y).board=g.brd r y):=by
  unfold G29.stN Saw.stN G29.giv G29.brd;cases h:Saw.giv g.s g.d g.p g.step g.fine r y with
  |false=>exact⟨rfl,rfl,λh=>h,λh=>by cases h⟩
  |true=>exact⟨rfl,rfl,λ_=>rfl,λ_=>rfl⟩
def Lay (kerf:Int) (N:List qA):T->Nat->Nat->qB->Prop
  | .leaf n,i,l,x=>i<N.length/\(nAt N i).kind=n.Kind/\(nAt N i).at_=n.At/\(nAt N i).leaf=(l:Int)/\(nAt N i).planned=x.rect
  | .rip n a b,i,l,x=>i<N.length/\(nAt N i).kind=n.Kind/\(nAt N i).at_=n.At/\(nAt N i).first=((i+1:Nat):Int)/\(nAt N i).second=((i+1+szT a:Nat):Int)/\
      Lay kerf N a (i+1) l ⟨fiP x.rect n,x.level+1⟩/\Lay kerf N b (i+1+szT a) (l+(lvT kerf a ⟨fiP x.rect n,x.level+1⟩).length) ⟨seP x.rect n kerf,x.level+1⟩
theorem Lay.to {kerf:Int} {N N':List qA} (hl:N'.length=N.length) (h:∀k,EE (nAt N k) (nAt N' k)):∀{t:T} {i l:Nat} {x:qB},Lay kerf N t i l x->Lay kerf N' t i l x
  | .leaf n,i,l,x,⟨h1,h2,h3,h4,h5⟩=>⟨by omega,by rw[(h i).k,h2],by rw[(h i).a,h3],by rw[(h i).l,h4],by rw[(h i).p,h5]⟩
  | .rip n a b,i,l,x,⟨h1,h2,h3,h4,h5,h6,h7⟩=>⟨by omega,by rw[(h i).k,h2],by rw[(h i).a,h3],by rw[(h i).f,h4],by rw[(h i).s,h5],Lay.to hl h h6,Lay.to hl h h7⟩
theorem Lay.lt {kerf:Int} {N:List qA}:∀{t:T} {i l:Nat} {x:qB},Lay kerf N t i l x->i+szT t<=N.length
  | .leaf n,i,l,x,h=>by rw[KT];have:=h.1;omega
  | .rip n a b,i,l,x,h=>by rw[wQ];have:=Lay.lt h.2.2.2.2.2.2;omega
def Un (N:List qA) (i k:Nat):Prop:=∀j,i<=j->j<i+k->(nAt N j).stands=false/\(nAt N j).gives=false
theorem Un.to {N N':List qA} {i k:Nat} (h:Un N i k) (he:∀j,i<=j->j<i+k->nAt N' j=nAt N j):Un N' i k:=λj h1 h2=>by rw[he j h1 h2];exact h j h1 h2
theorem Un.sub {N:List qA} {i k i' k':Nat} (h:Un N i k) (h1:i<=i') (h2:i'+k'<=i+k):Un N i' k':=λj a b=>h j (by omega) (by omega)
def St29 (g:G29) (N:List qA) (h:Nat):T->Nat->Rect->List Rect->List Rect->List qI->Prop
  | .leaf _,i,r,S,O,B=>(nAt N i).stands=true/\(nAt N i).rect=r/\(nAt N i).gives=g.giv r (nAt N i)/\(g.giv r (nAt N i)=true->(nAt N i).board=g.brd r (nAt N i))/\S=[]/\O=[]/\B=(bif g.giv r (nAt N i) then[g.brd r (nAt N i)] else[])
  | .rip n a b,i,r,S,O,B=>(nAt N i).stands=true/\(nAt N i).rect=r/\(nAt N i).gives=false/\
      ((h<=i/\Un N (i+1) (szT a+szT b)/\S=[]/\O=[r]/\B=[])\/
       (i<h/\∃(c:Int) (S1 S2 O1 O2:List Rect) (B1 B2:List qI),(((alP r n.Kind).A<c/\c<(alP r n.Kind).B)/\(g.pl=true->c=n.At))/\St29 g N h a (i+1) (fiP r ⟨n.Kind,c⟩) S1 O1 B1/\St29 g N h b (i+1+szT a) (seP r ⟨n.Kind,c⟩ g.kerf) S2 O2 B2/\S=cuP r ⟨n.Kind,c⟩ g.kerf::(S1++S2)/\O=O1++O2/\B=B1++B2))
theorem St29.to {g:G29} {N N':List qA} {h h':Nat}:∀{t:T} {i:Nat} {r:Rect} {S O:List Rect} {B:List qI},(∀k,i<=k->k<i+szT t->nAt N' k=nAt N k)->(∀k,i<=k->k<i+szT t->(k<h↔k<h'))->St29 g N h t i r S O B->St29 g N' h' t i r S O B
  | .leaf n,i,r,S,O,B,he,_,q=>by
    have:=he i (kf _) (by rw[KT];omega);unfold St29 at*;rw[this];exact q
  | .rip n a b,i,r,S,O,B,he,hh,q=>by
    rw[wQ] at he hh;have e0:=he i (kf _) (by omega);have h0:=hh i (kf _) (by omega);unfold St29 at*;rw[e0];obtain⟨q1,q2,q3,q4⟩:=q;refine⟨q1,q2,q3,?_⟩;rcases q4 with⟨u1,u2,u3⟩|⟨u1,c,S1,S2,O1,O2,B1,B2,u2,u3,u4,u5⟩
    · exact .inl ⟨by omega,u2.to λk k1 k2=>he k (by omega) (by omega),u3⟩
    · exact .inr ⟨by omega,c,S1,S2,O1,O2,B1,B2,u2,St29.to (λk k1 k2=>he k (by omega) (by omega)) (λk k1 k2=>hh k (by omega) (by omega)) u3,St29.to (λk k1 k2=>he k (by omega) (by omega)) (λk k1 k2=>hh k (by omega) (by omega)) u4,u5⟩
theorem St29.nocut {g:G29} {N:List qA} {h:Nat}:∀{t:T} {i:Nat} {r:Rect} {S O:List Rect} {B:List qI},h<=i->St29 g N h t i r S O B->S=[]
  | .leaf n,i,r,S,O,B,_,q=>q.2.2.2.2.1
  | .rip n a b,i,r,S,O,B,hi,q=>by
    rcases q.2.2.2 with⟨_,_,u,_⟩|⟨u,_⟩
    · exact u
    · omega
def QF :T->Nat->List Nat
  | .leaf _,_=>[]
  | .rip _ a b,i=>i::(QF a (i+1)++QF b (i+1+szT a))
theorem BP :∀{t:T} {i k:Nat},k∈QF t i->i<=k/\k<i+szT t
  | .leaf _,_,_,h=>(ut h).elim
  | .rip n a b,i,k,h=>by
    rw[wQ];rcases ud.1 h with rfl|h
    · omega
    · rcases uy.1 h with h|h
      · have:=BP h;omega
      · have:=BP h;omega
theorem qHT :∀(t:T) (i:Nat),(QF t i).Pairwise (·<·)
  | .leaf _,_=> .nil
  | .rip n a b,i=>by
    refine uN.2 ⟨λk hk=>?_,List.pairwise_append.2 ⟨qHT a _,qHT b _,λx hx y hy=>?_⟩⟩
    · rcases uy.1 hk with h|h
      · have:=BP h;omega
      · have:=BP h;omega
    · have:=BP hx;have:=BP hy;omega
def restT (h:Nat) (t:T) (i:Nat):List Nat:=(QF t i).filter (λk=>decide (h<=k))
theorem qLH {h i:Nat} {t:T} (hi:h<=i):restT h t i=QF t i:=List.filter_eq_self.2 λk hk=>ka (by have:=BP hk;omega)
theorem qCC {h i k:Nat} {t:T} (hk:k∈restT h t i):h<=k/\i<=k/\k<i+szT t:=by
  obtain⟨a,b⟩:=List.mem_filter.1 hk;have:=BP a;have:=kX b;omega
theorem qEI {h j:Nat}:∀{l tl:List Nat},l.Pairwise (·<·)->l.filter (λk=>decide (h<=k))=j::tl->l.filter (λk=>decide (j+1<=k))=tl
  |[],_,_,e=>by cases e
  | x::l,tl,hp,e=>by
    obtain⟨h1,h2⟩:=uN.1 hp;by_cases c:h<=x
    · rw[uX,if_pos (ka c)] at e;cases e;rw[uX,if_neg (by simp)];apply List.filter_congr;intro k hk;have:=h1 k hk;rw[ka (show j+1<=k from this),ka (by omega)]
    · rw[uX,if_neg (by simpa using c)] at e;have hj:j∈l.filter (λk=>decide (h<=k)):=by rw[e];exact kI
      have:=(List.mem_filter.1 hj).2;have:=kX this;rw[uX,if_neg (by simp;omega)];exact qEI h2 e
theorem qNj {h i j:Nat} {t:T} {tl:List Nat} (e:restT h t i=j::tl):restT (j+1) t i=tl:=qEI (qHT t i) e
theorem qCh {h i:Nat} {n:Node} {a b:T}:restT h (.rip n a b) i=if h<=i then i::(restT h a (i+1)++restT h b (i+1+szT a)) else restT h a (i+1)++restT h b (i+1+szT a):=by
  unfold restT;show List.filter _ (i::(QF a (i+1)++QF b (i+1+szT a)))=_;rw[uX,List.filter_append];by_cases c:h<=i
  · rw[if_pos (ka c),if_pos c]
  · rw[if_neg (by simpa using c),if_neg c]
end Go.SL.Saw

namespace Go.SL.Saw
variable {g :G29} {N:List qA}
theorem vol_sub (s:List qG) {a r:Rect} (ha:a.X.A<=a.X.B/\a.Y.A<=a.Y.B) (h:subR a r):yZ s a<=yZ s r:=by
 obtain⟨⟨x1,x2⟩,y1,y2⟩:=h;unfold yZ;have e1:=qKI s (A:=r.X.A) (m:=a.X.A) (B:=a.X.B) a.Y ⟨0,qY s⟩ x1 ha.1;have e2:=qKI s (A:=r.X.A) (m:=a.X.B) (B:=r.X.B) a.Y ⟨0,qY s⟩ (by omega) x2;have e3:=qJD s (A:=r.Y.A) (m:=a.Y.A) (B:=a.Y.B) r.X ⟨0,qY s⟩ y1 ha.2;have e4:=qJD s (A:=r.Y.A) (m:=a.Y.B) (B:=r.Y.B) r.X ⟨0,qY s⟩ (by omega) y2;have n1:=EK s ⟨r.X.A,a.X.A⟩ a.Y ⟨0,qY s⟩;have n2:=EK s ⟨a.X.B,r.X.B⟩ a.Y ⟨0,qY s⟩;have n3:=EK s r.X ⟨r.Y.A,a.Y.A⟩ ⟨0,qY s⟩;have n4:=EK s r.X ⟨a.Y.B,r.Y.B⟩ ⟨0,qY s⟩;have k1:volS s a.X a.Y ⟨0,qY s⟩=volS s ⟨a.X.A,a.X.B⟩ a.Y ⟨0,qY s⟩:=rfl
 have k2:volS s r.X a.Y ⟨0,qY s⟩=volS s ⟨r.X.A,r.X.B⟩ a.Y ⟨0,qY s⟩:=rfl;have k3:volS s r.X a.Y ⟨0,qY s⟩=volS s r.X ⟨a.Y.A,a.Y.B⟩ ⟨0,qY s⟩:=rfl;have k4:volS s r.X r.Y ⟨0,qY s⟩=volS s r.X ⟨r.Y.A,r.Y.B⟩ ⟨0,qY s⟩:=rfl;omega
theorem qKQ (ok:Ok29 g) {r:Rect} {y:qA} (hw:WR r) (hg:qJs g.p y) (h:g.giv r y=true):LH g.s (g.brd r y)/\g.bt (g.brd r y)<=g.mu r:=by
 unfold G29.giv giv at h;rw[ko,ko] at h;obtain⟨h1,h2,h3⟩:=h;have hk:y.kind=1:=by simpa using h1
 have hsm:FZ r y.planned=false:=by simpa using h2
 obtain⟨gl,ga⟩:=hg hk;obtain⟨_,_,g3,_,gv,_⟩:=qEd ok.hp gl ga;have bi:=qJ0 (l:=g.s) (ds:=g.d) (p:=g.p.getD y.at_.toNat du) (r:=brdR r y.planned) (step:=g.step) (fine:=g.fine) ok.hf.1 g3;obtain⟨hv,hsb⟩:=qLK hw (show VR y.planned from gv) hsm;have gc:LH g.s (g.brd r y):=⟨bi.2.2 h3,bi.1,bi.2.1⟩
 refine⟨gc,?_⟩;have b1:=brd_trm ok.hs ok.ht.1 gc;have b2:=vol_sub g.s (a:=brdR r y.planned) (r:=r) ⟨by have:=hv.1;omega,by have:=hv.2;omega⟩ hsb;have e:yZ g.s ⟨(g.brd r y).Box.X,(g.brd r y).Box.Y⟩=yZ g.s (brdR r y.planned):=rfl;unfold G29.bt G29.mu;omega
theorem qFw {n:Node} {x:qB} {i l:Nat} (hk:okT (QQ g.p) g.kerf (.leaf n) x) (hl:Lay g.kerf N (.leaf n) i l x) (hx:WR x.rect):qJs g.p (nAt N i):=by
 intro c;obtain⟨_,h1,h2,_,h4⟩:=hl;rw[h1] at c;rcases chkN_kind hk.1 hk.2 with⟨e,_⟩|⟨_,e⟩
 ·omega
 ·rw[h2,h4];refine⟨⟨hx,.inr e⟩,λq=>?_⟩;rw[q] at e;simp[QQ] at e
theorem qLD {n:Node} {a b:T} {x:qB} {i l:Nat} (hk:okT (QQ g.p) g.kerf (.rip n a b) x) (hl:Lay g.kerf N (.rip n a b) i l x):¬(nAt N i).kind=1:=by
 rw[hl.2.1];rcases ripB_iff.1 hk.1 with e|e<;>omega
theorem qHx {n:Node} {a b:T} {x:qB} {kerf:Int} {bd:Rect->Int->Int} (hk:0<=kerf/\kerf<=20) (h:okT bd kerf (.rip n a b) x) (hx:WR x.rect):WR (fiP x.rect n)/\WR (seP x.rect n kerf):=by
 have:=(cut3 h.1 hx (qBP h.1 h.2.1) hk).1;exact⟨this.wf,this.ws⟩
theorem St29.fresh (ok:Ok29 g) {N':List qA} {h:Nat} {r:Rect} (hw:WR r):∀{t:T} {i l:Nat} {x:qB},okT (QQ g.p) g.kerf t x->WR x.rect->Lay g.kerf N t i l x->Un N i (szT t)->h<=i->(∀k,i<k->k<i+szT t->nAt N' k=nAt N k)->nAt N' i=g.stN r (nAt N i)->
  ∃O B,St29 g N' h t i r [] O B/\g.used [] O B<=g.mu r/\sumL g.mu O<=g.mu r
 | .leaf n,i,l,x,hk,hx,hl,hu,hi,he,h0=>by
  have hs:=qCm g r (nAt N i);obtain⟨s1,s2,s3,s4⟩:=qGm g r (nAt N i);have hg:=(hu i (kf _) (by rw[KT];omega)).2;have eg:=qNQ g hs r;have eb:=qN2 g hs r;refine⟨[],bif g.giv r (nAt N i) then[g.brd r (nAt N i)] else[],?_,?_,?_⟩
  ·unfold St29;rw[h0,eg,eb];exact⟨s1,s2,s3 hg,s4,rfl,rfl,rfl⟩
  ·cases c:g.giv r (nAt N i) with
   |false=>exact g.mu_nn r
   |true=>
    have:=(qKQ ok hw (qFw hk hl hx) c).2;show 0+0+sumL g.bt [g.brd r (nAt N i)]<=_;rw[yV,BZ];omega
  ·exact g.mu_nn r
 | .rip n a b,i,l,x,hk,hx,hl,hu,hi,he,h0=>by
  obtain⟨s1,s2,s3,_⟩:=qGm g r (nAt N i);rw[wQ] at hu he;have hg:=(hu i (kf _) (by omega)).2;have hnb:=qLD hk hl;have egf:g.giv r (nAt N i)=false:=by
   unfold G29.giv giv;have:((nAt N i).kind==1)=false:=by simpa using hnb
   rw[this,Bool.false_and]
  refine⟨[r],[],?_,?_,?_⟩
  ·unfold St29;rw[h0];exact⟨s1,s2,by rw[s3 hg,egf],.inl ⟨hi,(hu.sub (by omega) (by omega)).to λj j1 j2=>he j (by omega) (by omega),rfl,rfl,rfl⟩⟩
  ·show 0+sumL g.mu [r]+0<=_;rw[yV,BZ];omega
  ·rw[yV,BZ];omega
theorem SC (S1 S2 O1 O2:List Rect) (B1 B2:List qI) (c:Rect):g.used (c::(S1++S2)) (O1++O2) (B1++B2)=g.mu c+g.used S1 O1 B1+g.used S2 O2 B2:=by
 unfold G29.used;rw[yV,PC,PC,PC];omega
theorem qGZ {n:Node} {r:Rect} {c:Int} {kerf:Int} (hr:ripB n.Kind=true) (hw:WR r) (hc:(alP r n.Kind).A<c/\c<(alP r n.Kind).B) (hk:0<=kerf/\kerf<=20):
  Cut3 r (fiP r ⟨n.Kind,c⟩) (cuP r ⟨n.Kind,c⟩ kerf) (seP r ⟨n.Kind,c⟩ kerf)/\∀μ,AddR μ->μ (fiP r ⟨n.Kind,c⟩)+μ (cuP r ⟨n.Kind,c⟩ kerf)+μ (seP r ⟨n.Kind,c⟩ kerf)=μ r:=
 cut3 (n:=⟨n.Kind,c⟩) hr hw hc hk
theorem St29.bound (ok:Ok29 g) {h:Nat}:∀{t:T} {i l:Nat} {x:qB} {r:Rect} {S O:List Rect} {B:List qI},okT (QQ g.p) g.kerf t x->WR x.rect->Lay g.kerf N t i l x->WR r->St29 g N h t i r S O B->
  g.used S O B<=g.mu r/\(∀c∈B,LH g.s c)/\S.length<=szT t/\O.length<=szT t/\B.length<=szT t
 | .leaf n,i,l,x,r,S,O,B,hk,hx,hl,hw,q=>by
  obtain⟨_,_,_,_,rfl,rfl,rfl⟩:=q;have hg:=qFw hk hl hx;rw[KT];cases c:g.giv r (nAt N i) with
  |false=>exact⟨g.mu_nn r,λ_ hc=>(ut hc).elim,by simp,by simp,by simp⟩
  |true=>
   obtain⟨b1,b2⟩:=qKQ ok hw hg c;refine⟨?_,λy hy=>?_,by simp,by simp,by simp⟩
   ·show 0+0+sumL g.bt [g.brd r (nAt N i)]<=_;rw[yV,BZ];omega
   ·simp at hy;rw[hy];exact b1
 | .rip n a b,i,l,x,r,S,O,B,hk,hx,hl,hw,q=>by
  rw[wQ];obtain⟨_,_,_,q⟩:=q;have hx':=qHx ok.hk hk hx;rcases q with⟨_,_,rfl,rfl,rfl⟩|⟨_,c,S1,S2,O1,O2,B1,B2,hc,q1,q2,rfl,rfl,rfl⟩
  ·refine⟨?_,λ_ hc=>(ut hc).elim,by simp,by simp;omega,by simp⟩;show 0+sumL g.mu [r]+0<=_;rw[yV,BZ];omega
  ·obtain⟨c3,cm⟩:=qGZ (kerf:=g.kerf) hk.1 hw hc.1 ok.hk;obtain⟨u1,v1,w1,w2,w3⟩:=St29.bound ok hk.2.2.1 hx'.1 hl.2.2.2.2.2.1 c3.wf q1;obtain⟨u2,v2,w4,w5,w6⟩:=St29.bound ok hk.2.2.2 hx'.2 hl.2.2.2.2.2.2 c3.ws q2;have:=cm g.mu g.mu_add;refine⟨by rw[SC];omega,λy hy=>?_,by simp;omega,by simp;omega,by simp;omega⟩;rcases uy.1 hy with hy|hy
   ·exact v1 y hy
   ·exact v2 y hy
theorem St29.cut_all {N':List qA} {h h':Nat}:∀{t:T} {i:Nat} {r:Rect} {S O:List Rect} {B:List qI},(∀k,i<=k->k<i+szT t->nAt N' k=nAt N k)->restT h t i=[]->i+szT t<=h'->St29 g N h t i r S O B->St29 g N' h' t i r S O B
 | .leaf n,i,r,S,O,B,he,_,_,q=>by
  have:=he i (kf _) (by rw[KT];omega);unfold St29 at*;rw[this];exact q
 | .rip n a b,i,r,S,O,B,he,e,hh,q=>by
  rw[wQ] at he hh;rw[qCh] at e;have e0:=he i (kf _) (by omega);obtain⟨q1,q2,q3,q4⟩:=q;by_cases c:h<=i
  ·rw[if_pos c] at e;cases e
  ·rw[if_neg c] at e;obtain⟨ea,eb⟩:=List.append_eq_nil_iff.1 e;rcases q4 with⟨u1,_⟩|⟨u1,c',S1,S2,O1,O2,B1,B2,u2,u3,u4,u5⟩
   ·omega
   ·unfold St29;rw[e0];exact⟨q1,q2,q3,.inr ⟨by omega,c',S1,S2,O1,O2,B1,B2,u2,St29.cut_all (λk k1 k2=>he k (by omega) (by omega)) ea (by omega) u3,St29.cut_all (λk k1 k2=>he k (by omega) (by omega)) eb (by omega) u4,u5⟩⟩
end Go.SL.Saw

namespace Go.SL.Saw
variable {g :G29} {N:List qA}
structure qNr (g:G29) (N:List qA) (t:T) (i:Nat) (r:Rect) (S O:List Rect) (B:List qI) (j:Nat) (n:Node) (a b:T) (l':Nat) (x':qB) (rj:Rect):Prop where
 ok:okT (QQ g.p) g.kerf (.rip n a b) x'
 wx:WR x'.rect
 lay:Lay g.kerf N (.rip n a b) j l' x'
 st:(nAt N j).stands=true
 rc:(nAt N j).rect=rj
 wr:WR rj
 lo:i<=j
 hi:j+szT (.rip n a b)<=i+szT t
 pr:g.pl=true->rj=x'.rect
 cut:∀(c:Int) (N':List qA),((alP rj n.Kind).A<c/\c<(alP rj n.Kind).B)/\(g.pl=true->c=n.At)->(∀k,k≠j+1->k≠j+1+szT a->nAt N' k=nAt N k)->
  nAt N' (j+1)=g.stN (fiP rj ⟨n.Kind,c⟩) (nAt N (j+1))->nAt N' (j+1+szT a)=g.stN (seP rj ⟨n.Kind,c⟩ g.kerf) (nAt N (j+1+szT a))->
  ∃O' B',St29 g N' (j+1) t i r (S++[cuP rj ⟨n.Kind,c⟩ g.kerf]) O' B'/\B.Sublist B'/\sumL g.mu O'<=sumL g.mu O/\g.used (S++[cuP rj ⟨n.Kind,c⟩ g.kerf]) O' B'<=g.used S O B
theorem qIw (S O:List Rect) (B:List qI) (c:Rect):g.used (S++[c]) O B=g.used S O B+g.mu c:=by
 unfold G29.used;rw[PC,yV,BZ];omega
theorem qJ5 (ok:Ok29 g) {h:Nat}:∀{t:T} {i l:Nat} {x:qB} {r:Rect} {S O:List Rect} {B:List qI} {j:Nat} {tl:List Nat},okT (QQ g.p) g.kerf t x->WR x.rect->Lay g.kerf N t i l x->WR r->St29 g N h t i r S O B->restT h t i=j::tl->(g.pl=true->r=x.rect)->
  ∃n a b l' x' rj,qNr g N t i r S O B j n a b l' x' rj
 | .leaf n,i,l,x,r,S,O,B,j,tl,_,_,_,_,_,e,_=>by cases e
 | .rip n a b,i,l,x,r,S,O,B,j,tl,hk,hx,hl,hw,q,e,hp=>by
  have hx':=qHx ok.hk hk hx;have hq:=q;obtain⟨q1,q2,q3,q4⟩:=q;rw[qCh] at e;rcases q4 with⟨hi,hu,rfl,rfl,rfl⟩|⟨hi,c,S1,S2,O1,O2,B1,B2,hc,qa,qb,rfl,rfl,rfl⟩
  ·rw[if_pos hi] at e;cases e;refine⟨n,a,b,l,x,r,hk,hx,hl,q1,q2,hw,kf _,kf _,hp,λc N' hc he h1 h2=>?_⟩;obtain⟨c3,cm⟩:=qGZ (kerf:=g.kerf) hk.1 hw hc.1 ok.hk;have pa:=YW a;have pb:=YW b;obtain⟨O1,B1,s1,u1,o1⟩:=St29.fresh (g:=g) (N:=N) ok (N':=N') (h:=i+1) c3.wf hk.2.2.1 hx'.1 hl.2.2.2.2.2.1 (hu.sub (by omega) (by omega)) (kf _) (λk k1 k2=>he k (by omega) (by omega)) h1;obtain⟨O2,B2,s2,u2,o2⟩:=St29.fresh (g:=g) (N:=N) ok (N':=N') (h:=i+1) c3.ws hk.2.2.2 hx'.2 hl.2.2.2.2.2.2 (hu.sub (by omega) (by omega)) (by omega) (λk k1 k2=>he k (by omega) (by omega)) h2;have em:=cm g.mu g.mu_add
   have nc:=g.mu_nn (cuP r ⟨n.Kind,c⟩ g.kerf);have e0:=he i (by omega) (by omega);refine⟨O1++O2,B1++B2,?_,List.nil_sublist _,?_,?_⟩
   ·unfold St29;rw[e0];exact⟨q1,q2,q3,.inr ⟨Nat.lt_succ_self _,c,[],[],O1,O2,B1,B2,hc,s1,s2,rfl,rfl,rfl⟩⟩
   ·rw[PC,yV,BZ];omega
   ·have e1:g.used ([]++[cuP r ⟨n.Kind,c⟩ g.kerf]) (O1++O2) (B1++B2)=g.mu (cuP r ⟨n.Kind,c⟩ g.kerf)+g.used [] O1 B1+g.used [] O2 B2:=SC [] [] O1 O2 B1 B2 _;have e2:g.used [] [r] []=g.mu r:=by
     show 0+sumL g.mu [r]+0=_;rw[yV,BZ];omega
    omega
  ·rw[if_neg (by omega)] at e;obtain⟨c3,cm⟩:=qGZ (kerf:=g.kerf) hk.1 hw hc.1 ok.hk;have hpf:g.pl=true->fiP r ⟨n.Kind,c⟩=fiP x.rect n:=λq=>by rw[hp q,hc.2 q]
   have hps:g.pl=true->seP r ⟨n.Kind,c⟩ g.kerf=seP x.rect n g.kerf:=λq=>by rw[hp q,hc.2 q]
   cases ea:restT h a (i+1) with
   |cons j' tl'=>
    rw[ea] at e;cases e;have hm:j∈restT h a (i+1):=by rw[ea];exact kI
    obtain⟨m1,m2,m3⟩:=qCC hm;obtain⟨n1,a1,b1,l1,x1,r1,Q⟩:=qJ5 ok hk.2.2.1 hx'.1 hl.2.2.2.2.2.1 c3.wf qa ea hpf;have hlo:=Q.lo;have hhi:=Q.hi;rw[wQ] at hhi;have p1:=YW a1;have p2:=YW b1;refine⟨n1,a1,b1,l1,x1,r1,Q.ok,Q.wx,Q.lay,Q.st,Q.rc,Q.wr,by omega,by rw[wQ,wQ];omega,Q.pr,λc' N' hc' he h1 h2=>?_⟩;obtain⟨O',B',s',bs,os,us⟩:=Q.cut c' N' hc' he h1 h2;have ns:S2=[]:=St29.nocut (by omega) qb;subst ns;refine⟨O'++O2,B'++B2,?_,bs.append (List.Sublist.refl _),?_,?_⟩
    ·unfold St29;rw[he i (by omega) (by omega)];refine⟨q1,q2,q3,.inr ⟨by omega,c,S1++[cuP r1 ⟨n1.Kind,c'⟩ g.kerf],[],O',O2,B',B2,hc,s',St29.to (λk k1 k2=>he k (by omega) (by omega)) (λk k1 k2=>by omega) qb,by simp,rfl,rfl⟩⟩
    ·rw[PC,PC];omega
    ·rw[kU,qIw] at*;have e1:=SC (g:=g) S1 [] O1 O2 B1 B2 (cuP r ⟨n.Kind,c⟩ g.kerf);have e2:=SC (g:=g) S1 [] O' O2 B' B2 (cuP r ⟨n.Kind,c⟩ g.kerf);rw[kU] at e1 e2;omega
   |nil=>
    rw[ea] at e;simp only[um] at e;have hm:j∈restT h b (i+1+szT a):=by rw[e];exact kI
    obtain⟨m1,m2,m3⟩:=qCC hm;obtain⟨n1,a1,b1,l1,x1,r1,Q⟩:=qJ5 ok hk.2.2.2 hx'.2 hl.2.2.2.2.2.2 c3.ws qb e hps;have hlo:=Q.lo;have hhi:=Q.hi;rw[wQ] at hhi;have p1:=YW a1;have p2:=YW b1;have pa:=YW a;refine⟨n1,a1,b1,l1,x1,r1,Q.ok,Q.wx,Q.lay,Q.st,Q.rc,Q.wr,by omega,by rw[wQ,wQ];omega,Q.pr,λc' N' hc' he h1 h2=>?_⟩;obtain⟨O',B',s',bs,os,us⟩:=Q.cut c' N' hc' he h1 h2;have sa:St29 g N' (j+1) a (i+1) (fiP r ⟨n.Kind,c⟩) S1 O1 B1:=St29.cut_all (λk k1 k2=>he k (by omega) (by omega)) ea (by omega) qa;refine⟨O1++O',B1++B',?_,(List.Sublist.refl _).append bs,?_,?_⟩
    ·unfold St29;rw[he i (by omega) (by omega)];refine⟨q1,q2,q3,.inr ⟨by omega,c,S1,S2++[cuP r1 ⟨n1.Kind,c'⟩ g.kerf],O1,O',B1,B',hc,sa,s',by simp,rfl,rfl⟩⟩
    ·rw[PC,PC];omega
    ·rw[qIw] at*;have e1:=SC (g:=g) S1 S2 O1 O2 B1 B2 (cuP r ⟨n.Kind,c⟩ g.kerf);have e2:=SC (g:=g) S1 S2 O1 O' B1 B' (cuP r ⟨n.Kind,c⟩ g.kerf);omega
end Go.SL.Saw

namespace Go.SL.Saw
variable {g :G29} {N:List qA}
def qAl (N:List qA) (j:Nat):List qI:=bif (nAt N j).gives then[(nAt N j).board] else[]
def bl29 (N:List qA):Nat->Nat->List qI
 |_,0=>[]
 |i,k+1=>qAl N i++bl29 N (i+1) k
theorem qKL (N:List qA):∀(a b i:Nat),bl29 N i (a+b)=bl29 N i a++bl29 N (i+a) b
 |0,b,i=>by simp[bl29]
 |a+1,b,i=>by
  rw[show a+1+b=(a+b)+1 by omega];show qAl N i++bl29 N (i+1) (a+b)=(qAl N i++bl29 N (i+1) a)++bl29 N (i+(a+1)) b;rw[qKL N a b (i+1),show i+(a+1)=i+1+a by omega,kJ]
theorem Un.bl :∀{k i:Nat},Un N i k->bl29 N i k=[]
 |0,_,_=>rfl
 |k+1,i,h=>by
  unfold bl29 qAl;rw[(h i (kf _) (by omega)).2,Un.bl (h.sub (by omega) (by omega))];rfl
theorem St29.bl {h:Nat}:∀{t:T} {i:Nat} {r:Rect} {S O:List Rect} {B:List qI},St29 g N h t i r S O B->bl29 N i (szT t)=B
 | .leaf n,i,r,S,O,B,⟨_,_,q3,q4,_,_,q7⟩=>by
  rw[KT,q7];show qAl N i++[]=_;rw[kU];unfold qAl;rw[q3];cases c:g.giv r (nAt N i) with
  |false=>rfl
  |true=>rw[kn,kn,q4 c]
 | .rip n a b,i,r,S,O,B,⟨_,_,q3,q4⟩=>by
  rw[wQ,show 1+szT a+szT b=(szT a+szT b)+1 by omega];unfold bl29 qAl;rw[q3,kp,um];rcases q4 with⟨_,hu,_,_,rfl⟩|⟨_,c,S1,S2,O1,O2,B1,B2,_,qa,qb,_,_,rfl⟩
  ·exact hu.bl
  ·rw[qKL,St29.bl qa,St29.bl qb]
def zs29 (l:List Nat):List Int:=l.map (fun(k:Nat)=>(k:Int))
theorem OH (l:List Nat):(zs29 l).length=l.length:=by simp[zs29]
theorem zs29_at {l:List Nat} {i:Nat} (h:i<l.length):(zs29 l).getD i du=((l.getD i du:Nat):Int):=by
 unfold zs29;rw[kd,kE,ku h,kd,ku h];rfl
def rc29 (N:List qA) (k:Nat):List Rect:=bif (nAt N k).stands then[(nAt N k).rect] else[]
theorem Un.rl {t:T} {i k h:Nat} (hu:Un N i k) (hk:szT t<=k):(restT h t i).flatMap (rc29 N)=[]:=by
 rw[List.flatMap_eq_nil_iff];intro j hj;have:=qCC hj;unfold rc29;rw[(hu j (by omega) (by omega)).1];rfl
theorem St29.rl {h:Nat}:∀{t:T} {i:Nat} {r:Rect} {S O:List Rect} {B:List qI},St29 g N h t i r S O B->(restT h t i).flatMap (rc29 N)=O
 | .leaf n,i,r,S,O,B,q=>by
  rw[q.2.2.2.2.2.1];rfl
 | .rip n a b,i,r,S,O,B,⟨q1,q2,_,q4⟩=>by
  rw[qCh];rcases q4 with⟨hi,hu,_,rfl,_⟩|⟨hi,c,S1,S2,O1,O2,B1,B2,_,qa,qb,_,rfl,_⟩
  ·rw[if_pos hi,List.flatMap_cons,List.flatMap_append,(hu.sub (i':=i+1) (k':=szT a) (by omega) (by omega)).rl (kf _),(hu.sub (i':=i+1+szT a) (k':=szT b) (by omega) (by omega)).rl (kf _)];unfold rc29;rw[q1,q2];rfl
  ·rw[if_neg (by omega),List.flatMap_append,St29.rl qa,St29.rl qb]
section
variable (s :List qG) (d:List qJ) (p:List Product) (e1 e2 e3 e4 e5 e6 e7 e8:Int) (sw:List Rect)
theorem qAT (ri:List Int) (N:List qA) (hN:N.length<=1000):wW s d p e1 e2 e3 e4 e5 e6 e7 e8 ri N sw=some (bl29 N 0 N.length):=by
 have key:∀(k i n:Nat) (acc:List qI),i+k=N.length->k<n->acc.length<=i->wT N n acc (i:Int)=some (acc++bl29 N i k):=by
  intro k
  induction k with
  |zero=>
   intro i n acc hi hn _;obtain⟨n,rfl⟩:∃m,n=m+1:=⟨n-1,by omega⟩
   unfold wT;rw[ke (by omega)];simp[bl29]
  |succ k ih=>
   intro i n acc hi hn ha;obtain⟨n,rfl⟩:∃m,n=m+1:=⟨n-1,by omega⟩
   unfold wT YG;rw[ka (by omega),zJ (by omega),WI (by omega),zN (by omega)];simp only[kn,ks];show(bif (nAt N i).gives then _ else _)=_;unfold bl29 qAl;cases (nAt N i).gives with
   |true=>
    rw[kn,kn,ih (i+1) n _ (by omega) (by omega) (by simp;omega)];simp[nAt]
   |false=>
    rw[kp,kp,ih (i+1) n _ (by omega) (by omega) (by omega)];rfl
 unfold wW;have e:=key N.length 0 FUEL [] (by omega) (by rw[yU];omega) (kf _);rw[show(0:Int)=((0:Nat):Int) from rfl,e];simp
theorem qCz (l:List Nat) (N:List qA) (hl:l.length<=1000) (hr:∀k∈l,k<N.length):jY s d p e1 e2 e3 e4 e5 e6 e7 e8 (zs29 l) N sw=some (l.flatMap (rc29 N)):=by
 have key:∀(k i n:Nat) (acc:List Rect),i+k=l.length->k<n->acc.length<=i->wZ (zs29 l) N n acc (i:Int)=some (acc++(l.drop i).flatMap (rc29 N)):=by
  intro k
  induction k with
  |zero=>
   intro i n acc hi hn _;obtain⟨n,rfl⟩:∃m,n=m+1:=⟨n-1,by omega⟩
   unfold wZ;rw[OH,ke (by omega),uo (by omega)];simp
  |succ k ih=>
   intro i n acc hi hn ha;obtain⟨n,rfl⟩:∃m,n=m+1:=⟨n-1,by omega⟩
   have hil:i<l.length:=by omega
   have eg:=zs29_at hil;have hk:=hr _ (KD hil);unfold wZ XA;rw[OH,ka (by omega),zJ (by omega),WI (by omega),zN (by omega),qAK l i hil,List.flatMap_cons];simp only[kn,ks];rw[eg,zJ (by omega)];simp only[kn,ks];show(bif (nAt N (l.getD i du)).stands then _ else _)=_;have e9:rc29 N (l.getD i du)=bif (nAt N (l.getD i du)).stands then[(nAt N (l.getD i du)).rect] else[]:=rfl;rw[e9];cases (nAt N (l.getD i du)).stands with
   |true=>
    rw[kn,kn,ih (i+1) n _ (by omega) (by omega) (by simp;omega),kJ];rfl
   |false=>
    rw[kp,kp,ih (i+1) n _ (by omega) (by omega) (by omega)];rfl
 unfold jY;have e:=key l.length 0 FUEL [] (by omega) (by rw[yU];omega) (kf _);rw[show(0:Int)=((0:Nat):Int) from rfl,e];simp
theorem vol29 (hs:VSol s) (r:Rect) (z:Span) (ri:List Int) (N:List qA):wY r z s d p e1 e2 e3 e4 e5 e6 e7 e8 ri N sw=some (volS s r.X r.Y z):=by
 unfold wY;rw[OW hs];rfl
end
end Go.SL.Saw

namespace Go.SL.Saw
variable {s :List qG}
section
variable (hs :VSol s) (d:List qJ) (p:List Product) (e1 e3 e4 chip dust e7:Int) (sw:List Rect) (ri:List Int) (N:List qA)
include hs
theorem qL3 (trim:Int) (hl:sw.length<=1000) (v:Int):jT s d p e1 trim e3 e4 chip dust e7 (qY s) ri N sw v FUEL 0 0=some ⟨v,0,0,wE s sw,0⟩/\0<=wE s sw/\wE s sw<=28800000000*sw.length:=by
 have k1:=VB sw (λn (a:Int) x=>jT s d p e1 trim e3 e4 chip dust e7 (qY s) ri N sw v n x a) (λx=>(x:Int)) (λ_ a s'=>s'+yZ s a) (λq=>(⟨v,0,0,q,0⟩:zM)) (λx q=>0<=q/\q<=28800000000*(x:Int)) (by omega)
  (λn x a hx hi=>by
   have b:=qHW hs (sw.getD x du);refine⟨?_,by omega⟩;rw[jT,ka (by omega),zJ (by omega),zN (by omega),vol29 _ _ _ _ _ _ _ _ _ _ _ _ hs];simp only[kn,ks,kg];unfold yZ at*;rw[qU (by omega)])
  (λn a _=>by rw[jT];simp) (i:=0) rfl 0 (by omega)
 rw[IF (yZ s),uI] at k1;exact⟨k1.1,k1.2⟩
theorem qL8 (trim:Int) (O:List Rect) (hl:O.length<=1000):jU s d p e1 trim e3 e4 chip dust e7 (qY s) ri N sw O FUEL 0 0=some (wE s O)/\0<=wE s O/\wE s O<=28800000000*O.length:=by
 have k1:=VB O (λn (a:Int) x=>jU s d p e1 trim e3 e4 chip dust e7 (qY s) ri N sw O n a x) (λx=>(x:Int)) (λ_ a s'=>s'+yZ s a) (λq=>q) (λx q=>0<=q/\q<=28800000000*(x:Int)) (by omega)
  (λn x a hx hi=>by
   have b:=qHW hs (O.getD x du);refine⟨?_,by omega⟩;rw[jU,ka (by omega),zJ (by omega),zN (by omega),vol29 _ _ _ _ _ _ _ _ _ _ _ _ hs];simp only[kn,ks,kg];unfold yZ at*;rw[qU (by omega)])
  (λn a _=>by rw[jU];simp) (i:=0) rfl 0 (by omega)
 rw[IF (yZ s),uI] at k1;exact⟨k1.1,k1.2⟩
theorem qMm (trim:Int) (ht:0<=trim/\trim<=20) {b:List qI} (hl:b.length<=1000) (hg:∀c∈b,LH s c) (v dd:Int) (hd:0<=dd/\dd<=28800000000*1000):
  jP s d p e1 trim e3 e4 chip dust e7 (qY s) ri N sw ⟨v,0,0,dd,0⟩ b FUEL 0 0 dd 0=some ⟨v,sumL (brdV s) b,0,dd+sumL (trmV s trim) b,sumL (λc=>1000000*c.Worth) b⟩
   /\(0<=sumL (brdV s) b/\sumL (brdV s) b<=28800000000*b.length)/\(0<=sumL (trmV s trim) b/\sumL (trmV s trim) b<=57600000000*b.length)/\(0<=sumL (λc:qI=>1000000*c.Worth) b/\sumL (λc:qI=>1000000*c.Worth) b<=1000000000000*b.length):=by
 have sl:=qFf hs;have k1:=VB b (λn (q:Int×Int×Int) x=>jP s d p e1 trim e3 e4 chip dust e7 (qY s) ri N sw ⟨v,0,0,dd,0⟩ b n x q.1 q.2.1 q.2.2) (λx=>(x:Int)) (λ_ a q=>(q.1+brdV s a,q.2.1+trmV s trim a,q.2.2+1000000*a.Worth)) (λq=>(⟨v,q.1,0,q.2.1,q.2.2⟩:zM))
  (λx q=>(0<=q.1/\q.1<=28800000000*(x:Int))/\(dd<=q.2.1/\q.2.1<=dd+57600000000*(x:Int))/\(0<=q.2.2/\q.2.2<=1000000000000*(x:Int))) (by omega)
  (λn x q hx hi=>by
   have b1:=qCy hs (b.getD x du).Box.X (b.getD x du).Box.Y (b.getD x du).Box.Z;have b2:=qCy hs (b.getD x du).Box.X (b.getD x du).Box.Y (ES (b.getD x du).Box.Z trim);have b3:=qCy hs (b.getD x du).Box.X (b.getD x du).Box.Y (qAB (b.getD x du).Box.Z trim (qY s));have g:=hg _ (KD hx);obtain⟨z1,z2,z3⟩:=g.z;have gw:=g.wth;have eb:brdV s (b.getD x du)=volS s (b.getD x du).Box.X (b.getD x du).Box.Y (b.getD x du).Box.Z:=rfl
   have et:trmV s trim (b.getD x du)=volS s (b.getD x du).Box.X (b.getD x du).Box.Y (ES (b.getD x du).Box.Z trim)+volS s (b.getD x du).Box.X (b.getD x du).Box.Y (qAB (b.getD x du).Box.Z trim (qY s)):=rfl;refine⟨?_,by simp only;rw[eb,et];omega⟩;simp only;rw[jP,ka (by omega),zJ (by omega),zN (by omega)];unfold XC YK;simp only[kn,ks,kg,vol29 _ _ _ _ _ _ _ _ _ _ _ _ hs];rw[qU (n:=(b.getD x du).Box.Z.A-trim) (by omega),qU (n:=(b.getD x du).Box.Z.B+trim) (by omega)];rw[eb,et];unfold ES qAB at*
   rw[qU (n:=1000000*(b.getD x du).Worth) (by omega),qU (n:=q.1+_) (by omega),qU (n:=q.2.1+_) (by omega),qU (n:=q.2.1+_+_) (by omega),qU (n:=q.2.2+_) (by omega),Int.add_assoc])
  (λn q _=>by rw[jP];simp) (i:=0) rfl (0,dd,0) (by simp only;omega)
 rw[qDQ (brdV s) (trmV s trim) (λc=>1000000*c.Worth)] at k1;simp only[uI] at k1;exact⟨k1.1,k1.2.1,by have:=k1.2.2.1;omega,k1.2.2.2⟩
end
def qGV (s:List qG) (trim chip dust:Int) (S O:List Rect) (B:List qI):zM:=
 ⟨volT s,sumL (brdV s) B,volT s-sumL (brdV s) B-(wE s S+sumL (trmV s trim) B)-wE s O,wE s S+sumL (trmV s trim) B,
  sumL (λc=>1000000*c.Worth) B+(chip*(volT s-sumL (brdV s) B-(wE s S+sumL (trmV s trim) B)-wE s O)+dust*(wE s S+sumL (trmV s trim) B))⟩
theorem qGy (hs:VSol s) (d:List qJ) (p:List Product) (e1 trim e3 e4 chip dust e7:Int) (S:List Rect) (l:List Nat) (N:List qA) (ht:0<=trim/\trim<=20) (hc:0<=chip/\chip<=1000) (hu:0<=dust/\dust<=1000)
  (hS:S.length<=200) (hN:N.length<=200) (hl:l.length<=200) (hr:∀k∈l,k<N.length) (hg:∀c∈bl29 N 0 N.length,LH s c) (hb:(bl29 N 0 N.length).length<=200) (ho:(l.flatMap (rc29 N)).length<=200):
  jE s d p e1 trim e3 e4 chip dust e7 (qY s) (zs29 l) N S=some (qGV s trim chip dust S (l.flatMap (rc29 N)) (bl29 N 0 N.length),wE s (l.flatMap (rc29 N))):=by
 obtain⟨y1,a1,a2⟩:=qL3 hs d p e1 e3 e4 chip dust e7 S (zs29 l) N trim (by omega) (volT s);obtain⟨y2,b1,b2,b3⟩:=qMm hs d p e1 e3 e4 chip dust e7 S (zs29 l) N trim ht (b:=bl29 N 0 N.length) (by omega) hg (volT s) (wE s S) (by omega);obtain⟨y3,c1,c2⟩:=qL8 hs d p e1 e3 e4 chip dust e7 S (zs29 l) N trim (l.flatMap (rc29 N)) (by omega);have bv:=qNA hs;unfold jE;rw[qIh hs];simp only[kg,y1,qAT _ _ _ _ _ _ _ _ _ _ _ _ _ N (by omega:N.length<=1000),y2,qCz _ _ _ _ _ _ _ _ _ _ _ _ l N (by omega) hr,y3];generalize hB:sumL (brdV s) (bl29 N 0 N.length)=Bv at*
 generalize hT:sumL (trmV s trim) (bl29 N 0 N.length)=Tv at*;generalize hW:sumL (λc:qI=>1000000*c.Worth) (bl29 N 0 N.length)=Wv at*;generalize hC:wE s S=Cv at*;generalize hO:wE s (l.flatMap (rc29 N))=Ov at*;have eC:w64 (w64 (w64 (volT s-Bv)-(Cv+Tv))-Ov)=volT s-Bv-(Cv+Tv)-Ov:=by
  rw[qU (n:=volT s-Bv) (by omega),qU (n:=volT s-Bv-_) (by omega),qU (by omega)]
 rw[eC];generalize hX:volT s-Bv-(Cv+Tv)-Ov=X
 have m1:=MG (a:=chip) (b:=X) (m:=1000) (n:=28800000000*1000) (by omega) (by omega) (by omega) (by omega) (by omega) (by omega);have m2:=MG (a:=dust) (b:=Cv+Tv) (m:=1000) (n:=28800000000*1000) (by omega) (by omega) (by omega) (by omega) (by omega) (by omega);rw[qU (n:=chip*_) (by omega),qU (n:=dust*_) (by omega),qU (n:=chip*_+_) (by omega),qU (by omega)];unfold qGV;rw[hB,hT,hW,hC,hO,hX]
end Go.SL.Saw

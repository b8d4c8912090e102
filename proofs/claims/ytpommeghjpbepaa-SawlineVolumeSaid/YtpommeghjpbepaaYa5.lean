/- A row of the call's own that is not turned any more; a region carried out at once, by computation. -/
import Derived.Test.YtpommeghjpbepaaYa4
import Derived.Deep.Slices
import Derived.OpenShut
import Derived.WideShapes
import Derived.Carry
import Derived.WalkKit
import Derived.ProofKit
import Derived.Deep.DeepHandedRow
set_option linter.unusedVariables false
set_option linter.unusedSimpArgs false
namespace Go.SL
open Go.RowKit
section
variable (φ :C->C×Option Prop)
def phL :List C->List C×Option Prop
 |[]=>([],none)
 |c::r=>((φ c).1::(phL r).1,an (φ c).2 (phL r).2)
def ph1 :V1->V1×Option Prop
 | .one c=>(.one (φ c).1,(φ c).2)
 | .agg cs=>(.agg (phL φ cs).1,(phL φ cs).2)
def ph1L :List V1->List V1×Option Prop
 |[]=>([],none)
 |c::r=>((ph1 φ c).1::(ph1L r).1,an (ph1 φ c).2 (ph1L r).2)
def phV :V->V×Option Prop
 | .v x=>(.v (ph1 φ x).1,(ph1 φ x).2)
 | .tup xs=>(.tup (ph1L φ xs).1,(ph1L φ xs).2)
 |x=>(x,none)
def phO :O->O×Option Prop
 | .box e cs=>(.box e (phL φ cs).1,(phL φ cs).2)
 |o=>(o,none)
def phS :List (Nat×V)->List (Nat×V)×Option Prop
 |[]=>([],none)
 |p::r=>((p.1,(phV φ p.2).1)::(phS r).1,an (phV φ p.2).2 (phS r).2)
def phB (id:Nat):List (Nat×(Nat×O))->List (Nat×(Nat×O))×Option Prop
 |[]=>([],none)
 |p::r=>bif Nat.beq p.1 id then phB id r else((p.1,(p.2.1,(phO φ p.2.2).1))::(phB id r).1,an (phO φ p.2.2).2 (phB id r).2)
end
section
variable {φ :C->C×Option Prop} {w:World} {M M':Mem}
theorem qJ2 (hφ:∀c v,oP (φ c).2->CRep w M c v->CRep w M' (φ c).1 v):∀{cs:List C},oP (phL φ cs).2->(phL φ cs).1.length=cs.length/\∀j v,j<cs.length->CRep w M (cs.getD j .unk) v->CRep w M' ((phL φ cs).1.getD j .unk) v
 |[],_=>⟨rfl,λj v hj=>absurd hj (uc j)⟩
 |c::r,hp=>by
  obtain⟨h1,h2⟩:=ZW hp;obtain⟨i1,i2⟩:=qJ2 hφ h2;refine⟨by simp[phL,i1],λj v hj hr=>?_⟩;cases j with
  |zero=>exact hφ c v h1 hr
  |succ j=>exact i2 j v (by simpa using hj) hr
theorem qBu (hφ:∀c v,oP (φ c).2->CRep w M c v->CRep w M' (φ c).1 v) {cs:List C} {vs:Array Value} (hp:oP (phL φ cs).2) (h:jT w M cs vs):jT w M' (phL φ cs).1 vs:=by
 obtain⟨i1,i2⟩:=qJ2 hφ hp;exact⟨by rw[i1];exact h.1,λj hj=>i2 j _ (by omega) (h.2 j (by omega))⟩
theorem qJ6 (hφ:∀c v,oP (φ c).2->CRep w M c v->CRep w M' (φ c).1 v) {x:V1} {v:Value} (hp:oP (ph1 φ x).2) (h:zA w M x v):zA w M' (ph1 φ x).1 v:=by
 cases x with
 |one c=>exact hφ c v hp h
 |agg cs=>obtain⟨vs,hv,hr⟩:=h;exact⟨vs,hv,qBu hφ hp hr⟩
theorem qIo (hφ:∀c v,oP (φ c).2->CRep w M c v->CRep w M' (φ c).1 v):∀{cs:List V1},oP (ph1L φ cs).2->(ph1L φ cs).1.length=cs.length/\∀j v,j<cs.length->zA w M (cs.getD j (.one .unk)) v->zA w M' ((ph1L φ cs).1.getD j (.one .unk)) v
 |[],_=>⟨rfl,λj v hj=>absurd hj (uc j)⟩
 |c::r,hp=>by
  obtain⟨h1,h2⟩:=ZW hp;obtain⟨i1,i2⟩:=qIo hφ h2;refine⟨by simp[ph1L,i1],λj v hj hr=>?_⟩;cases j with
  |zero=>exact qJ6 hφ h1 hr
  |succ j=>exact i2 j v (by simpa using hj) hr
theorem qKc (hφ:∀c v,oP (φ c).2->CRep w M c v->CRep w M' (φ c).1 v) {x:V} {v:Value} (hp:oP (phV φ x).2) (h:VRep w M x v):VRep w M' (phV φ x).1 v:=by
 cases x with
 |any=>trivial
 |undef=>exact h
 |v x=>exact qJ6 hφ hp h
 |tup xs=>
  obtain⟨vs,hv,hl,hr⟩:=h;obtain⟨i1,i2⟩:=qIo hφ hp;exact⟨vs,hv,by rw[i1];exact hl,λj hj=>i2 j _ (by omega) (hr j (by omega))⟩
theorem phS_look (hφ:∀c v,oP (φ c).2->CRep w M c v->CRep w M' (φ c).1 v):∀{l:List (Nat×V)} {s:Nat} {x:V},oP (phS φ l).2->look s (phS φ l).1=some x->∃y,look s l=some y/\∀v,VRep w M y v->VRep w M' x v
 |(k,y)::r,s,x,hp,hl=>by
  obtain⟨h1,h2⟩:=ZW hp;have hl':look s ((k,(phV φ y).1)::(phS φ r).1)=some x:=hl;rw[look_cons] at hl';rw[look_cons];split at hl'
  ·rename_i hk;cases hl';rw[if_pos hk];exact⟨y,rfl,λv hv=>qKc hφ h1 hv⟩
  ·rename_i hk;rw[if_neg hk];exact phS_look hφ h2 hl'
theorem qAO {id:Nat}:∀{l:List (Nat×(Nat×O))} {i k:Nat} {o:O},oP (phB φ id l).2->look i (phB φ id l).1=some (k,o)->i≠id/\∃o',look i l=some (k,o')/\oP (phO φ o').2/\o=(phO φ o').1
 |[],_,_,_,_,hl=>by cases hl
 |(j,(kj,y))::r,i,k,o,hp,hl=>by
  cases hb:Nat.beq j id with
  |true=>
   simp only[phB,hb,ki] at hp hl;obtain⟨h1,o',h2,h3⟩:=qAO hp hl;refine⟨h1,o',?_,h3⟩;rw[look_cons,if_neg (λe=>h1 (by rw[<-e];exact kf hb))];exact h2
  |false=>
   simp only[phB,hb,kp] at hp hl;obtain⟨h1,h2⟩:=ZW hp;rw[look_cons] at hl;rw[look_cons];split at hl
   ·rename_i hk;cases hl;rw[if_pos hk];exact⟨λe=>(by rw[<-hk] at e;rw[e,uL] at hb;cases hb),y,rfl,h1,rfl⟩
   ·rename_i hk;rw[if_neg hk];exact qAO h2 hl
theorem phB_hits {id:Nat}:∀{l:List (Nat×(Nat×O))} {i:Nat},hits l i->i≠id->hits (phB φ id l).1 i
 |[],_,h,_=>by cases h
 |(j,(kj,y))::r,i,h,hne=>by
  unfold hits at h⊢;rw[look_cons] at h;cases hb:Nat.beq j id with
  |true=>
   simp only[phB,hb,ki];rw[if_neg (λe=>hne (by rw[<-e];exact kf hb))] at h;exact phB_hits h hne
  |false=>
   simp only[phB,hb,kp];rw[look_cons];split
   ·rfl
   ·rename_i hk;rw[if_neg hk] at h;exact phB_hits h hne
end
def qFc (id:Nat):C->Bool
 | .bptr i _ _=>!Nat.beq i id
 |_=>true
def frzC (id k sz n:Nat) (f:Nat->List C):C->C×Option Prop
 | .own i k' sz' len=>bif Nat.beq i id then(bif Nat.beq k' k&&Nat.beq sz' sz then(.lst len f,some (len<=n)) else(.unk,none)) else(.own i k' sz' len,none)
 | .sub i k' sz' off len=>bif Nat.beq i id then(bif Nat.beq k' k&&Nat.beq sz' sz then(.lst len (λj=>f (off+j)),some (off+len<=n)) else(.unk,none)) else(.sub i k' sz' off len,none)
 | .bptr i k' j=>bif Nat.beq i id then(.unk,none) else(.bptr i k' j,none)
 | .rptr i k' sz' x j=>bif Nat.beq i id then(.unk,none) else(.rptr i k' sz' x j,none)
 | .fn g caps=>bif caps.all (qFc id) then(.fn g caps,none) else(.unk,none)
 | .yl R b ts caps=>bif caps.all (qFc id) then(.yl R b ts caps,none) else(.unk,none)
 |c=>(c,none)
def St.frz (st:St) (id:Nat):Option (St×Option Prop):=
 match look id st.objs with
 | some (k,.row _ sz n f)=>bif Nat.blt 0 sz then
   some ({slots:=(phS (frzC id k sz n f) st.slots).1,objs:=(phB (frzC id k sz n f) id st.objs).1},an (phS (frzC id k sz n f) st.slots).2 (phB (frzC id k sz n f) id st.objs).2) else none
 |_=>none
def Mem.drop (M:Mem) (id:Nat):Mem:={ver:=λi=>if i=id then none else M.ver i,blk:=M.blk,A:=M.A}
theorem jB {M:Mem} {id i k:Nat} (h:(M.drop id).ver i=some k):i≠id/\M.ver i=some k:=by
 simp only[Mem.drop] at h;split at h
 ·cases h
 ·rename_i hi;exact⟨hi,h⟩
theorem qMH {M:Mem} {id b:Nat} (h:M.imm b):(M.drop id).imm b:=⟨h.1,fun⟨i,k,hv,hb⟩=>h.2 ⟨i,k,(jB hv).2,hb⟩⟩
theorem YY {M:Mem} {w:World} {id:Nat} {c:C} {v:Value} (h:IRep w M.imm c v):IRep w (M.drop id).imm c v:=h.move (λ_ _ _=>rfl) λ_ hb _=>qMH hb
theorem qJk {w:World} {M:Mem} {id k e sz n:Nat} {f:Nat->List C} (hor:ORep w M id k (.row e sz n f)) (hpos:0<sz) (hown:∀b,M.blk id=some b->(M.drop id).imm b):
  ∀c v,oP (frzC id k sz n f c).2->CRep w M c v->CRep w (M.drop id) (frzC id k sz n f c).1 v:=by
 obtain⟨hver,hrow⟩:=hor;have row:∀{off len:Nat} {v:Value},((len=0/\∃a,v= .slice a 0 0)\/∃b cap,v= .slice (some ⟨b,off*sz,none⟩) len cap/\len<=cap/\cap<=maxLen/\(M.ver id=some k->M.blk id=some b/\∃arr e,w.heap[b]? =some (.cells arr e (0,0))/\arr.size=(off+cap)*sz))->
   off+len<=n->∀g:Nat->List C,(∀i,i<len->g i=f (off+i))->IRep w (M.drop id).imm (.lst len g) v:=by
  intro off len v hc hle g hg;rcases hc with⟨h0,b,rfl⟩|⟨b,cap,rfl,h1,h2,hx⟩
  ·subst h0;exact .lst0 _ _
  ·obtain⟨hb,arr,e',hh,hsize⟩:=hx hver;by_cases hz:len=0
   ·subst hz;exact .lst b (off*sz) 0 cap 0 _ (λ_ _=>undef) (ud _) h2 (λi hi=>by omega) (λi j hi=>by omega) (λi j hi=>by omega) (λi j hi=>by omega)
   ·rcases hrow with⟨hnone,_⟩|⟨b',arr',hb',hh',hns,hcr⟩
    ·rw[hb] at hnone;cases hnone
    ·have hbb:b'=b:=kF (hb'.symm.trans hb);subst hbb;rw[hh] at hh';cases hh';refine .lst b' (off*sz) len cap sz g (λi j=>arr.getD ((off+i)*sz+j) undef) h1 h2 (λi hi=>by rw[hg i hi];exact(hcr (off+i) (by omega)).1) (λi j hi hj=>hown b' hb) (λi j hi hj=>?_) (λi j hi hj=>by rw[hg i hi];exact YY ((hcr (off+i) (by omega)).2 j hj));have:=PD (n:=n) (show off+i<n by omega) hj;rw[show off*sz+(i*sz+j)=(off+i)*sz+j by rw[kM];omega];exact cell_of_row' hh (by omega)
 intro c v ho hr;cases c with
 |own i k' sz' len=>
  cases hb:Nat.beq i id with
  |false=>
   simp only[frzC,hb,kp];rcases hr with h0|⟨b,cap,h1,h2,h3,hx⟩
   ·exact .inl h0
   ·exact .inr ⟨b,cap,h1,h2,h3,λhv=>hx (jB hv).2⟩
  |true=>
   cases hb2:Nat.beq k' k&&Nat.beq sz' sz with
   |false=>simp only[frzC,hb,hb2,ki,kp];exact hr.cell
   |true=>
    simp only[frzC,hb,hb2,ki] at ho⊢;rw[kn] at hb2;have e1:=kf hb;have e2:=kf hb2.1;have e3:=kf hb2.2;subst e1 e2 e3;have ho':len<=n:=ho;refine row (off:=0) ?_ (by omega) f (λi _=>by rw[kv]);simp only[Nat.zero_mul,kv];exact hr
 |sub i k' sz' off len=>
  cases hb:Nat.beq i id with
  |false=>
   simp only[frzC,hb,kp];rcases hr with h0|⟨b,cap,h1,h2,h3,hx⟩
   ·exact .inl h0
   ·exact .inr ⟨b,cap,h1,h2,h3,λhv=>hx (jB hv).2⟩
  |true=>
   cases hb2:Nat.beq k' k&&Nat.beq sz' sz with
   |false=>simp only[frzC,hb,hb2,ki,kp];exact hr.cell
   |true=>
    simp only[frzC,hb,hb2,ki] at ho⊢;rw[kn] at hb2;have e1:=kf hb;have e2:=kf hb2.1;have e3:=kf hb2.2;subst e1 e2 e3;exact row hr ho _ (λi _=>rfl)
 |bptr i k' j=>
  cases hb:Nat.beq i id with
  |true=>simp only[frzC,hb,ki];exact hr.cell
  |false=>
   simp only[frzC,hb,kp];obtain⟨b,h1,hx⟩:=hr;exact⟨b,h1,λhv=>hx (jB hv).2⟩
 |rptr i k' sz' x j=>
  cases hb:Nat.beq i id with
  |true=>simp only[frzC,hb,ki];exact hr.cell
  |false=>
   simp only[frzC,hb,kp];obtain⟨b,h1,hx⟩:=hr;exact⟨b,h1,λhv=>hx (jB hv).2⟩
 |fn g caps=>
  cases hb:caps.all (qFc id) with
  |false=>simp only[frzC,hb,kp];exact hr.cell
  |true=>
   simp only[frzC,hb,ki];obtain⟨vs,hv,hs,hx⟩:=hr;refine⟨vs,hv,hs,λj hj=>?_⟩;have:=hx j hj;generalize caps.getD j .unk=c at this;cases c with
   |bptr i k' j=>obtain⟨b,h1,hx⟩:=this;exact⟨b,h1,λhv=>hx (jB hv).2⟩
   |_=>exact YY this
 |yl R b ts caps=>
  cases hb:caps.all (qFc id) with
  |false=>simp only[frzC,hb,kp];exact hr.cell
  |true=>
   simp only[frzC,hb,ki];refine⟨hr.1,λj hj=>?_⟩;have:=hr.2 j hj;generalize caps.getD j .unk=c at this;cases c with
   |bptr i k' j=>obtain⟨b,h1,hx⟩:=this;exact⟨b,h1,λhv=>hx (jB hv).2⟩
   |_=>exact YY this
 |unk=>exact hr
 |val v=>exact YY hr
 |emp=>exact YY hr
 |lst n f=>exact YY hr
 |lptr cs=>exact YY hr
 |aptr n sz f=>exact YY hr
theorem Sim1.frz {K:Ctx} {M:Mem} {st:St} {a:Act} {w:World} (h:Sim1 K M st a w) {id:Nat} (hid:max K.n K.m<=id) {st':St} {q:Option Prop} (hf:st.frz id=some (st',q)) (hq:oP q):Sim1 K (M.drop id) st' a w:=by
 unfold St.frz at hf;split at hf
 ·rename_i k e sz n f hl;cases hp:Nat.blt 0 sz with
  |false=>rw[hp] at hf;cases hf
  |true=>
   rw[hp] at hf;cases hf;obtain⟨q1,q2⟩:=ZW hq;have hpos:0<sz:=by simpa[kH] using hp
   have hs:=h.1;obtain⟨hver,hrow⟩:=hs.objs id k _ hl;have hown:∀b,M.blk id=some b->(M.drop id).imm b:=λb hb=>by
    refine⟨?_,fun⟨i,k',hv,hbk⟩=>?_⟩
    ·refine(hs.area b).2 (.inr ?_);rcases(hs.rng id k b hver hb).1 with h1|h1
     ·exact h1
     ·have:=(K.hIn id b h1).1;omega
    ·obtain⟨h1,h2⟩:=jB hv;exact h1 (hs.inj i id k' k b h2 hver hbk hb)
   have hφ:=qJk ⟨hver,hrow⟩ hpos hown;refine⟨⟨λi j k l b hi hj hbi hbj=>hs.inj i j k l b (jB hi).2 (jB hj).2 hbi hbj,λi k b hv hb=>hs.rng i k b (jB hv).2 hb,λi k him hv=>hs.fix i k him (jB hv).2,hs.below,hs.shape,hs.area,hs.size,hs.defers.less λD ⟨x,k,hv,hb⟩=>⟨x,k,(jB hv).2,hb⟩,λs x hx=>?_,λi k' o ho=>?_⟩,λi hi=>?_⟩
   ·obtain⟨y,hy,hyr⟩:=phS_look hφ q1 hx;exact hyr _ (hs.slots s y hy)
   ·obtain⟨hne,o',h1,h2,rfl⟩:=qAO q2 ho;have hr:=hs.objs i k' o' h1;have hv:(M.drop id).ver i=some k':=by simp only[Mem.drop,hne,if_false];exact hr.ver
    cases o' with
    |box e cs=>obtain⟨_,b,arr,e1,e2,e3⟩:=hr;exact⟨hv,b,arr,e1,e2,qBu hφ h2 e3⟩
    |row e sz n f=>
     refine⟨hv,?_⟩;rcases hr.2 with h0|⟨b,arr,e1,e2,e3,e4⟩
     ·exact .inl h0
     ·exact .inr ⟨b,arr,e1,e2,e3,λi hi=>⟨(e4 i hi).1,λj hj=>YY ((e4 i hi).2 j hj)⟩⟩
    |lp R b s j=>exact⟨hv,hr.2.1,hr.2.2⟩
   ·obtain⟨k',hk'⟩:=kQ.1 hi;obtain⟨h1,h2⟩:=jB hk';exact phB_hits (h.2 i (by rw[h2];simp)) h1
 ·cases hf
def lenC (id k n':Nat):C->C×Option Prop
 | .own i k' sz len=>bif Nat.beq i id&&Nat.beq k' k then(.own i k' sz n',some (len=n')) else(.own i k' sz len,none)
 |c=>(c,none)
theorem qJg {w:World} {M:Mem} {id k n':Nat}:∀c v,oP (lenC id k n' c).2->CRep w M c v->CRep w M (lenC id k n' c).1 v:=by
 intro c v ho hr;cases c with
 |own i k' sz len=>
  cases hb:Nat.beq i id&&Nat.beq k' k with
  |false=>simp only[lenC,hb,kp];exact hr
  |true=>
   simp only[lenC,hb,ki] at ho⊢;have ho':len=n':=ho;subst ho';exact hr
 |_=>exact hr
def lenO (φ:C->C×Option Prop) (b:Bool) (n':Nat):O->O×Option Prop
 | .row e sz n f=>bif b then(.row e sz n' f,some (n=n')) else(.row e sz n f,none)
 | .box e cs=>(.box e (phL φ cs).1,(phL φ cs).2)
 | .lp R b s j=>(.lp R b s j,none)
def lenB (φ:C->C×Option Prop) (id k n':Nat):List (Nat×(Nat×O))->List (Nat×(Nat×O))×Option Prop
 |[]=>([],none)
 |p::r=>((p.1,(p.2.1,(lenO φ (Nat.beq p.1 id&&Nat.beq p.2.1 k) n' p.2.2).1))::(lenB φ id k n' r).1,an (lenO φ (Nat.beq p.1 id&&Nat.beq p.2.1 k) n' p.2.2).2 (lenB φ id k n' r).2)
def St.len (st:St) (id n':Nat):Option (St×Option Prop):=
 match look id st.objs with
 |some (k,.row _ _ _ _)=>some ({slots:=(phS (lenC id k n') st.slots).1,objs:=(lenB (lenC id k n') id k n' st.objs).1},an (phS (lenC id k n') st.slots).2 (lenB (lenC id k n') id k n' st.objs).2)
 |_=>none
theorem qHa {w:World} {M:Mem} {φ:C->C×Option Prop} {id k0 n':Nat} (hφ:∀c v,oP (φ c).2->CRep w M c v->CRep w M (φ c).1 v):∀{l:List (Nat×(Nat×O))} {i k:Nat} {o:O},oP (lenB φ id k0 n' l).2->look i (lenB φ id k0 n' l).1=some (k,o)->∃o',look i l=some (k,o')/\(ORep w M i k o'->ORep w M i k o)
 |(j,(kj,y))::r,i,k,o,hp,hl=>by
  obtain⟨h1,h2⟩:=ZW hp;have hl':look i ((j,(kj,(lenO φ (Nat.beq j id&&Nat.beq kj k0) n' y).1))::(lenB φ id k0 n' r).1)=some (k,o):=hl;rw[look_cons] at hl';rw[look_cons];split at hl'
  ·rename_i hk;cases hl';rw[if_pos hk];refine⟨y,rfl,λhr=>?_⟩;cases y with
   |box e cs=>obtain⟨hv,b,arr,e1,e2,e3⟩:=hr;exact⟨hv,b,arr,e1,e2,qBu hφ h1 e3⟩
   |row e sz n f=>
    cases hb:Nat.beq j id&&Nat.beq kj k0 with
    |false=>simp only[lenO,hb,kp];exact hr
    |true=>
     simp only[lenO,hb,ki] at h1⊢;have h1':n=n':=h1;subst h1';exact hr
   |lp R b s j=>exact hr
  ·rename_i hk;rw[if_neg hk];exact qHa hφ h2 hl'
theorem lenB_hits {φ:C->C×Option Prop} {id k n':Nat}:∀{l:List (Nat×(Nat×O))} {i:Nat},hits l i->hits (lenB φ id k n' l).1 i
 |[],_,h=>by cases h
 |(j,(kj,y))::r,i,h=>by
  unfold hits at h⊢;show(look i ((j,(kj,(lenO φ (Nat.beq j id&&Nat.beq kj k) n' y).1))::(lenB φ id k n' r).1)).isSome=true;rw[look_cons] at h⊢;split
  ·rfl
  ·rename_i hk;rw[if_neg hk] at h;exact lenB_hits h
theorem Sim1.len {K:Ctx} {M:Mem} {st:St} {a:Act} {w:World} (h:Sim1 K M st a w) {id n':Nat} {st':St} {q:Option Prop} (hf:st.len id n'=some (st',q)) (hq:oP q):Sim1 K M st' a w:=by
 unfold St.len at hf;split at hf
 ·rename_i k e sz n f hl;cases hf;obtain⟨q1,q2⟩:=ZW hq;have hs:=h.1;refine⟨⟨hs.inj,hs.rng,hs.fix,hs.below,hs.shape,hs.area,hs.size,hs.defers,λs x hx=>?_,λi k' o ho=>?_⟩,λi hi=>lenB_hits (h.2 i hi)⟩
  ·obtain⟨y,hy,hyr⟩:=phS_look (qJg (w:=w) (M:=M)) q1 hx;exact hyr _ (hs.slots s y hy)
  ·obtain⟨o',h1,h2⟩:=qHa (qJg (w:=w) (M:=M)) q2 ho;exact h2 (hs.objs i k' o' h1)
 ·cases hf
end Go.SL

namespace Go.SL
open Go.RowKit
def qIb :Op->Option (Operand×TypeId)
 | .call {callee:= .builtin .clear,args,argTypes}=>match args.toList,argTypes.toList with|[s],[t]=>some (s,t)|_,_=>none
 |_=>none
theorem qJD {op:Op} {s:Operand} {t:TypeId} (h:qIb op=some (s,t)):op= .call {callee:= .builtin .clear,args:= #[s],argTypes:= #[t]}:=by
 unfold qIb at h;split at h
 ·rename_i args ats;split at h
  ·rename_i s' t' h1 h2;cases h;obtain rfl:args= #[s]:=by apply ut.1;simpa using h1
   obtain rfl:ats= #[t]:=by apply ut.1;simpa using h2
   rfl
  ·cases h
 ·cases h
theorem qGq (zs:Array Value) (n:Nat):(Builtin.zeroCells zs n).size=n*zs.size:=by
 unfold Builtin.zeroCells;simp
theorem qHZ {zs:Array Value} (h:∀v∈zs.toList,v.oneCell'=true) (n:Nat):∀v∈(Builtin.zeroCells zs n).toList,v.oneCell'=true:=by
 intro v hv;unfold Builtin.zeroCells at hv;simp only[Array.toList_map,Array.toList_range,uX,gb] at hv;obtain⟨i,hi,rfl⟩:=hv;have hpos:0<zs.size:=by
  rcases Nat.eq_zero_or_pos zs.size with h0|h0
  ·rw[h0] at hi;omega
  ·exact h0
 have hlt:i % zs.size<zs.size:=Nat.mod_lt _ hpos;rw[getElem!_pos zs _ hlt];exact h _ (Array.getElem_mem_toList hlt)
theorem qK9 {K:Ctx} {st:St} {o:Oper} (s:Operand) (t e:TypeId) (id k sz off len:Nat) (i:TypeInfo) (cs:List C) (n:Nat) (f:Nat->List C) (ho:qIb o.op=some (s,t)) (hs:op1 K.globs st s=some (.one (.sub id k sz off len))) (ht:K.P.underlying t=some (.slice e)) (hi:K.P.info? e=some i)
  (hz:DQ K.P e=some cs) (hcs:cs.length=sz) (hl:look id st.objs=some (k,.row e sz n f)) (hle:off+len<=n):Step K st o [] [(id,(k,.row e sz off f))] .undef:=by
 refine ZC (by rw[qJD ho];rfl) ?_;intro M a w h _;obtain⟨hver,hrow⟩:=h.objs id k _ hl;obtain⟨z,hzr,hzc⟩:=FQ hz w M;have hop:=qJD ho;have fin:∀w',(Builtin.clear_ #[t] o.type #[a.eval s]).run K.P w= .ok (.tuple #[]) w'->(execOp a.eval o).run K.P w= .ok (.value (.tuple #[])) w':=λw' hr=>by
  unfold execOp;rw[hop];simp[resolve,invoke,builtin,hr]
 have keep:∀w',Ext (drOf K.globs) M w M w' (hits [(id,(k,.row e sz off f))]) (zG [])->(Builtin.clear_ #[t] o.type #[a.eval s]).run K.P w= .ok (.tuple #[]) w'->ORep w' M id k (.row e sz off f)->o.wp K.P a w (λa' w'=>∃v M',a'=a.put o.dst v/\Ext (drOf K.globs) M w M' w' (hits [(id,(k,.row e sz off f))]) (zG [])/\VRep w' M' .undef v/\(∀i k' o',look i [(id,(k,.row e sz off f))]=some (k',o')->ORep w' M' i k' o')/\(∀i,M'.ver i≠none->M.ver i≠none\/hits [(id,(k,.row e sz off f))] i)) (λ_ _ _=>False):=λw' he hr hor=>by
  unfold Oper.wp;rw[fin w' hr];refine⟨_,M,rfl,he,rfl,λi' l' p hl'=>?_,λi hi=> .inl hi⟩;obtain⟨rfl,rfl,rfl⟩:=QI hl';exact hor
 have same:Ext (drOf K.globs) M w M w (hits [(id,(k,.row e sz off f))]) (zG []):=⟨λ_ _ h=> .inr h,λ_ _ h _=>h,λ_ _ _ _=>rfl,λ_ _ _ h=>(by cases h),h.inj,λi k b h1 h2=>(h.rng i k b h1 h2).2,λ_ _ _=>rfl,λb arr e h=>⟨arr,h,rfl⟩,ko _,rfl,rfl,rfl,rfl,λ_=>ko _⟩
 have less:ORep w M id k (.row e sz off f):=by
  refine⟨hver,?_⟩;rcases hrow with⟨h0,h1⟩|⟨b,arr,hb,hh,hn,hc⟩
  ·exact .inl ⟨h0,by omega⟩
  ·exact .inr ⟨b,arr,hb,hh,uC (kB _ (by omega)) hn,λi hi=>hc i (by omega)⟩
 have nothing:∀(p:Option Addr) (c:Nat),a.eval s= .slice p 0 c->(Builtin.clear_ #[t] o.type #[a.eval s]).run K.P w= .ok (.tuple #[]) w:=λp c hv=>by
  rw[hv];cases p<;>simp[Builtin.clear_,run_underlying ht]
 rcases op1_rep h hs with⟨h0,p,hv⟩|⟨b,cap,hv,h1,h2,hx⟩
 ·exact keep w same (nothing p 0 hv) less
 ·by_cases hz0:len=0
  ·subst hz0;exact keep w same (nothing _ _ hv) less
  ·obtain⟨hb,arr,e',hh,hsz⟩:=hx hver;rcases hrow with⟨hn0,_⟩|⟨b',arr',hb',hh',hn,hc⟩
   ·rw[hb] at hn0;cases hn0
   ·have hbb:b'=b:=kF (hb'.symm.trans hb);subst hbb;rw[hh] at hh';cases hh';have hzs:z.cells.size=sz:=by rw[hzc.1,hcs]
    have hone:=FK hzc;have hzl:(Builtin.zeroCells z.cells len).toList.length=len*sz:=by simp[qGq,hzs]
    have hfit:off*sz+(Builtin.zeroCells z.cells len).toList.length<=arr.size:=by
     rw[hzl,hsz,<-kM];exact kB _ (by omega)
    have hrun:=run_storeCells_at K.P b' (off*sz) e (Builtin.zeroCells z.cells len).toList 0 arr w hh (by simpa using hfit) (qHZ hone len);simp only[ub] at hrun;have hsame:(arr.toList.take (off*sz)++(Builtin.zeroCells z.cells len).toList++arr.toList.drop (off*sz+(Builtin.zeroCells z.cells len).toList.length)).toArray.size=arr.size:=by simp at hfit⊢;omega
    have he:=Ext.write (o:= .row e sz off f) h hver hb hh hsame;refine keep _ he ?_ ⟨hver,.inr ⟨b',_,hb,setRow_heap w b' arr _ e (0,0) hh,?_,λi hi=>⟨(hc i (by omega)).1,λj hj=>?_⟩⟩⟩
    ·rw[hv]
     match len,hz0 with
     |l+1,_=>
      simp only[Builtin.clear_,Sem.run_bind,run_underlying ht,Result.andThen_ok,List.getElem?_toArray,List.getElem?_cons_zero,hzr,hrun,Sem.run_pure]
    ·rw[hsame,hsz];exact kB _ (by omega)
    ·have hij:i*sz+j<off*sz:=PD hi hj;have hget:((arr.toList.take (off*sz)++(Builtin.zeroCells z.cells len).toList++arr.toList.drop (off*sz+(Builtin.zeroCells z.cells len).toList.length)).toArray).getD (i*sz+j) undef=arr.getD (i*sz+j) undef:=by
      rw[TR,DW _ _ _ _ _ (by simpa using hfit),if_neg (by omega),<-TR]
     rw[hget];exact he.irep ((hc i (by omega)).2 j hj)
theorem qJE {w:World} {ok:Nat->Prop} {n:Nat} {f g:Nat->List C} {v:Value} (h:IRep w ok (.lst n f) v) (hg:∀i,i<n->g i=f i):IRep w ok (.lst n g) v:=by
 cases h with
 |lst0 a=>exact .lst0 _ _
 |lst b o n cap sz f G hn hm hl hb hc hr=>exact .lst b o n cap sz g G hn hm (λi hi=>by rw[hg i hi];exact hl i hi) hb hc (λi j hi hj=>by rw[hg i hi];exact hr i j hi hj)
theorem qKZ {K:Ctx} {st:St} {o:Oper} {n n':Nat} {f f':Nat->List C} {ob:Prop} (hp:pev2 K.P K.globs st o.op=some (.v (.one (.lst n f)),ob)) (hob:ob) (hn:n=n') (hf:∀i,i<n->f' i=f i):Step K st o [] [] (.v (.one (.lst n' f'))):=by
 subst hn;refine ZC (qKv hp) ?_;intro M a w h _;obtain⟨v,hv,hr⟩:=qFX h hp hob;unfold Oper.wp;rw[hv];exact⟨v,M,rfl,Ext.same h rfl rfl rfl rfl,qJE hr hf,λi k o h=>(by cases h),λi hi=> .inl hi⟩
end Go.SL

namespace Go.SL
open Go.RowKit
inductive Fin where
  |own (s id e sz:Nat) (f:Nat->List C)
  |ownB (bx j id e sz:Nat) (f:Nat->List C)
  |frz (id:Nat)
  |row (id n:Nat) (f:Nat->List C)
  |len (id n:Nat)
  |swp (i j:Nat)
  |lpn (id:Nat) (s:LoopState) (j:Option Code)
def fin1 (K:Ctx) (st:St):Fin->Option (St×Option Prop)
  | .own s id e sz f=>match look s st.slots with
    |some (.v (.one .emp))=>bif st.freeB [(id,0)]&&(Nat.blt s K.nt&&Nat.ble K.m id) then some (st.app (some s) (.v (.one (.own id 0 sz 0))) [(id,(0,.row e sz 0 f))],none) else none
    |_=>none
  | .ownB bx j id e sz f=>match look bx st.objs with
    | some (kb,.box eb cs)=>(match cs[j]? with
      |some .emp=>bif st.freeB [(id,0)]&&(!Nat.beq bx id&&Nat.ble K.m id) then some (st.app none .any [(bx,(kb,.box eb (cs.set j (.own id 0 sz 0)))),(id,(0,.row e sz 0 f))],none) else none
      |_=>none)
    |_=>none
  | .frz id=>bif Nat.ble K.n id&&Nat.ble K.m id then st.frz id else none
  | .row id n' f'=>match look id st.objs with|some (k,.row e sz n f)=>some (st.app none .any [(id,(k,.row e sz n' f'))],some (n'<=n/\∀i,i<n'->f' i=f i))|_=>none
  | .len id n'=>st.len id n'
  | .swp i j=>bif Nat.ble K.n i&&(Nat.ble K.m i&&(Nat.ble K.n j&&Nat.ble K.m j)) then some (st.swp i j,none) else none
  | .lpn id s' j'=>match look id st.objs with|some (k,.lp R b s j)=>some (st.app none .any [(id,(k,.lp R b s' j'))],some (s=s'/\j=j'))|_=>none
def RY (K:Ctx):List Fin->St->Option (St×Option Prop)
  |[],st=>some (st,none)
  |x::r,st=>match fin1 K st x with|some (st1,p)=>(match RY K r st1 with|some (st2,q)=>some (st2,an p q)|none=>none)|none=>none
theorem qNa {K:Ctx} {M:Mem} {a:Act} {w:World} {st st':St} {x:Fin} {q:Option Prop} (h:fin1 K st x=some (st',q)) (hq:oP q) (hs:Sim1 K M st a w):∃M',Sim1 K M' st' a w:=by
  cases x with
  | own s id e sz f=>
    simp only[fin1] at h;split at h
    · rename_i hl;cases hb:st.freeB [(id,0)]&&(Nat.blt s K.nt&&Nat.ble K.m id) with
      |false=>rw[hb] at h;cases h
      | true=>
        rw[hb] at h;cases h;simp only[kn] at hb;exact⟨_,hs.own s id e sz f hl hb.1 hb.2.2 hb.2.1⟩
    · cases h
  | ownB bx j id e sz f=>
    simp only[fin1] at h;split at h
    · rename_i kb eb cs hl;split at h
      · rename_i hj;cases hb:st.freeB [(id,0)]&&(!Nat.beq bx id&&Nat.ble K.m id) with
        |false=>rw[hb] at h;cases h
        | true=>
          rw[hb] at h;cases h;simp only[kn,uk] at hb;exact⟨_,hs.ownB bx kb eb j id e sz cs f hl hj hb.1 hb.2.2 hb.2.1⟩
      · cases h
    · cases h
  | frz id=>
    simp only[fin1] at h;cases hb:Nat.ble K.n id&&Nat.ble K.m id with
    |false=>rw[hb] at h;cases h
    | true=>
      rw[hb] at h;rw[kn,Nat.ble_eq,Nat.ble_eq] at hb;exact⟨_,hs.frz (by omega) h hq⟩
  | row id n' f'=>
    simp only[fin1] at h;split at h
    · rename_i k e sz n f hl;cases h;exact⟨_,hs.respell id k e sz n n' f f' hl hq.1 hq.2⟩
    · cases h
  |len id n'=>exact⟨_,hs.len h hq⟩
  | swp i j=>
    simp only[fin1] at h;cases hb:Nat.ble K.n i&&(Nat.ble K.m i&&(Nat.ble K.n j&&Nat.ble K.m j)) with
    |false=>rw[hb] at h;cases h
    | true=>
      rw[hb] at h;cases h;simp only[kn,Nat.ble_eq] at hb;exact⟨_,hs.swap i j (by omega) (by omega)⟩
  | lpn id s' j'=>
    simp only[fin1] at h;split at h
    · rename_i k R b s j hl;cases h;obtain⟨rfl,rfl⟩:s=s'/\j=j':=hq;refine⟨M,⟨hs.1.inj,hs.1.rng,hs.1.fix,hs.1.below,hs.1.shape,hs.1.area,hs.1.size,hs.1.defers,λx y hx=>hs.1.slots x y hx,λi k' o ho=>?_⟩,λi hi=>?_⟩
      · simp only[St.app,uQ,ul,look_cons] at ho;split at ho
        · rename_i e;subst e;cases ho;exact hs.1.objs _ _ _ hl
        · exact hs.1.objs i k' o ho
      · have:=hs.2 i hi;unfold hits at this⊢;simp only[St.app,uQ,ul,look_cons];split
        · rfl
        · exact this
    · cases h
theorem tkP {α:Type} (enc:α->List C) (d:α) (l:List α) (n n':Nat) (h:n'<=n):n'<=n/\∀i,i<n'->rowf enc d (l.take n') i=rowf enc d l i:=⟨h,qLK enc d l n'⟩
theorem DO {K:Ctx} {a:Act} {w:World}:∀{l:List Fin} {M:Mem} {st st':St} {q:Option Prop},RY K l st=some (st',q)->oP q->Sim1 K M st a w->∃M',Sim1 K M' st' a w
  |[],M,_,_,_,h,_,hs=>by cases h;exact⟨M,hs⟩
  | x::r,M,st,st',q,h,hq,hs=>by
    simp only[RY] at h;split at h
    · rename_i st1 p h1;split at h
      · rename_i st2 q2 h2;cases h;obtain⟨p1,p2⟩:=ZW hq;obtain⟨M1,hs1⟩:=qNa h1 p1 hs;exact DO h2 p2 hs1
      · cases h
    · cases h
structure Dir where
  pre:List Fin
  fx:Option Bool
  ex:Option Ent
  rw:Option (Nat×Nat×(Nat->List C))
def noOb :Op->Bool
  | .binOp .quo _ _ _ _| .binOp .rem _ _ _ _| .binOp .shl _ _ _ _| .binOp .shr _ _ _ _=>false
  | .move _| .assign _| .pick _ _ _| .unOp _ _ _| .convert _ _ _| .fieldAddr _ _ _| .field _ _ _| .extract _ _| .nilCheck _| .makeFunc _ _ _| .call _| .binOp _ _ _ _ _| .build _ _=>true
  |_=>false
def isTx (P:Program) (gl:List (Nat×C)) (st:St):Op->Bool
  | .binOp .add _ x _ _=>match op1 gl st x with|some (.one (.val (.string _)))=>true|_=>false
  | .convert _ d _=>match P.underlying d with|some .string=>true|_=>false
  |_=>false
def txRo (P:Program) (gl:List (Nat×C)) (st:St):Op->List Nat
  | .convert _ d x=>match P.underlying d,op1 gl st x with|some .string,some (.one (.own id _ _ _))=>[id]|_,_=>[]
  |_=>[]
def oev (P:Program) (gl:List (Nat×C)) (st:St) (nid:Nat) (op:Op):Option (V×List (Nat×Nat)×List (Nat×(Nat×O))×Option Prop×List Nat):=
  match op with
  | .box e x=>match op1 gl st x with|some y=>bif y.freeB [(nid,0)] then some (.v (.one (.bptr nid 0 0)),[(nid,0)],[(nid,(0,.box e y.cells))],none,[]) else none|none=>none
  | .alloc e=>match DQ P e with|some cs=>bif cs.all (C.freeB [(nid,0)]) then some (.v (.one (.bptr nid 0 0)),[(nid,0)],[(nid,(0,.box e cs))],none,[]) else none|none=>none
  | .store t p x=>match op1 gl st p,op1 gl st x with
    | some (.one (.bptr id k j)),some y=>(match look id st.objs with
      |some (k',.box e cs)=>bif Nat.beq k k'&&(Nat.beq (szOf P t) y.cells.length&&((P.info? t).isSome&&Nat.ble (j+y.cells.length) cs.length)) then some (.undef,[],[(id,(k,.box e (QH cs j y.cells)))],none,[id]) else none
      |_=>none)
    |_,_=>none
  | .load t p=>match pev2 P gl st op,op1 gl st p with
    |some (y,_),some (.one (.bptr id _ _))=>some (y,[],[],none,[id])
    |some (y,ob),some (.one (.rptr id _ _ _ _))=>some (y,[],[],some ob,[id])
    |some (y,_),some (.one (.lptr _))=>some (y,[],[],none,[])
    |some (y,_),some (.one (.aptr _ _ _))=>some (y,[],[],none,[])
    |_,_=>none
  |_=>match pev2 P gl st op with|some (y,ob)=>some (y,[],[],bif noOb op&&!isTx P gl st op then none else some ob,txRo P gl st op)|none=>none
section
variable {P :Program} {gl:List (Nat×C)} {st:St}
theorem qCb {t:TypeId} {p:Operand} {y:V} {ob:Prop} (h:pev P gl st (.load t p)=some (y,ob)) (hc:(∃id k j,op1 gl st p=some (.one (.bptr id k j)))\/(∃cs,op1 gl st p=some (.one (.lptr cs)))\/∃n sz f,op1 gl st p=some (.one (.aptr n sz f))):ob:=by
  simp only[pev] at h;split at h
  · rename_i x hx;unfold qH3 at h;rcases hc with⟨id,k,j,hc⟩|⟨cs,hc⟩|⟨n,sz,f,hc⟩
    · rw[hx] at hc;cases hc;simp only at h;split at h
      · rename_i cs o heq;rw[kG] at h;obtain⟨_,_,h⟩:=h;cases h;unfold DG at heq;simp only at heq;split at heq
        · rename_i k' e cs' hl;cases hk:Nat.beq k k' with
          |false=>rw[hk] at heq;cases heq
          |true=>rw[hk] at heq;cases heq;trivial
        · cases heq
      · cases h
    · rw[hx] at hc;cases hc;simp only at h;split at h
      · rename_i cs o heq;rw[kG] at h;obtain⟨_,_,h⟩:=h;cases h;unfold DG at heq;cases heq;trivial
      · cases h
    · rw[hx] at hc;cases hc;simp only at h;split at h
      · rename_i cs o heq;rw[kG] at h;obtain⟨_,_,h⟩:=h;cases h;unfold DG at heq;simp only at heq;cases hk:Nat.ble n 64&&(List.range n).all (λi=>Nat.beq (f i).length sz) with
        |false=>rw[hk] at heq;cases heq
        |true=>rw[hk] at heq;cases heq;trivial
      · cases h
  · cases h
theorem qLR {op:BinOp} {t:TypeId} {x y:V1} {z:V1} {ob:Prop} (h:binV P op t x y=some (z,ob)) (h1:op≠ .quo) (h2:op≠ .rem) (h3:op≠ .shl) (h4:op≠ .shr) (h5:∀s,x= .one (.val (.string s))->op≠ .add):ob:=by
  unfold binV at h;split at h
  · rw[if_neg h3,if_neg h4] at h;split at h
    · split at h<;>first|(cases h;trivial)|exact absurd rfl h1|exact absurd rfl h2|cases h
    · cases h
  · split at h<;>first|(cases h;trivial)|cases h
  · split at h<;>first|(cases h;trivial)|exact absurd rfl (h5 _ rfl)|cases h
  · split at h
    · cases hg:P.eqGuardType P.depth t with
      |true=>rw[hg] at h;cases h
      |false=>rw[hg] at h;simp only[kp] at h;split at h<;>first|(cases h;trivial)|cases h
    · cases hg:P.eqGuardType P.depth t with
      |true=>rw[hg] at h;cases h
      |false=>rw[hg] at h;simp only[kp] at h;split at h<;>first|(cases h;trivial)|cases h
    · cases h
  · split at h<;>first|(cases h;trivial)|cases h
  · split at h<;>first|(cases h;trivial)|cases h
  · cases h
theorem qI8 {op:Op} {y:V} {ob:Prop} (hn:noOb op=true) (ht:isTx P gl st op=false) (h:pev P gl st op=some (y,ob)):ob:=by
  cases op with
  |move x=>simp only[pev] at h;split at h<;>cases h;trivial
  |assign x=>simp only[pev] at h;split at h<;>cases h;trivial
  | pick c a b=>
    simp only[pev] at h;split at h
    · split at h<;>cases h;trivial
    · cases h
  | binOp o t x z t2=>
    have h1:o≠ .quo:=λe=>by subst e;cases hn
    have h2:o≠ .rem:=λe=>by subst e;cases hn
    have h3:o≠ .shl:=λe=>by subst e;cases hn
    have h4:o≠ .shr:=λe=>by subst e;cases hn
    simp only[pev] at h;split at h
    · split at h
      · rename_i hb;cases h;refine qLR hb h1 h2 h3 h4 λs e eo=>?_;subst e;subst eo;rename_i hx _ _ _;simp_all[isTx]
      · cases h
    · cases h
  | unOp o t x=>
    simp only[pev] at h;split at h
    · unfold unV at h;split at h<;>first|(cases h;trivial)|cases h
    · cases h
  | convert s d x=>
    simp only[pev] at h;split at h
    · have hd:P.underlying d≠some .string:=λe=>by simp[isTx,e] at ht
      split at h
      · rename_i r hr;unfold qCW at hr;split at hr
        · exact absurd (by assumption:P.underlying d=some .string) hd
        · cases hr
      · unfold qIa at h;split at h
        · cases h;trivial
        · exact absurd (by assumption:P.underlying d=some .string) hd
        · exact absurd (by assumption:P.underlying d=some .string) hd
        · cases h
    · cases h
  | fieldAddr s x f=>
    simp only[pev] at h;split at h
    · unfold qFF at h;split at h
      · split at h
        · split at h
          · rename_i i _;cases hz:Nat.beq i.size 0 with
            |true=>rw[hz] at h;cases h
            | false=>
              rw[hz] at h;simp only[kp,kG] at h;obtain⟨_,_,h⟩:=h;cases h;trivial
          · cases h
        · cases h
      · cases h
    · cases h
  | field s x f=>
    simp only[pev] at h;split at h
    · split at h
      · split at h<;>first|(cases h;trivial)|cases h
      · cases h
    · cases h
  | extract x i=>
    simp only[pev] at h;split at h
    · split at h<;>first|(cases h;trivial)|cases h
    · cases h
  |nilCheck x=>simp only[pev] at h;split at h<;>first|(cases h;trivial)|cases h
  | build t ps=>
    simp only[pev] at h;split at h
    · unfold qFC at h;split at h
      · rename_i fs z _ _;cases hf:fs.toList.all (λf=>(P.info? f.type).isSome) with
        |false=>rw[hf] at h;cases h
        | true=>
          rw[hf] at h;simp only[ki,kG] at h;obtain⟨_,_,h⟩:=h;cases h;trivial
      · split at h
        · rw[kG] at h;obtain⟨_,_,h⟩:=h;cases h;trivial
        · cases h
      · cases h
    · cases h
  | call c=>
    obtain⟨callee,args,ats⟩:=c;cases callee with
    | builtin b=>
      simp only[pev] at h;split at h
      · unfold lenV at h;split at h<;>first|(cases h;trivial)|cases h
      · split at h<;>first|(cases h;trivial)|cases h
      · split at h<;>first|(cases h;trivial)|cases h
      · cases h
    |_=>cases h
  |makeFunc f a b=>cases h
  |_=>cases hn
theorem qMc {op:Op} {y:V} {ob:Prop} (hn:noOb op=true) (ht:isTx P gl st op=false) (h:pev2 P gl st op=some (y,ob)):ob:=by
  unfold pev2 at h;split at h
  · split at h
    · split at h<;>first|(cases h;trivial)|cases h
    · cases h
  · split at h
    · split at h<;>first|(cases h;trivial)|cases h
    · cases h
  · cases hn
  · cases hn
  · split at h
    · split at h<;>first|(cases h;trivial)|cases h
    · exact qI8 hn ht h
  · exact qI8 hn ht h
end
theorem qMW {K:Ctx} {st:St} {o:Oper} {nid:Nat} {x:V} {nv:List (Nat×Nat)} {ob:List (Nat×(Nat×O))} {q:Option Prop} {ro:List Nat} (h:oev K.P K.globs st nid o.op=some (x,nv,ob,q,ro)) (hq:oP q):Step K st o nv ob x:=by
  unfold oev at h;split at h
  · rename_i e y hop;split at h
    · rename_i z hz;cases hf:z.freeB [(nid,0)] with
      |false=>rw[hf] at h;cases h
      |true=>rw[hf] at h;cases h;exact Step_box e y nid 0 z hop hz hf
    · cases h
  · rename_i e hop;split at h
    · rename_i cs hz;cases hf:cs.all (C.freeB [(nid,0)]) with
      |false=>rw[hf] at h;cases h
      |true=>rw[hf] at h;cases h;exact Step_alloc e nid 0 cs hop hz hf
    · cases h
  · rename_i t p y hop;split at h
    · rename_i id k j z hp hy;split at h
      · rename_i k' e cs hl;cases hb:Nat.beq k k'&&(Nat.beq (szOf K.P t) z.cells.length&&((K.P.info? t).isSome&&Nat.ble (j+z.cells.length) cs.length)) with
        |false=>rw[hb] at h;cases h
        | true=>
          rw[hb] at h;cases h;simp only[kn] at hb;obtain⟨h1,h2,h3,h4⟩:=hb;have hk:=kf h1;subst hk;exact qGt t p y id k j e cs z _ hop hp hy hl (kf h2) h3 h4 rfl
      · cases h
    · cases h
  · rename_i t p hop;have hpe:∀r,pev2 K.P K.globs st o.op=r->pev K.P K.globs st (.load t p)=r:=λr hr=>by rw[hop] at hr;exact hr
    split at h
    · rename_i y ob' id k j h1 h2;cases h;exact Step_pure2 h1 (qCb (hpe _ h1) (.inl ⟨_,_,_,h2⟩))
    · rename_i y ob' id k sz i j h1 h2;cases h;exact Step_pure2 h1 hq
    · rename_i y ob' cs h1 h2;cases h;exact Step_pure2 h1 (qCb (hpe _ h1) (.inr (.inl ⟨_,h2⟩)))
    · rename_i y ob' n sz f h1 h2;cases h;exact Step_pure2 h1 (qCb (hpe _ h1) (.inr (.inr ⟨_,_,_,h2⟩)))
    · cases h
  · split at h
    · rename_i y ob' h1;cases h;cases hn:noOb o.op&&!isTx K.P K.globs st o.op with
      | true=>
        rw[kn] at hn;exact Step_pure2 h1 (qMc hn.1 (by simpa using hn.2) h1)
      |false=>rw[hn] at hq;exact Step_pure2 h1 hq
    · cases h
def rowEv (P:Program) (gl:List (Nat×C)) (st:St) (r:Nat×Nat×(Nat->List C)) (op:Op):Option (V×List (Nat×Nat)×List (Nat×(Nat×O))×Option Prop×List Nat):=
  match op with
  | .makeSlice t l c=>match op1 gl st l,op1 gl st c,P.underlying t with
    | some (.one (.val (.int _ z))),some (.one (.val (.int _ z'))),some (.slice e)=>(match P.info? e,DQ P e with
      |some i,some cs=>bif Nat.beq cs.length i.size&&(cs.all C.isImm&&Nat.blt 0 i.size) then
          some (.v (.one (.own r.1 r.2.1 i.size z.toNat)),[(r.1,r.2.1)],[(r.1,(r.2.1,.row e i.size z.toNat r.2.2))],some (z'=z/\(0<=z/\(i.bytes:Int)*z<=140737488355328/\z<=9223372036854775807)/\∀m,m<z.toNat->EL (r.2.2 m) cs),[]) else none
      |_,_=>none)
    |_,_,_=>none
  | .buildSlice t len parts=>match qAy gl st parts.toList,P.underlying t with
    | some ps,some (.slice e)=>(match P.info? e,DQ P e with
      | some i,some cs=>(match EP (λj=>some (j*i.size,i.size)) ((List.range (len*i.size)).map λj=>cs.getD (j % i.size) .unk) ps with
        |some out=>bif Nat.beq cs.length i.size&&(Nat.blt 0 i.size&&(Nat.ble (len*i.size) 16777216&&(out.all C.isImm&&Nat.beq out.length (len*i.size)))) then
            some (.v (.one (.own r.1 r.2.1 i.size len)),[(r.1,r.2.1)],[(r.1,(r.2.1,.row e i.size len r.2.2))],some (∀m,m<len->r.2.2 m=OU out i.size m),[]) else none
        |none=>none)
      |_,_=>none)
    |_,_=>none
  | .store t p x=>match op1 gl st p,op1 gl st x with
    | some (.one (.rptr id k sz i j)),some y=>(match look id st.objs with
      |some (k',.row e sz' n f)=>bif Nat.beq k k'&&(Nat.beq sz sz'&&(Nat.beq (szOf P t) y.cells.length&&((P.info? t).isSome&&(y.cells.all C.isImm&&Nat.ble (j+y.cells.length) sz)))) then
          some (.undef,[],[(id,(k,.row e sz n r.2.2))],some (i<n/\∀m,m<n->r.2.2 m=if m=i then QH (f i) j y.cells else f m),[id]) else none
      |_=>none)
    |_,_=>none
  | .slice t x lo hi mx=>match pev2 P gl st (.slice t x lo hi mx) with
    |some (.v (.one (.lst n f)),ob)=>some (.v (.one (.lst r.1 r.2.2)),[],[],some (ob/\n=r.1/\∀i,i<n->r.2.2 i=f i),[])
    |_=>none
  | .call c=>match qIb (.call c) with
   |some (s,t)=>(match op1 gl st s,P.underlying t with
    | some (.one (.sub id k sz off len)),some (.slice e)=>(match P.info? e,DQ P e,look id st.objs with
      |some _,some cs,some (k',.row e' sz' n f)=>bif Nat.beq k k'&&(Nat.beq sz sz'&&(Nat.beq e' e&&Nat.beq cs.length sz)) then some (.undef,[],[(id,(k,.row e sz off f))],some (off+len<=n),[id]) else none
      |_,_,_=>none)
    |_,_=>none)
   |none=>match qCX (.call c) with
    | some (s,x,t)=>(match op1 gl st s,op1 gl st x,P.underlying t with
      | some (.one (.own id k sz len)),some xv,some (.slice e)=>(match look id st.objs,P.info? e,qC5 st xv with
        | some (k',.row e' sz' n f),some i,some (m,g,ob)=>(match i.zero with
          |some z=>bif Nat.beq k k'&&(Nat.beq sz i.size&&(Nat.beq sz' i.size&&(Nat.beq e' e&&(Nat.beq z.cells.size i.size&&(Nat.blt 0 i.size&&Nat.blt 0 i.bytes))))) then
              some (.v (.one (.own id r.2.1 i.size (len+m))),[(id,r.2.1)],[(id,(r.2.1,.row e i.size (len+m) r.2.2))],
                some (ob/\(∀j,j<m->(g j).length=i.size)/\len<=n/\(len+m)*i.bytes<=140737488355328/\∀j,j<len+m->r.2.2 j=if j<len then f j else g (j-len)),id::srcIds xv) else none
          |none=>none)
        |_,_,_=>none)
      | some (.one .emp),some xv,some (.slice e)=>(match P.info? e,qC5 st xv with
        | some i,some (m,g,ob)=>(match i.zero with
          |some z=>bif Nat.beq z.cells.size i.size&&(Nat.blt 0 i.size&&Nat.blt 0 i.bytes) then
              some (.v (.one (.own r.1 r.2.1 i.size m)),[(r.1,r.2.1)],[(r.1,(r.2.1,.row e i.size m g))],some (ob/\(∀j,j<m->(g j).length=i.size)/\m*i.bytes<=140737488355328),srcIds xv) else none
          |none=>none)
        |_,_=>none)
      |_,_,_=>none)
    |none=>none
  |_=>none
where
  srcIds:V1->List Nat
    | .one (.own id _ _ _)=>[id]
    | .one (.sub id _ _ _ _)=>[id]
    |_=>[]
theorem qKE {K:Ctx} {st:St} {o:Oper} {r:Nat×Nat×(Nat->List C)} {x:V} {nv:List (Nat×Nat)} {ob:List (Nat×(Nat×O))} {q:Option Prop} {ro:List Nat} (h:rowEv K.P K.globs st r o.op=some (x,nv,ob,q,ro)) (hq:oP q):Step K st o nv ob x:=by
  unfold rowEv at h;split at h
  · rename_i t l c hop;split at h
    · rename_i kl z kc z' e hl hc ht;split at h
      · rename_i i cs hi hz;cases hb:Nat.beq cs.length i.size&&(cs.all C.isImm&&Nat.blt 0 i.size) with
        |false=>rw[hb] at h;cases h
        | true=>
          rw[hb] at h;cases h;simp only[kn (a:=Nat.beq cs.length i.size),kn (a:=cs.all C.isImm)] at hb;obtain⟨rfl,⟨h0,h1,h2⟩,h3⟩:=hq;exact qLt t e l c r.1 r.2.1 kl kc z' i cs hop hl hc ht hi hz hb.1 hb.2.1 hb.2.2 h0 h1 h2 r.2.2 h3
      · cases h
    · cases h
  · rename_i t len parts hop;split at h
    · rename_i ps e hps ht;split at h
      · rename_i i cs hi hz;split at h
        · rename_i out hout;cases hb:Nat.beq cs.length i.size&&(Nat.blt 0 i.size&&(Nat.ble (len*i.size) 16777216&&(out.all C.isImm&&Nat.beq out.length (len*i.size)))) with
          |false=>rw[hb] at h;cases h
          | true=>
            rw[hb] at h;cases h;simp only[kn (a:=Nat.beq cs.length i.size),kn (a:=Nat.blt 0 i.size),kn (a:=Nat.ble (len*i.size) 16777216),kn (a:=out.all C.isImm)] at hb;exact qMY t e len parts r.1 r.2.1 i cs ps out hop hps ht hi hz hb.1 hb.2.1 hb.2.2.1 hout hb.2.2.2.1 hb.2.2.2.2 r.2.2 hq
        · cases h
      · cases h
    · cases h
  · rename_i t p y hop;split at h
    · rename_i id k sz i j z hp hy;split at h
      · rename_i k' e sz' n f hl;cases hb:Nat.beq k k'&&(Nat.beq sz sz'&&(Nat.beq (szOf K.P t) z.cells.length&&((K.P.info? t).isSome&&(z.cells.all C.isImm&&Nat.ble (j+z.cells.length) sz)))) with
        |false=>rw[hb] at h;cases h
        | true=>
          rw[hb] at h;cases h;simp only[kn (a:=Nat.beq k k'),kn (a:=Nat.beq sz sz'),kn (a:=Nat.beq (szOf K.P t) z.cells.length),kn (a:=(K.P.info? t).isSome),kn (a:=z.cells.all C.isImm)] at hb;obtain⟨h1,h2,h3,h4,h5,h6⟩:=hb;have e1:=kf h1;have e2:=kf h2;subst e1 e2;obtain⟨q1,q2⟩:=hq;exact qGo t p y id k sz i j e n f r.2.2 z hop hp hy hl (kf h3) h4 h5 h6 q1 q2
      · cases h
    · cases h
  · rename_i t x lo hi mx hop;split at h
    · rename_i n f ob' hp;cases h;obtain⟨q1,q2,q3⟩:=hq;exact qKZ (by rw[hop];exact hp) q1 q2 q3
    · cases h
  · rename_i c hop;split at h
    · rename_i s t hc;split at h
      · rename_i id k sz off len e hs ht;split at h
        · rename_i i cs k' e' sz' n f hi hz hl;cases hb:Nat.beq k k'&&(Nat.beq sz sz'&&(Nat.beq e' e&&Nat.beq cs.length sz)) with
          |false=>rw[hb] at h;cases h
          | true=>
            rw[hb] at h;cases h;simp only[kn] at hb;obtain⟨h1,h2,h3,h4⟩:=hb;have e1:=kf h1;have e2:=kf h2;have e3:=kf h3;have e4:=kf h4;subst e1 e2 e3;exact qK9 s t e' id k sz off len i cs n f (by rw[hop];exact hc) hs ht hi hz e4 hl hq
        · cases h
      · cases h
    · split at h
      · rename_i s y t ha;split at h
        · rename_i id k sz len xv e hs hx ht;split at h
          · rename_i k' e' sz' n f i m g ob' hl hi hsrc;split at h
            · rename_i z hz;cases hb:Nat.beq k k'&&(Nat.beq sz i.size&&(Nat.beq sz' i.size&&(Nat.beq e' e&&(Nat.beq z.cells.size i.size&&(Nat.blt 0 i.size&&Nat.blt 0 i.bytes))))) with
              |false=>rw[hb] at h;cases h
              | true=>
                rw[hb] at h;cases h;simp only[kn] at hb;obtain⟨h1,h2,h3,h4,h5,h6,h7⟩:=hb;have e1:=kf h1;have e2:=kf h2;have e3:=kf h3;have e4:=kf h4;subst e1 e2 e3 e4;obtain⟨q1,q2,q3,q4,q5⟩:=hq;exact qJF s y t e' id k r.2.1 len n m i z f g r.2.2 xv ob' (by rw[hop];exact ha) hs hl ht hi hz h5 h6 h7 hx hsrc q1 q2 q3 q4 q5
            · cases h
          · cases h
        · rename_i xv e hs hx ht;split at h
          · rename_i i m g ob' hi hsrc;split at h
            · rename_i z hz;cases hb:Nat.beq z.cells.size i.size&&(Nat.blt 0 i.size&&Nat.blt 0 i.bytes) with
              |false=>rw[hb] at h;cases h
              | true=>
                rw[hb] at h;cases h;simp only[kn] at hb;obtain⟨q1,q2,q3⟩:=hq;exact qJC s y t e r.1 r.2.1 m i z g xv ob' (by rw[hop];exact ha) hs ht hi hz hb.1 hb.2.1 hb.2.2 hx hsrc q1 q2 q3
            · cases h
          · cases h
        · cases h
      · cases h
  · cases h
def opEv (P:Program) (gl:List (Nat×C)) (st:St) (nid:Nat) (rw:Option (Nat×Nat×(Nat->List C))) (op:Op):Option (V×List (Nat×Nat)×List (Nat×(Nat×O))×Option Prop×List Nat):=
  match rw with
  |some r=>rowEv P gl st r op
  |none=>oev P gl st nid op
theorem qGY {K:Ctx} {st:St} {o:Oper} {nid:Nat} {rw:Option (Nat×Nat×(Nat->List C))} {x:V} {nv:List (Nat×Nat)} {ob:List (Nat×(Nat×O))} {q:Option Prop} {ro:List Nat} (h:opEv K.P K.globs st nid rw o.op=some (x,nv,ob,q,ro)) (hq:oP q):Step K st o nv ob x:=by
  cases rw with
  |some r=>exact qKE h hq
  |none=>exact qMW h hq
theorem mkP {α:Type} (enc:α->List C) (d x:α) (z:Int) (b:Nat) (cs:List C) (hg:0<=z/\(b:Int)*z<=140737488355328/\z<=9223372036854775807) (hx:enc x=cs):z=z/\(0<=z/\(b:Int)*z<=140737488355328/\z<=9223372036854775807)/\∀m,m<z.toNat->EL (rowf enc d (List.replicate z.toNat x) m) cs:=
  ⟨rfl,hg,λm hm=>by rw[qNb enc d x z.toNat cs hx m hm];exact EL.rfl _⟩
theorem stP {α:Type} (enc:α->List C) (d x:α) (l:List α) (n i j:Nat) (xs:List C) (hn:l.length=n) (hi:i<n) (hx:enc x=QH (enc (l.getD i d)) j xs):i<n/\∀m,m<n->rowf enc d (l.set i x) m=if m=i then QH (rowf enc d l i) j xs else rowf enc d l m:=⟨hi,qMw enc d x l n i j xs hn hx⟩
theorem apP {α:Type} (enc:α->List C) (d:α) (l r:List α) (n m sz b:Nat) (ob:Prop) (hob:ob) (hl:l.length=n) (hr:r.length=m) (hs:∀x,(enc x).length=sz) (hroom:(n+m)*b<=140737488355328):
    ob/\(∀j,j<m->(rowf enc d r j).length=sz)/\n<=n/\(n+m)*b<=140737488355328/\∀j,j<n+m->rowf enc d (l++r) j=if j<n then rowf enc d l j else rowf enc d r (j-n):=
  ⟨hob,λ_ _=>hs _,ko _,hroom,qMz enc d l r n m hl hr⟩
theorem slPlo {α:Type} (enc:α->List C) (d:α) (l:List α) (z:Int) (h:0<=z/\z<=((l.length:Nat):Int)):(0<=z/\z<=((l.length:Nat):Int))/\l.length-z.toNat=(l.drop z.toNat).length/\∀i,i<l.length-z.toNat->rowf enc d (l.drop z.toNat) i=rowf enc d l (z.toNat+i):=
  ⟨h,by simp,λi _=>by unfold rowf;simp[ke,ug]⟩
theorem slPhi {α:Type} (enc:α->List C) (d:α) (l:List α) (z:Int) (h:0<=z/\z<=((l.length:Nat):Int)):(0<=z/\z<=((l.length:Nat):Int))/\z.toNat-0=(l.take z.toNat).length/\∀i,i<z.toNat-0->rowf enc d (l.take z.toNat) i=rowf enc d l (0+i):=
  ⟨h,by simp;omega,λi hi=>by unfold rowf;rw[kv];simp only[ke,kP];rw[if_pos (by omega)]⟩
theorem litP {α:Type} (enc:α->List C) (d:α) (sz:Nat) (hs:∀x,(enc x).length=sz):∀(l:List α) (n:Nat),l.length=n->∀m,m<n->rowf enc d l m=OU (l.flatMap enc) sz m
  |[],_,rfl,m,hm=>by simp at hm
  | a::l,_,rfl,0,_=>by
    unfold rowf OU;simp only[uE,Nat.zero_mul,List.drop_zero,List.flatMap_cons];rw[List.take_append_of_le_length (by rw[hs];exact ko _),List.take_of_length_le (by rw[hs];exact ko _)]
  | a::l,_,rfl,m+1,hm=>by
    have ih:=litP enc d sz hs l l.length rfl m (by simpa using hm);unfold rowf OU at ih⊢;rw[List.getD_cons_succ,ih,List.flatMap_cons]
    congr 1
    rw[show(m+1)*sz=(enc a).length+m*sz by rw[hs,kM];omega,List.drop_append,List.drop_of_length_le (l:=enc a) (by omega),Nat.add_sub_cancel_left,ul]
end Go.SL

namespace Go.SL
open Go.RowKit
theorem qMD {K:Ctx} {M:Mem} {st:St} {a:Act} {w:World} (h:Sim K M st a w) (rs ro:List Nat):Sim K M (st.only rs ro) a w:=
 ⟨h.inj,h.rng,h.fix,h.below,h.shape,h.area,h.size,h.defers,λs x hx=>h.slots s x (XC hx).2,λi k o ho=>h.objs i k o (XC ho).2⟩
theorem qMf {st:St} {rs ro:List Nat} {i:Nat} (hm:i∈ro) (h:(look i st.objs).isSome=true):(look i (st.only rs ro).objs).isSome=true:=by
 show(look i (ro.filterMap λi=>(look i st.objs).map λx=>(i,x))).isSome=true
 induction ro with
 |nil=>cases hm
 |cons r ro ih=>
  simp only[List.filterMap_cons];by_cases hri:r=i
  ·subst hri;obtain⟨x,hx⟩:=kJ.1 h;simp[hx,look_cons]
  ·have hm2:i∈ro:=by rcases uh.1 hm with h|h;exact absurd h.symm hri;exact h
   cases hlr:look r st.objs with
   |none=>exact ih hm2
   |some q=>simp only[kI,look_cons,if_neg hri];exact ih hm2
theorem qLP {K:Ctx} {st:St} {o:Oper} {e:Ent} (hro:nvRo st e=true) (h:Step K (st.only e.rs e.ro) o e.nv e.ob e.x):Step K st o e.nv e.ob e.x:=by
 intro M a w hs hn;refine h M a w (qMD hs _ _) λi k hik=>?_;rcases hn i k hik with h1|h1
 ·left;have:=kw.1 hro (i,k) hik;simp only[uW,Option.isNone_iff_eq_none] at this;rcases this with h2|h2
  ·rw[uR] at h2;obtain⟨y,hy,hb⟩:=h2;have e1:=kf hb;exact qMf (by rw[show i=y from e1];exact hy) h1
  ·rw[h2] at h1;cases h1
 ·exact .inr h1
def Dir.none :Dir:=⟨[],.none,.none,.none⟩
def CA (dirs:List (Nat×Dir)) (i:Nat):Dir:=match look i dirs with|some d=>d|_=>Dir.none
def fixV (d:Option Bool) (x:V):Option (V×Option Prop):=
 match d,x with
 |none,x=>some (x,none)
 |some t,.v (.one (.val (.bool b)))=>some (qH7 t,some (b=t))
 |_,_=>none
theorem qKr {d:Option Bool} {x x':V} {q:Option Prop} (h:fixV d x=some (x',q)) (hq:oP q):x'=x:=by
 unfold fixV at h;split at h
 ·cases h;rfl
 ·cases h;cases hq;rfl
 ·cases h
def nxt (nid:Nat) (nv:List (Nat×Nat)):Nat:=nv.foldl (λm p=>bif Nat.ble m p.1 then p.1+1 else m) nid
def runO (K:Ctx) (ops:Array Oper) (dirs:List (Nat×Dir)):Nat->Nat->St->Nat->Option (St×Option Prop)
 |0,_,st,_=>some (st,none)
 |c+1,i,st,nid=>
  match RY K (CA dirs i).pre st with
  |none=>none
  |some (st1,p)=>
   match gd ops st1 (opAt ops i) with
   |none=>none
   |some false=>(match runO K ops dirs c (i+1) (st1.app (opAt ops i).dst .undef []) nid with|some (st2,q)=>some (st2,an p q)|none=>none)
   |some true=>
    match (CA dirs i).ex with
    | some e=>bif nvOk e.nv e.ob&&(PA K.m e.nv&&(st1.freeB e.nv&&nvRo st1 e)) then
      (match runO K ops dirs c (i+1) (st1.app (opAt ops i).dst e.x e.ob) (nxt nid e.nv) with|some (st2,q)=>some (st2,an p (an (some (Step K (st1.only e.rs e.ro) (opAt ops i) e.nv e.ob e.x)) q))|none=>none) else none
    |none=>
     match opEv K.P K.globs st1 nid (CA dirs i).rw (opAt ops i).op with
     |none=>none
     | some (x,nv,ob,p1,_)=>bif nvOk nv ob&&(PA K.m nv&&st1.freeB nv) then
       (match fixV (CA dirs i).fx x with
       |none=>none
       |some (x',p2)=>(match runO K ops dirs c (i+1) (st1.app (opAt ops i).dst x' ob) (nxt nid nv) with|some (st2,q)=>some (st2,an p (an p1 (an p2 q)))|none=>none)) else none
theorem qGd {K:Ctx} {ops:Array Oper} {i:Nat} {st st1:St} {l:List Fin} {p:Option Prop} {Q:Exit->St->Prop} (hf:RY K l st=some (st1,p)) (hp:oP p) (h:HOps K ops i st1 Q):HOps K ops i st Q:=λM a w hs=>by
 obtain⟨M',hs'⟩:=DO hf hp hs;exact h M' a w hs'
theorem LD {K:Ctx} {ops:Array Oper} {dirs:List (Nat×Dir)} {Q:Exit->St->Prop} (hok:NT K.nt ops=true):∀{c i:Nat} {st st':St} {nid:Nat} {q:Option Prop},runO K ops dirs c i st nid=some (st',q)->oP q->i+c<=ops.size->HOps K ops (i+c) st' Q->HOps K ops i st Q
 |0,_,_,_,_,_,h,_,_,hk=>by cases h;exact hk
 |c+1,i,st,st',nid,q,h,hq,hle,hk=>by
  have hlt:Nat.blt i ops.size=true:=by rw[kH];omega
  rw[show i+(c+1)=i+1+c by omega] at hk;simp only[runO] at h;split at h
  ·cases h
  ·rename_i st1 p hf;split at h
   ·cases h
   ·rename_i hg;split at h
    ·rename_i st2 q2 hr;cases h;obtain⟨h1,h2⟩:=ZW hq;exact qGd hf h1 (qLp hok hlt hg (LD hok hr h2 (by omega) hk))
    ·cases h
   ·rename_i hg;split at h
    ·rename_i e he;cases hb:nvOk e.nv e.ob&&(PA K.m e.nv&&(st1.freeB e.nv&&nvRo st1 e)) with
     |false=>rw[hb] at h;cases h
     |true=>
      rw[hb] at h;simp only[ki] at h;simp only[kn] at hb;split at h
      ·rename_i st2 q2 hr;cases h;obtain⟨h1,h2⟩:=ZW hq;obtain⟨h3,h4⟩:=ZW h2;exact qGd hf h1 (qHv hok hlt hg (qLP hb.2.2.2 h3) hb.1 (St.free_of hb.2.2.1) hb.2.1 (LD hok hr h4 (by omega) hk))
      ·cases h
    ·split at h
     ·cases h
     ·rename_i x nv ob p1 ro ho;cases hb:nvOk nv ob&&(PA K.m nv&&st1.freeB nv) with
      |false=>rw[hb] at h;cases h
      |true=>
       rw[hb] at h;simp only[ki] at h;simp only[kn] at hb;split at h
       ·cases h
       ·rename_i x' p2 hx;split at h
        ·rename_i st2 q2 hr;cases h;obtain⟨h1,h2⟩:=ZW hq;obtain⟨h3,h4⟩:=ZW h2;obtain⟨h5,h6⟩:=ZW h4;have:=qKr hx h5;subst this;exact qGd hf h1 (qHv hok hlt hg (qGY ho h3) hb.1 (St.free_of hb.2.2) hb.2.1 (LD hok hr h6 (by omega) hk))
        ·cases h
def seen (want:St) (r:Option (St×Option Prop)):Option (List (Option V)×List (Option (Nat×O))×Option Prop):=
 match r with
 |some (st,q)=>some (want.slots.map (λp=>look p.1 st.slots),want.objs.map (λp=>look p.1 st.objs),q)
 |none=>none
def wish (want:St) (q:Option Prop):Option (List (Option V)×List (Option (Nat×O))×Option Prop):=some (want.slots.map (λp=>some p.2),want.objs.map (λp=>some p.2),q)
theorem qAW {want:St} {r:Option (St×Option Prop)} {q:Option Prop} (h:seen want r=wish want q):∃st,r=some (st,q)/\Sub want st:=by
 unfold seen wish at h;split at h
 ·rename_i st q';simp only[ue,Prod.mk.injEq] at h;obtain⟨h1,h2,rfl⟩:=h;exact⟨st,rfl,h1,h2⟩
 ·cases h
theorem H_fin {K:Ctx} {st:St} {c:Code} {Q:Exit->St->Prop} (fins:List Fin) (want:St) {q:Option Prop} (hq:oP q) (hf:seen want (RY K fins st)=wish want q) (h:H K want c Q):H K st c Q:=λM a w hs=>by
 obtain⟨st',h1,hsub⟩:=qAW hf;obtain⟨M',hs'⟩:=DO h1 hq hs;exact h _ a w (hs'.sub hsub)
def runF (K:Ctx) (ops:Array Oper) (dirs:List (Nat×Dir)) (fin:List Fin) (st:St) (nid:Nat):Option (St×Option Prop):=
 bif NT K.nt ops then(match runO K ops dirs ops.size 0 st nid with|some (st1,p)=>(match RY K fin st1 with|some (st2,q)=>some (st2,an p q)|none=>none)|none=>none) else none
section
variable {K :Ctx} {st:St} {Q:Exit->St->Prop}
theorem R_rn (fn:Func) (nn id:Nat) (dirs:List (Nat×Dir)) (fin:List Fin) (nid:Nat) (want:St) {q:Option Prop} (hq:oP q) (hc:nd fn nn= .region id (rg fn nn) false) (h:seen want (runF K (rg fn nn) dirs fin st nid)=wish want q) (hk:Q .normal want):H K st (nd fn nn) Q:=by
 rw[hc];generalize rg fn nn=ops at h;obtain⟨st',h1,hs⟩:=qAW h;unfold runF at h1;cases hok:NT K.nt ops with
 |false=>rw[hok] at h1;cases h1
 |true=>
  rw[hok] at h1;simp only[ki] at h1;split at h1
  ·rename_i st1 p hr;split at h1
   ·rename_i st2 q2 hf;cases h1;obtain⟨p1,p2⟩:=ZW hq;refine qIE (LD hok hr p1 (by omega) ?_);intro M a w hsim;obtain⟨M',hs'⟩:=DO hf p2 hsim;rw[kv,Nat.sub_self];exact⟨_,want,hk,hs'.sub hs⟩
   ·cases h1
  ·cases h1
def qCN (op:Op):List Nat:=op.operands.toList.filterMap fun| .tmp t=>some t|_=>none
def IG (ops:Array Oper) (o:Oper):List Nat:=match o.guard with|none=>[]|some (j,_)=>(match (opAt ops j).dst with|some d=>[d]|none=>[])
def qCY (K:Ctx) (ops:Array Oper) (dirs:List (Nat×Dir)):Nat->Nat->St->Nat->Option (List Ent×Option Prop)
 |0,_,_,_=>some ([],none)
 |c+1,i,st,nid=>
  match gd ops (st.only (IG ops (opAt ops i)) []) (opAt ops i) with
  |none=>none
  |some false=>(match qCY K ops dirs c (i+1) (st.app (opAt ops i).dst .undef []) nid with|some (es,q)=>some (⟨false,.undef,[],[],IG ops (opAt ops i),[]⟩::es,q)|none=>none)
  |some true=>
   match (CA dirs i).ex with
   |some e=>(match gd ops (st.only e.rs e.ro) (opAt ops i) with
    | some true=>bif e.run&&nvRo st e then
      (match qCY K ops dirs c (i+1) (st.app (opAt ops i).dst e.x e.ob) (nxt nid e.nv) with|some (es,q)=>some (e::es,an (some (Step K (st.only e.rs e.ro) (opAt ops i) e.nv e.ob e.x)) q)|none=>none) else none
    |_=>none)
   |none=>
    match opEv K.P K.globs st nid (CA dirs i).rw (opAt ops i).op with
    |none=>none
    |some (_,_,_,_,ro)=>
     match opEv K.P K.globs (st.only (qCN (opAt ops i).op++IG ops (opAt ops i)) ro) nid (CA dirs i).rw (opAt ops i).op,gd ops (st.only (qCN (opAt ops i).op++IG ops (opAt ops i)) ro) (opAt ops i) with
     |some (x,nv,ob,p1,_),some true=>(match fixV (CA dirs i).fx x with
      |none=>none
      | some (x',p2)=>bif nvRo st ⟨true,x',nv,ob,qCN (opAt ops i).op++IG ops (opAt ops i),ro⟩ then
        (match qCY K ops dirs c (i+1) (st.app (opAt ops i).dst x' ob) (nxt nid nv) with|some (es,q)=>some (⟨true,x',nv,ob,qCN (opAt ops i).op++IG ops (opAt ops i),ro⟩::es,an p1 (an p2 q))|none=>none) else none)
     |_,_=>none
theorem HF {ops:Array Oper} {dirs:List (Nat×Dir)}:∀{c i:Nat} {st:St} {nid:Nat} {es:List Ent} {q:Option Prop},qCY K ops dirs c i st nid=some (es,q)->oP q->es.length=c/\MQ K ops i st es
 |0,_,_,_,_,_,h,_=>by cases h;exact⟨rfl,trivial⟩
 |c+1,i,st,nid,es,q,h,hq=>by
  simp only[qCY] at h;split at h
  ·cases h
  ·rename_i hg;split at h
   ·rename_i es' q' hr;cases h;obtain⟨i1,i2⟩:=HF hr hq;exact⟨by simp[i1],⟨hg,rfl,rfl,rfl⟩,i2⟩
   ·cases h
  ·rename_i hg0;split at h
   ·rename_i e he;split at h
    ·rename_i hg;cases hb:e.run&&nvRo st e with
     |false=>rw[hb] at h;cases h
     |true=>
      rw[hb] at h;simp only[ki] at h;rw[kn] at hb;split at h
      ·rename_i es' q' hr;cases h;obtain⟨h1,h2⟩:=ZW hq;obtain⟨i1,i2⟩:=HF hr h2;refine⟨by simp[i1],?_,i2⟩;unfold qH4;rw[hb.1];exact⟨hg,hb.2,h1⟩
      ·cases h
    ·cases h
   ·split at h
    ·cases h
    ·rename_i ro _;split at h
     ·rename_i x nv ob p1 _ ho hg;split at h
      ·cases h
      ·rename_i x' p2 hx;cases hb:nvRo st ⟨true,x',nv,ob,qCN (opAt ops i).op++IG ops (opAt ops i),ro⟩ with
       |false=>rw[hb] at h;cases h
       |true=>
        rw[hb] at h;simp only[ki] at h;split at h
        ·rename_i es' q' hr;cases h;obtain⟨h1,h2⟩:=ZW hq;obtain⟨h3,h4⟩:=ZW h2;obtain⟨i1,i2⟩:=HF hr h4;have:=qKr hx h3;subst this;exact⟨by simp[i1],⟨hg,hb,qGY ho h1⟩,i2⟩
        ·cases h
     ·cases h
def drawF (K:Ctx) (ops:Array Oper) (dirs:List (Nat×Dir)) (fin:List Fin) (bm:List Nat) (st:St) (nid:Nat):Option (St×Option Prop):=
 match qCY K ops dirs ops.size 0 st nid with
 | some (es,p)=>bif NT K.nt ops&&(qAC ops bm&&(zaQ ops bm 0 es&&(es.all (λe=>nvOk e.nv e.ob&&PA K.m e.nv)&&es.all (λe=>st.freeB e.nv)))) then
   (match RY K fin (AQ ops 0 st es) with|some (st2,q)=>some (st2,an p q)|none=>none) else none
 |none=>none
theorem R_draw0 {c:Code} (id:Nat) (ops:Array Oper) (dirs:List (Nat×Dir)) (fin:List Fin) (bm:List Nat) (nid:Nat) (want:St) {st':St} {q:Option Prop} (hq:oP q) (hc:c= .region id ops true) (h1:drawF K ops dirs fin bm st nid=some (st',q)) (hs:Sub want st') (hk:Q .normal want):H K st c Q:=by
 subst hc;unfold drawF at h1;split at h1
 ·rename_i es p hr;cases hb:NT K.nt ops&&(qAC ops bm&&(zaQ ops bm 0 es&&(es.all (λe=>nvOk e.nv e.ob&&PA K.m e.nv)&&es.all (λe=>st.freeB e.nv)))) with
  |false=>rw[hb] at h1;cases h1
  |true=>
   rw[hb] at h1;simp only[ki] at h1;simp only[kn (a:=NT K.nt ops),kn (a:=qAC ops bm),kn (a:=zaQ ops bm 0 es),kn (a:=es.all (λe=>nvOk e.nv e.ob&&PA K.m e.nv))] at hb;obtain⟨b1,b2,b3,b4,b5⟩:=hb;split at h1
   ·rename_i st2 q2 hf;cases h1;obtain⟨p1,p2⟩:=ZW hq;obtain⟨i1,i2⟩:=HF hr p1;have hH:H K st (.region id ops true) (λe st'=>match e with| .normal=>st'=AQ ops 0 st es|_=>False):=H_draw es bm b1 (by rw[i1];simp) b2 b3 b4 b5 i2 rfl;intro M a w hsim;refine wpIn_mono (hH M a w hsim) ?_;rintro e a' w' ⟨M',st3,hq3,hs3⟩;cases e with
    |normal=>
     obtain rfl:st3=AQ ops 0 st es:=hq3;obtain⟨M4,hs4⟩:=DO hf p2 hs3;exact⟨_,want,hk,hs4.sub hs⟩
    |_=>exact hq3.elim
   ·cases h1
 ·cases h1
def OJ (K:Ctx) (ops:Array Oper) (pre:List Fin) (dirs:List (Nat×Dir)) (fin:List Fin) (bm:List Nat) (st:St) (nid:Nat):Option (St×Option Prop):=
 match RY K pre st with
 |some (st0,p)=>(match drawF K ops dirs fin bm st0 nid with|some (st2,q)=>some (st2,an p q)|none=>none)
 |none=>none
theorem R_dr (fn:Func) (nn id:Nat) (pre:List Fin) (dirs:List (Nat×Dir)) (fin:List Fin) (bm:List Nat) (nid:Nat) (want:St) {q:Option Prop} (hq:oP q) (hc:nd fn nn= .region id (rg fn nn) true) (h:seen want (OJ K (rg fn nn) pre dirs fin bm st nid)=wish want q) (hk:Q .normal want):H K st (nd fn nn) Q:=by
 rw[hc];generalize rg fn nn=ops at h;obtain⟨st',h1,hs⟩:=qAW h;unfold OJ at h1;split at h1
 ·rename_i st0 p0 h0;split at h1
  ·rename_i st2 q2 h2;cases h1;obtain⟨p1,p2⟩:=ZW hq;intro M a w hsim;obtain⟨M0,hs0⟩:=DO h0 p1 hsim;exact R_draw0 id ops dirs fin bm nid want p2 rfl h2 hs hk M0 a w hs0
  ·cases h1
 ·cases h1
end
end Go.SL

namespace Go.SL
open Go.RowKit Go.ChangeShapes Go.WideShapes
def Rc (w:World) (xs:List C) (cs:List Value):Prop:=cs.length=xs.length/\∀j,j<xs.length->IRep w (λ_=>True) (xs.getD j .unk) (cs.getD j undef)
theorem Rc.append {w:World} {xs ys:List C} {cs ds:List Value} (h:Rc w xs cs) (k:Rc w ys ds):Rc w (xs++ys) (cs++ds):=by
 refine⟨by simp[h.1,k.1],λj hj=>?_⟩;rw[kE] at hj;by_cases hx:j<xs.length
 ·have:=h.2 j hx;simpa[ke,kz hx,kz (show j<cs.length by rw[h.1];exact hx)] using this
 ·have:=k.2 (j-xs.length) (by omega);simpa[ke,ky (show xs.length<=j by omega),ky (show cs.length<=j by rw[h.1];omega),h.1] using this
theorem Rc.one {w:World} {c:C} {v:Value} (h:IRep w (λ_=>True) c v):Rc w [c] [v]:=by
 refine⟨rfl,λj hj=>?_⟩;obtain rfl:j=0:=by simpa using hj
 exact h
structure wL (P:Program) (t:TypeId) {T:Type} (e:T->List C) (wf:T->Prop) (D:∀H:Type,DataW H->T->Prop):Prop where
 sz:∀r,(e r).length=P.cellsOf t
 rd:∀(H:Type) (enc:TypeId×Value->H) (w:World) (held:Bool) (fuel:Nat) (cs:List Value) (x:DataW H×List MemPlace),DataW.trod enc P w 0 (λ_=>true) held fuel t cs=some x->∃r,wf r/\Rc w (e r) cs/\D H x.1 r
def ZE (n:Int):Prop:= -9223372036854775808<=n/\n<=9223372036854775807
def ZG (H:Type) (d:DataW H) (n:Int):Prop:=d= .lit (.int .i64 n)
def qJr (H:Type) (d:DataW H) (b:Bool):Prop:=d= .lit (.bool b)
def D_sl {T:Type} (D:∀H:Type,DataW H->T->Prop) (H:Type) (d:DataW H) (r:List T):Prop:=(d= .nil/\r=[])\/∃ds sp,d= .slice ds sp/\ds.length=r.length/\∀(i:Nat) (d:DataW H) (x:T),ds[i]? =some d->r[i]? =some x->D H d x
theorem qL1 {P:Program} {t:TypeId} (ht:P.underlying t=some (.int .i64)) (hc:P.cellsOf t=1):wL P t qJ ZE ZG:=by
 refine⟨λ_=>hc.symm,λH enc w held fuel cs x h=>?_⟩;obtain⟨n,rfl,rfl,hw⟩:=DataW.trod_int ht h;refine⟨n,?_,Rc.one (.val _ rfl),rfl⟩;simp only[Lit.wf,kn,decide_eq_true_eq] at hw;exact hw
theorem qKC {P:Program} {t:TypeId} (ht:P.underlying t=some .bool) (hc:P.cellsOf t=1):wL P t qL6 (λ_=>True) qJr:=by
 refine⟨λ_=>hc.symm,λH enc w held fuel cs x h=>?_⟩;obtain⟨n,rfl,rfl⟩:=DataW.trod_bool ht h;exact⟨n,trivial,Rc.one (.val _ rfl),rfl⟩
theorem qLe {P:Program} {t:TypeId} {T S:Type} {e:T->List C} {wf:T->Prop} {D:∀H:Type,DataW H->T->Prop} (h:wL P t e wf D) (g:T->S) {e':S->List C} {wf':S->Prop} {D':∀H:Type,DataW H->S->Prop}
  (he:∀r,e' (g r)=e r) (hsz:∀s,(e' s).length=P.cellsOf t) (hw:∀r,wf r->wf' (g r)) (hd:∀H d r,D H d r->D' H d (g r)):wL P t e' wf' D':=by
 refine⟨hsz,λH enc w held fuel cs x hx=>?_⟩;obtain⟨r,h1,h2,h3⟩:=h.rd _ _ _ _ _ _ _ hx;exact⟨g r,hw r h1,by rw[he];exact h2,hd _ _ _ h3⟩
theorem qID {w:World} {a:Addr} {n:Nat} {cs:List Value} (h:w.cells? 0 a n=some cs):cs.length=n/\∀j,j<n->w.cell? (a.add j)=cs[j]? :=by
 obtain⟨_,h1,h2⟩:=World.cells?_some h;exact⟨h1,h2⟩
theorem qJz (b o j:Nat):(⟨b,o,none⟩:Addr).add j=⟨b,o+j,none⟩:=add_plain ..
theorem PT {P:Program} {t e:TypeId} {T:Type} [Inhabited T] {eT:T->List C} {wf:T->Prop} {D:∀H:Type,DataW H->T->Prop} (ht:P.underlying t=some (.slice e)) (hc:P.cellsOf t=1) (hpos:0<P.cellsOf e) (h:wL P e eT wf D):
  wL P t (λl:List T=>[tl eT du l]) (λl=>l.length<=maxLen/\∀x∈l,wf x) (D_sl D):=by
 refine⟨λ_=>hc.symm,λH enc w held fuel cs x hx=>?_⟩;rcases Deep.open_slice ht hx with⟨rfl,rfl⟩|⟨a,len,cap,m,n,DD,Pl,rfl,_,hl,hm,hmm,rfl,hel⟩
 ·exact⟨[],⟨ud _,λ_ hx=>by cases hx⟩,Rc.one (.lst0 _ _),Or.inl ⟨rfl,rfl⟩⟩
 ·have hmm':m=cap:=by simpa using hmm
  subst hmm';have hex:∀i,i<m->∃y:T×List Value,w.cells? 0 (a.add (i*P.cellsOf e)) (P.cellsOf e)=some y.2/\wf y.1/\Rc w (eT y.1) y.2/\D H (DD i) y.1:=λi hi=>by
   obtain⟨cs',h1,h2⟩:=hel i hi;obtain⟨r,h3,h4,h5⟩:=h.rd _ _ _ _ _ _ _ h2;exact⟨(r,cs'),h1,h3,h4,h5⟩
  obtain⟨f,hf⟩:=Deep.choose_lt hex;by_cases hm0:m=0
  ·subst hm0;obtain rfl:len=0:=by omega
   exact⟨[],⟨ud _,λ_ hx=>by cases hx⟩,Rc.one (.lst0 _ _),Or.inr ⟨[],_,rfl,rfl,λi d x hi=>by simp at hi⟩⟩
  ·have hsp:a.spot=none:=by
    have h0:=(qID (hf 0 (by omega)).1)
    have h1:=h0.2 0 hpos;obtain⟨v,hv⟩:∃v,(f 0).2[0]? =some v:=⟨(f 0).2[0]'(by rw[h0.1];exact hpos),ku _⟩
    rw[hv] at h1;simpa[Addr.add] using World.cell?_spot h1
   obtain⟨b,o,sp⟩:=a;simp only at hsp;subst hsp;refine⟨(List.range len).map λi=>(f i).1,⟨by simpa using uC hl hm,λx hx=>?_⟩,Rc.one ?_,Or.inr ⟨_,_,rfl,by simp,λi d x hi hx=>?_⟩⟩
   ·obtain⟨i,hi,rfl⟩:=uX.1 hx;exact(hf i (by have:=gb.1 hi;omega)).2.1
   ·have key:∀i,i<len->rowf eT du ((List.range len).map λi=>(f i).1) i=eT (f i).1:=λi hi=>by
     simp[rowf,ke,hi]
    have hlen:((List.range len).map λi=>(f i).1).length=len:=by simp
    unfold tl;rw[hlen];refine .lst b o len m (P.cellsOf e) _ (λi j=>(f i).2.getD j undef) hl hm (λi hi=>?_) (λ_ _ _ _=>trivial) (λi j hi hj=>?_) (λi j hi hj=>?_)
    ·rw[key i hi];exact h.sz _
    ·have h1:=qID (hf i (by omega)).1;have h2:=h1.2 j hj;rw[qJz,qJz,uH] at h2;rw[h2,ke,ku (by rw[h1.1];exact hj)];rfl
    ·rw[key i hi];exact(hf i (by omega)).2.2.1.2 j (by rw[h.sz];exact hj)
   ·simp only[kD,kG] at hi hx;obtain⟨k,hk,rfl⟩:=hi;obtain⟨k',hk',rfl⟩:=hx;obtain rfl:k=k':=kF (hk.symm.trans hk');have:=gb.1 (ux hk);exact(hf k (by omega)).2.2.2
theorem v1_agg {w:World} {xs:List C} {vs:Array Value} (h:Rc w xs vs.toList):zA w (Mem.of λ_=>True) (.agg xs) (.agg vs):=by
 refine⟨vs,rfl,by simpa using h.1,λj hj=>?_⟩;have h1:=h.2 j hj;have e:vs.getD j undef=vs.toList.getD j undef:=by simp[kq,ke]
 rw[e]
 revert h1
 generalize xs.getD j .unk=c;generalize vs.toList.getD j undef=v;intro h1;have h2:IRep w (Mem.of λ_=>True).imm c v:=h1.move (λ_ _ _=>rfl) λb _ _=>⟨trivial,fun⟨_,_,hv,_⟩=>by cases hv⟩
 cases h1<;>exact h2
theorem v1_one {w:World} {c:C} {v:Value} (h:IRep w (λ_=>True) c v):zA w (Mem.of λ_=>True) (.one c) v:=by
 have h2:IRep w (Mem.of λ_=>True).imm c v:=h.move (λ_ _ _=>rfl) λb _ _=>⟨trivial,fun⟨_,_,hv,_⟩=>by cases hv⟩
 cases h<;>exact h2
end Go.SL

namespace Go.SL
open Go.RowKit Go.ChangeShapes Go.WideShapes
theorem qBB {H:Type} {enc:TypeId×Value->H} {P:Program} (hl:laidOutB P=true) {W W':World} {sp':Nat->Bool} (hb:Below W.heap.size W W'):
  ∀{ts:List TypeId} {vs:List Value} {ds:List (DataW H)} {ps:List MemPlace},(ts.all λt=>P.readableRec t&&decide (t<P.types.size))=true->DataW.TrodAll enc P W 0 (λ_=>true) true ts vs ds ps->
   (∀p∈ps,p.block<W.heap.size)->(∀p∈ps,sp' p.block=true)->DataW.TrodAll enc P W' 0 sp' true ts vs ds ps
 |[],_,_,_,_,h,_,_=>by
  obtain⟨rfl,rfl,rfl⟩:=trodAll_nil h;exact trodAll_mk0
 |t::ts,_,_,_,hr,h,hlt,hsp=>by
  obtain⟨v,vs1,d,ds1,a,b,rfl,rfl,rfl,h1,h2⟩:=trodAll_cons h;simp only[List.all_cons,kn,decide_eq_true_eq] at hr;refine⟨a,b,WideElems.Trod_stays hl hr.1.1 hr.1.2 h1 (λx hx=>hb.same (hlt x (List.mem_append_left _ hx))) (λx hx=>hsp x (List.mem_append_left _ hx)),?_,rfl⟩;exact qBB hl hb hr.2 h2 (λx hx=>hlt x (List.mem_append_right _ hx)) (λx hx=>hsp x (List.mem_append_right _ hx))
theorem qLk {H:Type} {enc:TypeId×Value->H} {P:Program} {f:Func} {s:ChangeSpec} {tb:TypeId} {apart fresh handsOn again:Bool} {W W':World} {args:Array Value} {ds gs:List (DataW H)} {before:List MemPlace}
  (hl:laidOutB P=true) (hpar:(f.params.toList.all λt=>P.readableRec t&&decide (t<P.types.size))=true) (hrt:f.resultTypes= #[tb]) (htb:P.underlying tb=some .bool) (hv:s.vars=[])
  (hfn:s.fn H ds={results:=[.lit (.bool true)],args:=ds})
  (hW:DataW.Whole enc P f.params.toList s.vars apart W args.toList ds gs before) (hb:Below W.heap.size W W'):s.post enc P f apart fresh handsOn again W args (.bool true) W':=by
 have hW0:=hW;have hold:∀p∈before,p.block<W.heap.size:=λp hp=>hW.lt p hp;obtain⟨p,q,hA,hV,hpq,hz,hn⟩:=hW;rw[hv] at hV;obtain⟨rfl,rfl⟩:=trodVars_none hV;rw[kX] at hpq;subst hpq;have hargs:∀sp:Nat->Bool,(∀p∈before,sp p.block=true)->DataW.TrodAll enc P W' 0 sp true f.params.toList args.toList (s.fn H (ds++[])).args before:=λsp hsp=>by
  rw[kX,hfn];exact qBB hl hb hpar hA hold hsp
 have hres:∀(b:Nat) (sp:Nat->Bool) (hd:Bool),DataW.TrodAll enc P W' b sp hd f.resultTypes.toList ((Value.bool true).resultList f.resultTypes.size) (s.fn H (ds++[])).results []:=λb sp hd=>by
  rw[kX,hfn,hrt];exact trodAll_cons_mk (shut_bool htb _) trodAll_mk0
 have hvars:∀sp:Nat->Bool,DataW.TrodVars enc P W' sp s.vars (s.fn H (ds++[])).vars []:=λsp=>by
  rw[kX,hfn,hv];rfl
 refine⟨ds,[],before,[],before,[],hW0,hres _ _ _,hargs _ (λp hp=>by simpa using hold p hp),hvars _,World.keptBut_mono (λp hp=>⟨hp,Or.inr (.inl hp)⟩) (hb.frame (·∈before)),λ_=>?_⟩;refine⟨?_,_,_,([]++before)++[],⟨[]++before,[],trodAll_append (hargs _ (λ_ _=>rfl)) (hres _ _ _),hvars _,rfl,?_,?_⟩,?_⟩
 ·intro j t r hj hr;rw[hrt] at hj hr
  match j,hj,hr with
  |0,hj,hr=>
   simp[Value.resultList] at hj hr;subst hj;subst hr;exact okWide_bool_mk htb _
 ·intro b off hp;have hp':MemPlace.cell b off∈before:=by simpa using hp
  rw[hb.frozen (p:=⟨b,off,none⟩) (hold _ hp')];exact hz b off hp'
 ·intro ha;simpa using hn ha
 ·intro p hp _;simpa using hp
abbrev Ct (P:Program) (gl:List (Nat×C)) (f:FuncId) (xs:List V1) (x:V) (ob:List (Nat×(Nat×O))):Prop:=CtX P gl f 0 0 xs [] x ob
abbrev qKx (w:World) (A:Nat->Prop) (xs:List V1) (vs:Array Value):Prop:=qCr w (Mem.of A) xs vs
theorem CtX.top {P:Program} {gl:List (Nat×C)} {f:FuncId} {xs:List V1} {x:V} {ob:List (Nat×(Nat×O))} (h:CtX P gl f 0 0 xs [] x ob) (w:World) (A:Nat->Prop) (vs:Array Value) (hg:DP gl w A) (ha:qKx w A xs vs):
  Calls P f vs w λe w'=>∃v,e= .returned v/\Below w.heap.size w w'/\∃M',qBn w w' (Mem.of A) M' 0 x ob v:=
 (h w (Mem.of A) vs hg ⟨λi j k l b hi=>(by cases hi),λi k b hi=>(by cases hi),λi hi=>absurd rfl hi,λi k o ho=>(by cases ho)⟩ ha).mono λe w' ⟨v,M',he,hb,_,hr⟩=>
  ⟨v,he,hb.below λb ⟨i,k,hv,_⟩=>(by cases hv),M',hr⟩
theorem qMs {w w':World} {A:Nat->Prop} {v:Value} (h:∃M',qBn w w' (Mem.of A) M' 0 (.v (.one (.val (.bool true)))) [] v):v= .bool true:=by
 obtain⟨M,hr⟩:=h;exact IRep.val_eq hr.val
theorem qM0 {w:World} {A:Nat->Prop} {x0 x1:V1} {v0 v1:Value} (h0:zA w (Mem.of A) x0 v0) (h1:zA w (Mem.of A) x1 v1):qKx w A [x0,x1] #[v0,v1]:=⟨rfl,λj hj=>by
 match j,hj with
 |0,_=>exact h0
 |1,_=>exact h1⟩
theorem qGi {P:Program} {t:TypeId} {fs:Array Field} {T:Type} {e:T->List C} {wf:T->Prop} {D:∀H:Type,DataW H->T->Prop} (hr:wL P t e wf D) (ht:P.underlying t=some (.struct fs)) {H:Type} {enc:TypeId×Value->H} {w:World} {r:Reach} {b0:Nat} {v:Value} {d:DataW H} {ps:List MemPlace}
  (hval:Value.okWide P w r b0 t v) (hd:DataW.Trod enc P w 0 (λ_=>true) true t v d ps):∃x,wf x/\D H d x/\zA w (Mem.of λ_=>True) (.agg (e x)) v:=by
 obtain⟨cs,rfl,_⟩:=okWide_struct ht hval;obtain⟨fuel,hf⟩:=hd;obtain⟨x,h1,h2,h3⟩:=hr.rd _ _ _ _ _ _ _ hf;exact⟨x,h1,h3,v1_agg h2⟩
theorem qHI {P:Program} {t e:TypeId} {T:Type} [Inhabited T] {eT:T->List C} {wf:List T->Prop} {D:∀H:Type,DataW H->List T->Prop} (hr:wL P t (λl:List T=>[tl eT du l]) wf D) (ht:P.underlying t=some (.slice e)) {H:Type} {enc:TypeId×Value->H} {w:World} {r:Reach} {b0:Nat} {v:Value} {d:DataW H} {ps:List MemPlace}
  (hval:Value.okWide P w r b0 t v) (hd:DataW.Trod enc P w 0 (λ_=>true) true t v d ps):∃x:List T,wf x/\D H d x/\zA w (Mem.of λ_=>True) (.one (tl eT du x)) v:=by
 obtain⟨a,n,c,rfl⟩:=okWide_slice ht hval;obtain⟨fuel,hf⟩:=hd;obtain⟨x,h1,h2,h3⟩:=hr.rd _ _ _ _ _ _ _ hf;exact⟨x,h1,h3,v1_one (by simpa[Value.cells] using h2.2 0 (by simp))⟩
end Go.SL
